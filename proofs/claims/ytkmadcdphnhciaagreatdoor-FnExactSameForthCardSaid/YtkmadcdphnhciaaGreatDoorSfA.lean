import Derived.Test.YtkmadcdphnhciaaGreatDoorDoE
/- Forths held against each other, by the program; contracts. -/
set_option linter.unusedVariables false
set_option linter.unusedSimpArgs false
set_option maxRecDepth 100000
open Go Go.Abs Go.Proofs V1 H1 K1 K2 K3 K4 I1 I2 I3 I4 M1 M2 M3 M4 M7
namespace Q1




theorem c197 (xs ys : List Bool) : Con Tryz.prog 197 [roB xs, roB ys] (undefs [roB xs, roB ys]) (.bool (decide (xs = ys))) := by
  refine Con.evF 26 T_ok mix Tryz.func197 rfl rfl rfl rfl [.tmp 4] rfl fun ⟨hx, _⟩ => ?_
  have hx : xs.length ≤ 9223372036854775807 := facts_len (f := boolR) hx
  conv => whnf
  (refine br_s ?_ ?_ <;> intro hb <;> (try simp only [cln] at hb) <;> conv=>whnf)
  (apply rq_s rfl;conv=>whnf)
  iterate 2 (rotate_left)
  · refine sh_s ?_
    have : xs ≠ ys := fun e => hb (by rw [e])
    simp [this]
  · refine LoopG.rounds (α := Nat) T_ok mix [0, 1, 12, 13] [] (fun i => [(0, roB xs), (1, roB ys), (12, .int .i64 xs.length), (13, .int .i64 i)]) (fun _ => []) (fun i => i ≤ xs.length ∧ xs.take i = ys.take i) (fun i => xs.length - i) ?_ ?_
    · conv => whnf
      exact head_s 0 ⟨by simp, by simp⟩ (by simp [roB]) rfl
    · rintro i ⟨h1, h2⟩ - -
      conv => whnf
      (refine br_s ?_ ?_ <;> intro hb <;> (try simp only [cln] at hb) <;> conv=>whnf)
      iterate 3 (refine ChkS.mk (by kernel_rfl) ?_;conv=>whnf)
      (apply rq_s rfl;conv=>whnf)
      (refine rq_s (by refine and_s rfl ?_; simp only [lnm]; omega) ?_;conv=>whnf)
      (refine ChkS.mk (by kernel_rfl) ?_;conv=>whnf)
      (refine row_s (by ((try simp only [Int.toNat_natCast]); exact row_map boolR _ _ _ default (by first | omega | (simp; omega)))) ?_;conv=>whnf)
      iterate 3 (refine ChkS.mk (by kernel_rfl) ?_;conv=>whnf)
      (apply rq_s rfl;conv=>whnf)
      (refine rq_s (by refine and_s rfl ?_; simp only [lnm]; omega) ?_;conv=>whnf)
      (refine ChkS.mk (by kernel_rfl) ?_;conv=>whnf)
      (refine row_s (by ((try simp only [Int.toNat_natCast]); exact row_map boolR _ _ _ default (by first | omega | (simp; omega)))) ?_;conv=>whnf)
      iterate 2 (refine ChkS.mk (by kernel_rfl) ?_;conv=>whnf)
      (refine br_s ?_ ?_ <;> intro hb <;> (try simp only [cln] at hb) <;> conv=>whnf)
      (apply rq_s rfl;conv=>whnf)
      iterate 2 (rotate_left)
      (apply rq_s rfl;conv=>whnf)
      rotate_left
      · refine sh_s ?_
        have : xs ≠ ys := fun e => by rw [e] at hb; simp at hb
        simp [this]
      · exact head_s (i + 1) ⟨⟨by omega, take_next default h2 (by omega) (by omega) hb⟩, by omega⟩ (by rw [wrap64 (by omega) (by omega)]; rfl) rfl
      · refine sh_s ?_
        simp [take_done h2 (by omega) (by omega)]

theorem qDeal (a b : Deal) : ((a.c == b.c) && ((a.a == b.a) && ((a.b == b.b) && ((a.r == b.r) && true)))) = decide (a = b) := by
  cases a; cases b
  rw [Bool.eq_iff_iff]
  simp
theorem c198 (xs ys : List Deal) : Con Tryz.prog 198 [roD xs, roD ys] (undefs [roD xs, roD ys]) (.bool (decide (xs = ys))) := by
  refine Con.evF 26 T_ok mix Tryz.func198 rfl rfl rfl rfl [.tmp 4] rfl fun ⟨hx, _⟩ => ?_
  have hx : xs.length ≤ 9223372036854775807 := facts_len (f := dealR) hx
  conv => whnf
  (refine br_s ?_ ?_ <;> intro hb <;> (try simp only [cln] at hb) <;> conv=>whnf)
  (apply rq_s rfl;conv=>whnf)
  iterate 2 (rotate_left)
  · refine sh_s ?_
    have : xs ≠ ys := fun e => hb (by rw [e])
    simp [this]
  · refine LoopG.rounds (α := Nat) T_ok mix [0, 1, 12, 13] [] (fun i => [(0, roD xs), (1, roD ys), (12, .int .i64 xs.length), (13, .int .i64 i)]) (fun _ => []) (fun i => i ≤ xs.length ∧ xs.take i = ys.take i) (fun i => xs.length - i) ?_ ?_
    · conv => whnf
      exact head_s 0 ⟨by simp, by simp⟩ (by simp [roD]) rfl
    · rintro i ⟨h1, h2⟩ - -
      conv => whnf
      (refine br_s ?_ ?_ <;> intro hb <;> (try simp only [cln] at hb) <;> conv=>whnf)
      iterate 3 (refine ChkS.mk (by kernel_rfl) ?_;conv=>whnf)
      (apply rq_s rfl;conv=>whnf)
      (refine rq_s (by refine and_s rfl ?_; simp only [lnm]; omega) ?_;conv=>whnf)
      (refine ChkS.mk (by kernel_rfl) ?_;conv=>whnf)
      (refine row_s (by ((try simp only [Int.toNat_natCast]); exact row_map dealR _ _ _ default (by first | omega | (simp; omega)))) ?_;conv=>whnf)
      iterate 3 (refine ChkS.mk (by kernel_rfl) ?_;conv=>whnf)
      (apply rq_s rfl;conv=>whnf)
      (refine rq_s (by refine and_s rfl ?_; simp only [lnm]; omega) ?_;conv=>whnf)
      (refine ChkS.mk (by kernel_rfl) ?_;conv=>whnf)
      (refine row_s (by ((try simp only [Int.toNat_natCast]); exact row_map dealR _ _ _ default (by first | omega | (simp; omega)))) ?_;conv=>whnf)
      (refine ChkS.mk (by kernel_rfl) ?_;conv=>whnf)
      (apply rq_s (by simp only [lnm]; done);conv=>whnf)
      (refine ChkS.mk (by kernel_rfl) ?_;conv=>whnf)
      (refine br_s ?_ ?_ <;> intro hb <;> (try simp only [cln] at hb) <;> conv=>whnf)
      (apply rq_s rfl;conv=>whnf)
      iterate 2 (rotate_left)
      (apply rq_s rfl;conv=>whnf)
      rotate_left
      · rw [qDeal] at hb
        refine sh_s ?_
        have : xs ≠ ys := fun e => by rw [e] at hb; simp at hb
        simp [this]
      · rw [qDeal] at hb
        exact head_s (i + 1) ⟨⟨by omega, take_next default h2 (by omega) (by omega) (of_decide_eq_true hb)⟩, by omega⟩ (by rw [wrap64 (by omega) (by omega)]; rfl) rfl
      · refine sh_s ?_
        simp [take_done h2 (by omega) (by omega)]

theorem qWd (a b : Wd) : ((a.nm == b.nm) && ((a.k == b.k) && ((a.v == b.v) && true))) = decide (a = b) := by
  cases a; cases b
  rw [Bool.eq_iff_iff]
  simp
theorem c132 (xs ys : List Wd) : Con Tryz.prog 132 [roW xs, roW ys] (undefs [roW xs, roW ys]) (.bool (decide (xs = ys))) := by
  refine Con.evF 26 T_ok mix Tryz.func132 rfl rfl rfl rfl [.tmp 4] rfl fun ⟨hx, _⟩ => ?_
  have hx : xs.length ≤ 9223372036854775807 := facts_len (f := wdR) hx
  conv => whnf
  (refine br_s ?_ ?_ <;> intro hb <;> (try simp only [cln] at hb) <;> conv=>whnf)
  (apply rq_s rfl;conv=>whnf)
  iterate 2 (rotate_left)
  · refine sh_s ?_
    have : xs ≠ ys := fun e => hb (by rw [e])
    simp [this]
  · refine LoopG.rounds (α := Nat) T_ok mix [0, 1, 12, 13] [] (fun i => [(0, roW xs), (1, roW ys), (12, .int .i64 xs.length), (13, .int .i64 i)]) (fun _ => []) (fun i => i ≤ xs.length ∧ xs.take i = ys.take i) (fun i => xs.length - i) ?_ ?_
    · conv => whnf
      exact head_s 0 ⟨by simp, by simp⟩ (by simp [roW]) rfl
    · rintro i ⟨h1, h2⟩ - -
      conv => whnf
      (refine br_s ?_ ?_ <;> intro hb <;> (try simp only [cln] at hb) <;> conv=>whnf)
      iterate 3 (refine ChkS.mk (by kernel_rfl) ?_;conv=>whnf)
      (apply rq_s rfl;conv=>whnf)
      (refine rq_s (by refine and_s rfl ?_; simp only [lnm]; omega) ?_;conv=>whnf)
      (refine ChkS.mk (by kernel_rfl) ?_;conv=>whnf)
      (refine row_s (by ((try simp only [Int.toNat_natCast]); exact row_map wdR _ _ _ default (by first | omega | (simp; omega)))) ?_;conv=>whnf)
      iterate 3 (refine ChkS.mk (by kernel_rfl) ?_;conv=>whnf)
      (apply rq_s rfl;conv=>whnf)
      (refine rq_s (by refine and_s rfl ?_; simp only [lnm]; omega) ?_;conv=>whnf)
      (refine ChkS.mk (by kernel_rfl) ?_;conv=>whnf)
      (refine row_s (by ((try simp only [Int.toNat_natCast]); exact row_map wdR _ _ _ default (by first | omega | (simp; omega)))) ?_;conv=>whnf)
      (refine ChkS.mk (by kernel_rfl) ?_;conv=>whnf)
      (apply rq_s (by simp only [lnm]; done);conv=>whnf)
      (refine ChkS.mk (by kernel_rfl) ?_;conv=>whnf)
      (refine br_s ?_ ?_ <;> intro hb <;> (try simp only [cln] at hb) <;> conv=>whnf)
      (apply rq_s rfl;conv=>whnf)
      iterate 2 (rotate_left)
      (apply rq_s rfl;conv=>whnf)
      rotate_left
      · rw [qWd] at hb
        refine sh_s ?_
        have : xs ≠ ys := fun e => by rw [e] at hb; simp at hb
        simp [this]
      · rw [qWd] at hb
        exact head_s (i + 1) ⟨⟨by omega, take_next default h2 (by omega) (by omega) (of_decide_eq_true hb)⟩, by omega⟩ (by rw [wrap64 (by omega) (by omega)]; rfl) rfl
      · refine sh_s ?_
        simp [take_done h2 (by omega) (by omega)]

theorem qCal (a b : Cal) : ((a.ip == b.ip) && ((a.fl == b.fl) && ((a.dp == b.dp) && ((a.ca == b.ca) && true)))) = decide (a = b) := by
  cases a; cases b
  rw [Bool.eq_iff_iff]
  simp
theorem c135 (xs ys : List Cal) : Con Tryz.prog 135 [roC xs, roC ys] (undefs [roC xs, roC ys]) (.bool (decide (xs = ys))) := by
  refine Con.evF 26 T_ok mix Tryz.func135 rfl rfl rfl rfl [.tmp 4] rfl fun ⟨hx, _⟩ => ?_
  have hx : xs.length ≤ 9223372036854775807 := facts_len (f := calR) hx
  conv => whnf
  (refine br_s ?_ ?_ <;> intro hb <;> (try simp only [cln] at hb) <;> conv=>whnf)
  (apply rq_s rfl;conv=>whnf)
  iterate 2 (rotate_left)
  · refine sh_s ?_
    have : xs ≠ ys := fun e => hb (by rw [e])
    simp [this]
  · refine LoopG.rounds (α := Nat) T_ok mix [0, 1, 12, 13] [] (fun i => [(0, roC xs), (1, roC ys), (12, .int .i64 xs.length), (13, .int .i64 i)]) (fun _ => []) (fun i => i ≤ xs.length ∧ xs.take i = ys.take i) (fun i => xs.length - i) ?_ ?_
    · conv => whnf
      exact head_s 0 ⟨by simp, by simp⟩ (by simp [roC]) rfl
    · rintro i ⟨h1, h2⟩ - -
      conv => whnf
      (refine br_s ?_ ?_ <;> intro hb <;> (try simp only [cln] at hb) <;> conv=>whnf)
      iterate 3 (refine ChkS.mk (by kernel_rfl) ?_;conv=>whnf)
      (apply rq_s rfl;conv=>whnf)
      (refine rq_s (by refine and_s rfl ?_; simp only [lnm]; omega) ?_;conv=>whnf)
      (refine ChkS.mk (by kernel_rfl) ?_;conv=>whnf)
      (refine row_s (by ((try simp only [Int.toNat_natCast]); exact row_map calR _ _ _ default (by first | omega | (simp; omega)))) ?_;conv=>whnf)
      iterate 3 (refine ChkS.mk (by kernel_rfl) ?_;conv=>whnf)
      (apply rq_s rfl;conv=>whnf)
      (refine rq_s (by refine and_s rfl ?_; simp only [lnm]; omega) ?_;conv=>whnf)
      (refine ChkS.mk (by kernel_rfl) ?_;conv=>whnf)
      (refine row_s (by ((try simp only [Int.toNat_natCast]); exact row_map calR _ _ _ default (by first | omega | (simp; omega)))) ?_;conv=>whnf)
      (refine ChkS.mk (by kernel_rfl) ?_;conv=>whnf)
      (apply rq_s (by simp only [lnm]; done);conv=>whnf)
      (refine ChkS.mk (by kernel_rfl) ?_;conv=>whnf)
      (refine br_s ?_ ?_ <;> intro hb <;> (try simp only [cln] at hb) <;> conv=>whnf)
      (apply rq_s rfl;conv=>whnf)
      iterate 2 (rotate_left)
      (apply rq_s rfl;conv=>whnf)
      rotate_left
      · rw [qCal] at hb
        refine sh_s ?_
        have : xs ≠ ys := fun e => by rw [e] at hb; simp at hb
        simp [this]
      · rw [qCal] at hb
        exact head_s (i + 1) ⟨⟨by omega, take_next default h2 (by omega) (by omega) (of_decide_eq_true hb)⟩, by omega⟩ (by rw [wrap64 (by omega) (by omega)]; rfl) rfl
      · refine sh_s ?_
        simp [take_done h2 (by omega) (by omega)]

theorem qItm (a b : Itm) : ((a.k == b.k) && ((a.v == b.v) && true)) = decide (a = b) := by
  cases a; cases b
  rw [Bool.eq_iff_iff]
  simp
theorem c78 (xs ys : List Itm) : Con Tryz.prog 78 [roT xs, roT ys] (undefs [roT xs, roT ys]) (.bool (decide (xs = ys))) := by
  refine Con.evF 26 T_ok mix Tryz.func78 rfl rfl rfl rfl [.tmp 4] rfl fun ⟨hx, _⟩ => ?_
  have hx : xs.length ≤ 9223372036854775807 := facts_len (f := itR) hx
  conv => whnf
  (refine br_s ?_ ?_ <;> intro hb <;> (try simp only [cln] at hb) <;> conv=>whnf)
  (apply rq_s rfl;conv=>whnf)
  iterate 2 (rotate_left)
  · refine sh_s ?_
    have : xs ≠ ys := fun e => hb (by rw [e])
    simp [this]
  · refine LoopG.rounds (α := Nat) T_ok mix [0, 1, 12, 13] [] (fun i => [(0, roT xs), (1, roT ys), (12, .int .i64 xs.length), (13, .int .i64 i)]) (fun _ => []) (fun i => i ≤ xs.length ∧ xs.take i = ys.take i) (fun i => xs.length - i) ?_ ?_
    · conv => whnf
      exact head_s 0 ⟨by simp, by simp⟩ (by simp [roT]) rfl
    · rintro i ⟨h1, h2⟩ - -
      conv => whnf
      (refine br_s ?_ ?_ <;> intro hb <;> (try simp only [cln] at hb) <;> conv=>whnf)
      iterate 3 (refine ChkS.mk (by kernel_rfl) ?_;conv=>whnf)
      (apply rq_s rfl;conv=>whnf)
      (refine rq_s (by refine and_s rfl ?_; simp only [lnm]; omega) ?_;conv=>whnf)
      (refine ChkS.mk (by kernel_rfl) ?_;conv=>whnf)
      (refine row_s (by ((try simp only [Int.toNat_natCast]); exact row_map itR _ _ _ default (by first | omega | (simp; omega)))) ?_;conv=>whnf)
      iterate 3 (refine ChkS.mk (by kernel_rfl) ?_;conv=>whnf)
      (apply rq_s rfl;conv=>whnf)
      (refine rq_s (by refine and_s rfl ?_; simp only [lnm]; omega) ?_;conv=>whnf)
      (refine ChkS.mk (by kernel_rfl) ?_;conv=>whnf)
      (refine row_s (by ((try simp only [Int.toNat_natCast]); exact row_map itR _ _ _ default (by first | omega | (simp; omega)))) ?_;conv=>whnf)
      (refine ChkS.mk (by kernel_rfl) ?_;conv=>whnf)
      (apply rq_s (by simp only [lnm]; done);conv=>whnf)
      (refine ChkS.mk (by kernel_rfl) ?_;conv=>whnf)
      (refine br_s ?_ ?_ <;> intro hb <;> (try simp only [cln] at hb) <;> conv=>whnf)
      (apply rq_s rfl;conv=>whnf)
      iterate 2 (rotate_left)
      (apply rq_s rfl;conv=>whnf)
      rotate_left
      · rw [qItm] at hb
        refine sh_s ?_
        have : xs ≠ ys := fun e => by rw [e] at hb; simp at hb
        simp [this]
      · rw [qItm] at hb
        exact head_s (i + 1) ⟨⟨by omega, take_next default h2 (by omega) (by omega) (of_decide_eq_true hb)⟩, by omega⟩ (by rw [wrap64 (by omega) (by omega)]; rfl) rfl
      · refine sh_s ?_
        simp [take_done h2 (by omega) (by omega)]

theorem c133 (a b : Dat) : Con Tryz.prog 133 [datV a, datV b] (undefs [datV a, datV b]) (.bool (decide (a = b))) := by
  obtain ⟨a1, a2, a3, a4, a5, a6⟩ := a
  obtain ⟨b1, b2, b3, b4, b5, b6⟩ := b
  refine Con.ev 45 T_ok mix Tryz.func133 rfl rfl rfl rfl [.tmp 4] rfl ?_
  conv => whnf
  iterate 6 (apply rq_s rfl;conv=>whnf)
  (apply lend_s;conv=>whnf)
  iterate 2 (apply rows_s rfl;conv=>whnf)
  (refine call_s (c59 ..) ?_;conv=>whnf)
  (refine br_s ?_ ?_ <;> intro hb <;> (try simp only [cln] at hb) <;> conv=>whnf)
  (apply rq_s rfl;conv=>whnf)
  iterate 2 (apply br_t rfl;conv=>whnf)
  (apply rq_s rfl;conv=>whnf)
  iterate 2 (apply br_t rfl;conv=>whnf)
  iterate 2 (apply rq_s rfl;conv=>whnf)
  (apply lend_s;conv=>whnf)
  iterate 2 (apply rows_s rfl;conv=>whnf)
  (refine call_s (c59 ..) ?_;conv=>whnf)
  (refine br_s ?_ ?_ <;> intro hb <;> (try simp only [cln] at hb) <;> conv=>whnf)
  (apply rq_s rfl;conv=>whnf)
  iterate 2 (apply br_t rfl;conv=>whnf)
  (apply rq_s rfl;conv=>whnf)
  iterate 2 (apply br_t rfl;conv=>whnf)
  iterate 2 (apply rq_s rfl;conv=>whnf)
  (apply lend_s;conv=>whnf)
  iterate 2 (apply rows_s rfl;conv=>whnf)
  (refine call_s (c59 ..) ?_;conv=>whnf)
  (refine br_s ?_ ?_ <;> intro hb <;> (try simp only [cln] at hb) <;> conv=>whnf)
  (apply rq_s rfl;conv=>whnf)
  iterate 2 (apply br_t rfl;conv=>whnf)
  (apply rq_s rfl;conv=>whnf)
  iterate 2 (apply br_t rfl;conv=>whnf)
  (refine br_s ?_ ?_ <;> intro hb <;> (try simp only [cln] at hb) <;> conv=>whnf)
  (apply rq_s rfl;conv=>whnf)
  iterate 2 (apply br_t rfl;conv=>whnf)
  (apply rq_s rfl;conv=>whnf)
  iterate 2 (apply br_t rfl;conv=>whnf)
  (refine br_s ?_ ?_ <;> intro hb <;> (try simp only [cln] at hb) <;> conv=>whnf)
  (apply rq_s rfl;conv=>whnf)
  iterate 2 (apply br_t rfl;conv=>whnf)
  (apply rq_s rfl;conv=>whnf)
  iterate 2 (apply br_t rfl;conv=>whnf)
  (apply rq_s rfl;conv=>whnf)
  (focus (refine sh_s ?_; (first | (simp_all; done) | (refine congrArg AV.bool ?_; rw [Bool.eq_iff_iff]; simp_all; done))))
  iterate 5 (apply br_f rfl;conv=>whnf)
  (apply rq_s rfl;conv=>whnf)
  (focus (refine sh_s ?_; (first | (simp_all; done) | (refine congrArg AV.bool ?_; rw [Bool.eq_iff_iff]; simp_all; done))))
  iterate 11 (apply br_f rfl;conv=>whnf)
  (apply rq_s rfl;conv=>whnf)
  (focus (refine sh_s ?_; (first | (simp_all; done) | (refine congrArg AV.bool ?_; rw [Bool.eq_iff_iff]; simp_all; done))))
  iterate 17 (apply br_f rfl;conv=>whnf)
  (apply rq_s rfl;conv=>whnf)
  (focus (refine sh_s ?_; (first | (simp_all; done) | (refine congrArg AV.bool ?_; rw [Bool.eq_iff_iff]; simp_all; done))))
  iterate 23 (apply br_f rfl;conv=>whnf)
  (apply rq_s rfl;conv=>whnf)
  (focus (refine sh_s ?_; (first | (simp_all; done) | (refine congrArg AV.bool ?_; rw [Bool.eq_iff_iff]; simp_all; done))))
  iterate 29 (apply br_f rfl;conv=>whnf)
  (apply rq_s rfl;conv=>whnf)
  (focus (refine sh_s ?_; (first | (simp_all; done) | (refine congrArg AV.bool ?_; rw [Bool.eq_iff_iff]; simp_all; done))))
  all_goals skip
theorem c134 (a b : Hst) : Con Tryz.prog 134 [hstV a, hstV b] (undefs [hstV a, hstV b]) (.bool (decide (a = b))) := by
  obtain ⟨a1, a2, a3, a4, a5⟩ := a
  obtain ⟨b1, b2, b3, b4, b5⟩ := b
  refine Con.ev 38 T_ok mix Tryz.func134 rfl rfl rfl rfl [.tmp 4] rfl ?_
  conv => whnf
  iterate 6 (apply rq_s rfl;conv=>whnf)
  (apply lend_s;conv=>whnf)
  iterate 2 (apply rows_s rfl;conv=>whnf)
  (refine call_s (c197 ..) ?_;conv=>whnf)
  (refine br_s ?_ ?_ <;> intro hb <;> (try simp only [cln] at hb) <;> conv=>whnf)
  (apply rq_s rfl;conv=>whnf)
  iterate 2 (apply br_t rfl;conv=>whnf)
  (apply rq_s rfl;conv=>whnf)
  iterate 2 (apply br_t rfl;conv=>whnf)
  iterate 2 (apply rq_s rfl;conv=>whnf)
  (apply lend_s;conv=>whnf)
  iterate 2 (apply rows_s rfl;conv=>whnf)
  (refine call_s (c59 ..) ?_;conv=>whnf)
  (refine br_s ?_ ?_ <;> intro hb <;> (try simp only [cln] at hb) <;> conv=>whnf)
  (apply rq_s rfl;conv=>whnf)
  iterate 2 (apply br_t rfl;conv=>whnf)
  (apply rq_s rfl;conv=>whnf)
  iterate 2 (apply br_t rfl;conv=>whnf)
  iterate 2 (apply rq_s rfl;conv=>whnf)
  (apply lend_s;conv=>whnf)
  iterate 2 (apply rows_s rfl;conv=>whnf)
  (refine call_s (c59 ..) ?_;conv=>whnf)
  (refine br_s ?_ ?_ <;> intro hb <;> (try simp only [cln] at hb) <;> conv=>whnf)
  (apply rq_s rfl;conv=>whnf)
  iterate 2 (apply br_t rfl;conv=>whnf)
  (apply rq_s rfl;conv=>whnf)
  iterate 2 (apply br_t rfl;conv=>whnf)
  (refine br_s ?_ ?_ <;> intro hb <;> (try simp only [cln] at hb) <;> conv=>whnf)
  (apply rq_s rfl;conv=>whnf)
  iterate 2 (apply br_t rfl;conv=>whnf)
  (apply rq_s rfl;conv=>whnf)
  iterate 2 (apply br_t rfl;conv=>whnf)
  iterate 2 (apply rq_s rfl;conv=>whnf)
  (apply lend_s;conv=>whnf)
  iterate 2 (apply rows_s rfl;conv=>whnf)
  (refine call_s (c198 ..) ?_;conv=>whnf)
  (apply rq_s rfl;conv=>whnf)
  (focus (refine sh_s ?_; (first | (simp_all; done) | (refine congrArg AV.bool ?_; rw [Bool.eq_iff_iff]; simp_all; done))))
  iterate 5 (apply br_f rfl;conv=>whnf)
  (apply rq_s rfl;conv=>whnf)
  (focus (refine sh_s ?_; (first | (simp_all; done) | (refine congrArg AV.bool ?_; rw [Bool.eq_iff_iff]; simp_all; done))))
  iterate 11 (apply br_f rfl;conv=>whnf)
  (apply rq_s rfl;conv=>whnf)
  (focus (refine sh_s ?_; (first | (simp_all; done) | (refine congrArg AV.bool ?_; rw [Bool.eq_iff_iff]; simp_all; done))))
  iterate 17 (apply br_f rfl;conv=>whnf)
  (apply rq_s rfl;conv=>whnf)
  (focus (refine sh_s ?_; (first | (simp_all; done) | (refine congrArg AV.bool ?_; rw [Bool.eq_iff_iff]; simp_all; done))))
  iterate 23 (apply br_f rfl;conv=>whnf)
  (apply rq_s rfl;conv=>whnf)
  (focus (refine sh_s ?_; (first | (simp_all; done) | (refine congrArg AV.bool ?_; rw [Bool.eq_iff_iff]; simp_all; done))))
  all_goals skip
theorem c76 (a b : Mch) : Con Tryz.prog 76 [mchV a, mchV b] (undefs [mchV a, mchV b]) (.bool (decide (a = b))) := by
  obtain ⟨a1, a2, a3, a4, a5, a6, a7⟩ := a
  obtain ⟨b1, b2, b3, b4, b5, b6, b7⟩ := b
  refine Con.ev 52 T_ok mix Tryz.func76 rfl rfl rfl rfl [.tmp 4] rfl ?_
  conv => whnf
  iterate 6 (apply rq_s rfl;conv=>whnf)
  (apply lend_s;conv=>whnf)
  iterate 2 (apply rows_s rfl;conv=>whnf)
  (refine call_s (c132 ..) ?_;conv=>whnf)
  (refine br_s ?_ ?_ <;> intro hb <;> (try simp only [cln] at hb) <;> conv=>whnf)
  (apply rq_s rfl;conv=>whnf)
  iterate 2 (apply br_t rfl;conv=>whnf)
  (apply rq_s rfl;conv=>whnf)
  iterate 2 (apply br_t rfl;conv=>whnf)
  iterate 2 (apply rq_s rfl;conv=>whnf)
  (apply lend_s;conv=>whnf)
  iterate 2 (apply rows_s rfl;conv=>whnf)
  (refine call_s (c59 ..) ?_;conv=>whnf)
  (refine br_s ?_ ?_ <;> intro hb <;> (try simp only [cln] at hb) <;> conv=>whnf)
  (apply rq_s rfl;conv=>whnf)
  iterate 2 (apply br_t rfl;conv=>whnf)
  (apply rq_s rfl;conv=>whnf)
  iterate 2 (apply br_t rfl;conv=>whnf)
  iterate 12 (apply rq_s rfl;conv=>whnf)
  (apply lend_s;conv=>whnf)
  iterate 6 (apply rows_s rfl;conv=>whnf)
  (refine call_s (c133 a3 b3 ..) ?_;conv=>whnf)
  (refine br_s ?_ ?_ <;> intro hb <;> (try simp only [cln] at hb) <;> conv=>whnf)
  (apply rq_s rfl;conv=>whnf)
  iterate 2 (apply br_t rfl;conv=>whnf)
  (apply rq_s rfl;conv=>whnf)
  iterate 2 (apply br_t rfl;conv=>whnf)
  iterate 10 (apply rq_s rfl;conv=>whnf)
  (apply lend_s;conv=>whnf)
  iterate 8 (apply rows_s rfl;conv=>whnf)
  (refine call_s (c134 a4 b4 ..) ?_;conv=>whnf)
  (refine br_s ?_ ?_ <;> intro hb <;> (try simp only [cln] at hb) <;> conv=>whnf)
  (apply rq_s rfl;conv=>whnf)
  iterate 2 (apply br_t rfl;conv=>whnf)
  (apply rq_s rfl;conv=>whnf)
  iterate 2 (apply br_t rfl;conv=>whnf)
  iterate 2 (apply rq_s rfl;conv=>whnf)
  (apply lend_s;conv=>whnf)
  iterate 2 (apply rows_s rfl;conv=>whnf)
  (refine call_s (c135 ..) ?_;conv=>whnf)
  (refine br_s ?_ ?_ <;> intro hb <;> (try simp only [cln] at hb) <;> conv=>whnf)
  (apply rq_s rfl;conv=>whnf)
  iterate 2 (apply br_t rfl;conv=>whnf)
  (apply rq_s rfl;conv=>whnf)
  iterate 2 (apply br_t rfl;conv=>whnf)
  (refine br_s ?_ ?_ <;> intro hb <;> (try simp only [cln] at hb) <;> conv=>whnf)
  (apply rq_s rfl;conv=>whnf)
  iterate 2 (apply br_t rfl;conv=>whnf)
  (apply rq_s rfl;conv=>whnf)
  iterate 2 (apply br_t rfl;conv=>whnf)
  (apply rq_s rfl;conv=>whnf)
  (focus (refine sh_s ?_; (first | (simp_all; done) | (refine congrArg AV.bool ?_; rw [Bool.eq_iff_iff]; simp_all; done))))
  iterate 5 (apply br_f rfl;conv=>whnf)
  (apply rq_s rfl;conv=>whnf)
  (focus (refine sh_s ?_; (first | (simp_all; done) | (refine congrArg AV.bool ?_; rw [Bool.eq_iff_iff]; simp_all; done))))
  iterate 11 (apply br_f rfl;conv=>whnf)
  (apply rq_s rfl;conv=>whnf)
  (focus (refine sh_s ?_; (first | (simp_all; done) | (refine congrArg AV.bool ?_; rw [Bool.eq_iff_iff]; simp_all; done))))
  iterate 17 (apply br_f rfl;conv=>whnf)
  (apply rq_s rfl;conv=>whnf)
  (focus (refine sh_s ?_; (first | (simp_all; done) | (refine congrArg AV.bool ?_; rw [Bool.eq_iff_iff]; simp_all; done))))
  iterate 23 (apply br_f rfl;conv=>whnf)
  (apply rq_s rfl;conv=>whnf)
  (focus (refine sh_s ?_; (first | (simp_all; done) | (refine congrArg AV.bool ?_; rw [Bool.eq_iff_iff]; simp_all; done))))
  iterate 29 (apply br_f rfl;conv=>whnf)
  (apply rq_s rfl;conv=>whnf)
  (focus (refine sh_s ?_; (first | (simp_all; done) | (refine congrArg AV.bool ?_; rw [Bool.eq_iff_iff]; simp_all; done))))
  iterate 35 (apply br_f rfl;conv=>whnf)
  (apply rq_s rfl;conv=>whnf)
  (focus (refine sh_s ?_; (first | (simp_all; done) | (refine congrArg AV.bool ?_; rw [Bool.eq_iff_iff]; simp_all; done))))
  all_goals skip
theorem c137 (a b : Df) : Con Tryz.prog 137 [dfV a, dfV b] (undefs [dfV a, dfV b]) (.bool (decide (a = b))) := by
  obtain ⟨a1, a2⟩ := a
  obtain ⟨b1, b2⟩ := b
  refine Con.ev 17 T_ok mix Tryz.func137 rfl rfl rfl rfl [.tmp 4] rfl ?_
  conv => whnf
  iterate 4 (apply rq_s rfl;conv=>whnf)
  (refine br_s ?_ ?_ <;> intro hb <;> (try simp only [cln] at hb) <;> conv=>whnf)
  (apply rq_s rfl;conv=>whnf)
  iterate 2 (apply br_t rfl;conv=>whnf)
  (apply rq_s rfl;conv=>whnf)
  iterate 2 (apply br_t rfl;conv=>whnf)
  iterate 2 (apply rq_s rfl;conv=>whnf)
  (apply lend_s;conv=>whnf)
  iterate 2 (apply rows_s rfl;conv=>whnf)
  (refine call_s (c78 ..) ?_;conv=>whnf)
  (apply rq_s rfl;conv=>whnf)
  (focus (refine sh_s ?_; (first | (simp_all; done) | (refine congrArg AV.bool ?_; rw [Bool.eq_iff_iff]; simp_all; done))))
  iterate 5 (apply br_f rfl;conv=>whnf)
  (apply rq_s rfl;conv=>whnf)
  (focus (refine sh_s ?_; (first | (simp_all; done) | (refine congrArg AV.bool ?_; rw [Bool.eq_iff_iff]; simp_all; done))))
  all_goals skip

theorem c136 (xs ys : List Df) : Con Tryz.prog 136 [roDf xs, roDf ys, .fn 137 []] (undefs [roDf xs, roDf ys, .fn 137 []]) (.bool (decide (xs = ys))) := by
  refine Con.evF 32 T_ok mix Tryz.func136 rfl rfl rfl rfl [.tmp 6] rfl fun ⟨hx, _⟩ => ?_
  have hx : xs.length ≤ 9223372036854775807 := facts_len (f := dfR) hx
  conv => whnf
  (refine br_s ?_ ?_ <;> intro hb <;> (try simp only [cln] at hb) <;> conv=>whnf)
  (apply rq_s rfl;conv=>whnf)
  iterate 2 (rotate_left)
  · refine sh_s ?_
    have : xs ≠ ys := fun e => hb (by rw [e])
    simp [this]
  · refine LoopG.rounds (α := Nat) T_ok mix [1, 2, 15, 16, 17] [] (fun i => [(1, roDf ys), (2, .fn 137 []), (15, roDf xs), (16, .int .i64 xs.length), (17, .int .i64 i)]) (fun _ => []) (fun i => i ≤ xs.length ∧ xs.take i = ys.take i) (fun i => xs.length - i) ?_ ?_
    · conv => whnf
      exact head_s 0 ⟨by simp, by simp⟩ (by simp [roDf]) rfl
    · rintro i ⟨h1, h2⟩ - -
      conv => whnf
      (refine br_s ?_ ?_ <;> intro hb <;> (try simp only [cln] at hb) <;> conv=>whnf)
      (apply rq_s rfl;conv=>whnf)
      (refine rq_s (by refine and_s rfl ?_; simp only [lnm]; omega) ?_;conv=>whnf)
      (refine row_s (by ((try simp only [Int.toNat_natCast]); exact row_map dfR _ _ _ default (by first | omega | (simp; omega)))) ?_;conv=>whnf)
      (apply rq_s rfl;conv=>whnf)
      (refine rq_s (by refine and_s rfl ?_; simp only [lnm]; omega) ?_;conv=>whnf)
      (refine row_s (by ((try simp only [Int.toNat_natCast]); exact row_map dfR _ _ _ default (by first | omega | (simp; omega)))) ?_;conv=>whnf)
      iterate 4 (apply rq_s rfl;conv=>whnf)
      (apply lend_s;conv=>whnf)
      iterate 2 (apply rows_s rfl;conv=>whnf)
      (refine call_s (c137 ..) ?_;conv=>whnf)
      (refine br_s ?_ ?_ <;> intro hb <;> (try simp only [cln] at hb) <;> conv=>whnf)
      (apply rq_s rfl;conv=>whnf)
      iterate 2 (rotate_left)
      (apply rq_s rfl;conv=>whnf)
      rotate_left
      · refine sh_s ?_
        have : xs ≠ ys := fun e => by rw [e] at hb; simp at hb
        simp [this]
      · exact head_s (i + 1) ⟨⟨by omega, take_next default h2 (by omega) (by omega) hb⟩, by omega⟩ (by rw [wrap64 (by omega) (by omega)]; rfl) rfl
      · refine sh_s ?_
        simp [take_done h2 (by omega) (by omega)]
theorem c77 (xs ys : List Df) : Con Tryz.prog 77 [roDf xs, roDf ys] (undefs [roDf xs, roDf ys]) (.bool (decide (xs = ys))) := by
  refine Con.ev 8 T_ok mix Tryz.func77 rfl rfl rfl rfl [.tmp 4] rfl ?_
  conv => whnf
  iterate 3 (apply rq_s rfl;conv=>whnf)
  (apply lend_s;conv=>whnf)
  iterate 2 (apply rows_s rfl;conv=>whnf)
  (refine call_s (c136 ..) ?_;conv=>whnf)
  (apply rq_s rfl;conv=>whnf)
  (refine sh_s ?_; (rfl))
theorem c24 (a b : Fth) : Con Tryz.prog 24 [fthV a, fthV b] (undefs [fthV a, fthV b]) (.bool (fthOK a && (fthOK b && decide (a = b)))) := by
  have k1 := c21 a
  have k2 := c21 b
  generalize fthOK a = r1 at k1 ⊢
  generalize fthOK b = r2 at k2 ⊢
  obtain ⟨a1, a2, a3, a4, a5⟩ := a
  obtain ⟨b1, b2, b3, b4, b5⟩ := b
  refine Con.ev 46 T_ok mix Tryz.func24 rfl rfl rfl rfl [.tmp 4] rfl ?_
  conv => whnf
  iterate 22 (apply rq_s rfl;conv=>whnf)
  (apply lend_s;conv=>whnf)
  iterate 12 (apply rows_s rfl;conv=>whnf)
  (refine call_s (k1 ..) ?_;conv=>whnf)
  (refine br_s ?_ ?_ <;> intro hb <;> (try simp only [cln] at hb) <;> conv=>whnf)
  (apply br_t rfl;conv=>whnf)
  iterate 20 (apply rq_s rfl;conv=>whnf)
  (apply lend_s;conv=>whnf)
  iterate 12 (apply rows_s rfl;conv=>whnf)
  (refine call_s (k2 ..) ?_;conv=>whnf)
  (refine br_s ?_ ?_ <;> intro hb <;> (try simp only [cln] at hb) <;> conv=>whnf)
  (apply rq_s rfl;conv=>whnf)
  iterate 2 (apply br_t rfl;conv=>whnf)
  (apply rq_s rfl;conv=>whnf)
  iterate 2 (apply br_t rfl;conv=>whnf)
  iterate 32 (apply rq_s rfl;conv=>whnf)
  (apply lend_s;conv=>whnf)
  iterate 20 (apply rows_s rfl;conv=>whnf)
  (refine call_s (c76 a1 b1 ..) ?_;conv=>whnf)
  (refine br_s ?_ ?_ <;> intro hb <;> (try simp only [cln] at hb) <;> conv=>whnf)
  (apply rq_s rfl;conv=>whnf)
  iterate 2 (apply br_t rfl;conv=>whnf)
  (apply rq_s rfl;conv=>whnf)
  iterate 2 (apply br_t rfl;conv=>whnf)
  iterate 2 (apply rq_s rfl;conv=>whnf)
  (apply lend_s;conv=>whnf)
  iterate 2 (apply rows_s rfl;conv=>whnf)
  (refine call_s (c77 a2 b2 ..) ?_;conv=>whnf)
  (refine br_s ?_ ?_ <;> intro hb <;> (try simp only [cln] at hb) <;> conv=>whnf)
  (apply rq_s rfl;conv=>whnf)
  iterate 2 (apply br_t rfl;conv=>whnf)
  (apply rq_s rfl;conv=>whnf)
  iterate 2 (apply br_t rfl;conv=>whnf)
  (refine br_s ?_ ?_ <;> intro hb <;> (try simp only [cln] at hb) <;> conv=>whnf)
  (apply rq_s rfl;conv=>whnf)
  iterate 2 (apply br_t rfl;conv=>whnf)
  (apply rq_s rfl;conv=>whnf)
  iterate 2 (apply br_t rfl;conv=>whnf)
  (refine br_s ?_ ?_ <;> intro hb <;> (try simp only [cln] at hb) <;> conv=>whnf)
  (apply rq_s rfl;conv=>whnf)
  iterate 2 (apply br_t rfl;conv=>whnf)
  (apply rq_s rfl;conv=>whnf)
  iterate 2 (apply br_t rfl;conv=>whnf)
  iterate 2 (apply rq_s rfl;conv=>whnf)
  (apply lend_s;conv=>whnf)
  iterate 2 (apply rows_s rfl;conv=>whnf)
  (refine call_s (c78 ..) ?_;conv=>whnf)
  (apply rq_s rfl;conv=>whnf)
  (focus (refine sh_s ?_; (first | (simp_all; done) | (refine congrArg AV.bool ?_; rw [Bool.eq_iff_iff]; simp_all; done))))
  iterate 5 (apply br_f rfl;conv=>whnf)
  (apply rq_s rfl;conv=>whnf)
  (focus (refine sh_s ?_; (first | (simp_all; done) | (refine congrArg AV.bool ?_; rw [Bool.eq_iff_iff]; simp_all; done))))
  iterate 11 (apply br_f rfl;conv=>whnf)
  (apply rq_s rfl;conv=>whnf)
  (focus (refine sh_s ?_; (first | (simp_all; done) | (refine congrArg AV.bool ?_; rw [Bool.eq_iff_iff]; simp_all; done))))
  iterate 17 (apply br_f rfl;conv=>whnf)
  (apply rq_s rfl;conv=>whnf)
  (focus (refine sh_s ?_; (first | (simp_all; done) | (refine congrArg AV.bool ?_; rw [Bool.eq_iff_iff]; simp_all; done))))
  iterate 23 (apply br_f rfl;conv=>whnf)
  (apply rq_s rfl;conv=>whnf)
  (focus (refine sh_s ?_; (first | (simp_all; done) | (refine congrArg AV.bool ?_; rw [Bool.eq_iff_iff]; simp_all; done))))
  iterate 29 (apply br_f rfl;conv=>whnf)
  (apply rq_s rfl;conv=>whnf)
  (focus (refine sh_s ?_; (first | (simp_all; done) | (refine congrArg AV.bool ?_; rw [Bool.eq_iff_iff]; simp_all; done))))
  iterate 32 (apply br_f rfl;conv=>whnf)
  (apply rq_s rfl;conv=>whnf)
  (focus (refine sh_s ?_; (first | (simp_all; done) | (refine congrArg AV.bool ?_; rw [Bool.eq_iff_iff]; simp_all; done))))
  all_goals skip
end Q1

/- Forths held against each other, by the reference; contracts. -/
set_option linter.unusedVariables false
set_option linter.unusedSimpArgs false
set_option maxRecDepth 100000
open Go Go.Abs Go.Proofs V1 H1 K1 K2 K3 K4 I1 I2 I3 I4 M1 M2 M3 M4 M7 Q1
namespace Q2




theorem c194 (xs ys : List Wd) : Con Tryz.prog 194 [roW xs, roW ys] (undefs [roW xs, roW ys]) (.bool (decide (xs = ys))) := by
  refine Con.evF 26 T_ok mix Tryz.func194 rfl rfl rfl rfl [.tmp 4] rfl fun ⟨hx, _⟩ => ?_
  have hx : xs.length ≤ 9223372036854775807 := facts_len (f := wdR) hx
  conv => whnf
  (refine br_s ?_ ?_ <;> intro hb <;> (try simp only [cln] at hb) <;> conv=>whnf)
  (apply rq_s rfl;conv=>whnf)
  iterate 2 (rotate_left)
  · refine sh_s ?_
    have : xs ≠ ys := fun e => hb (by rw [e])
    simp [this]
  · refine LoopG.rounds (α := Nat) T_ok mix [0, 1, 5] [] (fun i => [(0, roW xs), (1, roW ys), (5, .int .i64 i)]) (fun _ => []) (fun i => i ≤ xs.length ∧ xs.take i = ys.take i) (fun i => xs.length - i) ?_ ?_
    · conv => whnf
      exact head_s 0 ⟨by simp, by simp⟩ (by simp [roW]) rfl
    · rintro i ⟨h1, h2⟩ - -
      conv => whnf
      (refine br_s ?_ ?_ <;> intro hb <;> (try simp only [cln] at hb) <;> conv=>whnf)
      iterate 3 (refine ChkS.mk (by kernel_rfl) ?_;conv=>whnf)
      (apply rq_s rfl;conv=>whnf)
      (refine rq_s (by refine and_s rfl ?_; simp only [lnm]; omega) ?_;conv=>whnf)
      (refine ChkS.mk (by kernel_rfl) ?_;conv=>whnf)
      (refine row_s (by ((try simp only [Int.toNat_natCast]); exact row_map wdR _ _ _ default (by first | omega | (simp; omega)))) ?_;conv=>whnf)
      iterate 3 (refine ChkS.mk (by kernel_rfl) ?_;conv=>whnf)
      (apply rq_s rfl;conv=>whnf)
      (refine rq_s (by refine and_s rfl ?_; simp only [lnm]; omega) ?_;conv=>whnf)
      (refine ChkS.mk (by kernel_rfl) ?_;conv=>whnf)
      (refine row_s (by ((try simp only [Int.toNat_natCast]); exact row_map wdR _ _ _ default (by first | omega | (simp; omega)))) ?_;conv=>whnf)
      (refine ChkS.mk (by kernel_rfl) ?_;conv=>whnf)
      (apply rq_s (by simp only [lnm]; done);conv=>whnf)
      (refine ChkS.mk (by kernel_rfl) ?_;conv=>whnf)
      (refine br_s ?_ ?_ <;> intro hb <;> (try simp only [cln] at hb) <;> conv=>whnf)
      (apply rq_s rfl;conv=>whnf)
      iterate 2 (rotate_left)
      (apply rq_s rfl;conv=>whnf)
      rotate_left
      · rw [qWd] at hb
        refine sh_s ?_
        have : xs ≠ ys := fun e => by rw [e] at hb; simp at hb
        simp [this]
      · rw [qWd] at hb
        exact head_s (i + 1) ⟨⟨by omega, take_next default h2 (by omega) (by omega) (of_decide_eq_true hb)⟩, by omega⟩ (by rw [wrap64 (by omega) (by omega)]; rfl) rfl
      · refine sh_s ?_
        simp [take_done h2 (by omega) (by omega)]

theorem c195 (a b : Dat) : Con Tryz.prog 195 [datV a, datV b] (undefs [datV a, datV b]) (.bool (decide (a = b))) := by
  obtain ⟨a1, a2, a3, a4, a5, a6⟩ := a
  obtain ⟨b1, b2, b3, b4, b5, b6⟩ := b
  refine Con.ev 45 T_ok mix Tryz.func195 rfl rfl rfl rfl [.tmp 4] rfl ?_
  conv => whnf
  iterate 6 (apply rq_s rfl;conv=>whnf)
  (apply lend_s;conv=>whnf)
  iterate 2 (apply rows_s rfl;conv=>whnf)
  (refine call_s (c166 ..) ?_;conv=>whnf)
  (refine br_s ?_ ?_ <;> intro hb <;> (try simp only [cln] at hb) <;> conv=>whnf)
  (apply rq_s rfl;conv=>whnf)
  iterate 2 (apply br_t rfl;conv=>whnf)
  (apply rq_s rfl;conv=>whnf)
  iterate 2 (apply br_t rfl;conv=>whnf)
  iterate 2 (apply rq_s rfl;conv=>whnf)
  (apply lend_s;conv=>whnf)
  iterate 2 (apply rows_s rfl;conv=>whnf)
  (refine call_s (c166 ..) ?_;conv=>whnf)
  (refine br_s ?_ ?_ <;> intro hb <;> (try simp only [cln] at hb) <;> conv=>whnf)
  (apply rq_s rfl;conv=>whnf)
  iterate 2 (apply br_t rfl;conv=>whnf)
  (apply rq_s rfl;conv=>whnf)
  iterate 2 (apply br_t rfl;conv=>whnf)
  iterate 2 (apply rq_s rfl;conv=>whnf)
  (apply lend_s;conv=>whnf)
  iterate 2 (apply rows_s rfl;conv=>whnf)
  (refine call_s (c166 ..) ?_;conv=>whnf)
  (refine br_s ?_ ?_ <;> intro hb <;> (try simp only [cln] at hb) <;> conv=>whnf)
  (apply rq_s rfl;conv=>whnf)
  iterate 2 (apply br_t rfl;conv=>whnf)
  (apply rq_s rfl;conv=>whnf)
  iterate 2 (apply br_t rfl;conv=>whnf)
  (refine br_s ?_ ?_ <;> intro hb <;> (try simp only [cln] at hb) <;> conv=>whnf)
  (apply rq_s rfl;conv=>whnf)
  iterate 2 (apply br_t rfl;conv=>whnf)
  (apply rq_s rfl;conv=>whnf)
  iterate 2 (apply br_t rfl;conv=>whnf)
  (refine br_s ?_ ?_ <;> intro hb <;> (try simp only [cln] at hb) <;> conv=>whnf)
  (apply rq_s rfl;conv=>whnf)
  iterate 2 (apply br_t rfl;conv=>whnf)
  (apply rq_s rfl;conv=>whnf)
  iterate 2 (apply br_t rfl;conv=>whnf)
  (apply rq_s rfl;conv=>whnf)
  (focus (refine sh_s ?_; (first | (simp_all; done) | (refine congrArg AV.bool ?_; rw [Bool.eq_iff_iff]; simp_all; done))))
  iterate 5 (apply br_f rfl;conv=>whnf)
  (apply rq_s rfl;conv=>whnf)
  (focus (refine sh_s ?_; (first | (simp_all; done) | (refine congrArg AV.bool ?_; rw [Bool.eq_iff_iff]; simp_all; done))))
  iterate 11 (apply br_f rfl;conv=>whnf)
  (apply rq_s rfl;conv=>whnf)
  (focus (refine sh_s ?_; (first | (simp_all; done) | (refine congrArg AV.bool ?_; rw [Bool.eq_iff_iff]; simp_all; done))))
  iterate 17 (apply br_f rfl;conv=>whnf)
  (apply rq_s rfl;conv=>whnf)
  (focus (refine sh_s ?_; (first | (simp_all; done) | (refine congrArg AV.bool ?_; rw [Bool.eq_iff_iff]; simp_all; done))))
  iterate 23 (apply br_f rfl;conv=>whnf)
  (apply rq_s rfl;conv=>whnf)
  (focus (refine sh_s ?_; (first | (simp_all; done) | (refine congrArg AV.bool ?_; rw [Bool.eq_iff_iff]; simp_all; done))))
  iterate 29 (apply br_f rfl;conv=>whnf)
  (apply rq_s rfl;conv=>whnf)
  (focus (refine sh_s ?_; (first | (simp_all; done) | (refine congrArg AV.bool ?_; rw [Bool.eq_iff_iff]; simp_all; done))))
  all_goals skip

theorem c196 (a b : Hst) : Con Tryz.prog 196 [hstV a, hstV b] (undefs [hstV a, hstV b]) (.bool (decide (a = b))) := by
  refine Con.evF 82 T_ok mix Tryz.func196 rfl rfl rfl rfl [.tmp 4] rfl fun ⟨hx, _⟩ => ?_
  have hg : a.gr.length ≤ 9223372036854775807 := facts_len fun d => hx (d + 1) (roB a.gr) (by simp [hstR])
  have hd : a.ds.length ≤ 9223372036854775807 := facts_len fun d => hx (d + 1) (roD a.ds) (by simp [hstR])
  conv => whnf
  iterate 6 (apply rq_s rfl;conv=>whnf)
  (apply lend_s;conv=>whnf)
  iterate 2 (apply rows_s rfl;conv=>whnf)
  (refine call_s (c166 ..) ?_;conv=>whnf)
  (refine br_s ?_ ?_ <;> intro hb <;> (try simp only [cln] at hb) <;> conv=>whnf)
  iterate 29 (apply br_t rfl;conv=>whnf)
  (apply rq_s rfl;conv=>whnf)
  (focus (refine sh_s ?_; ((refine congrArg AV.bool (decide_eq_false fun e => ?_).symm; subst e; simp_all; done))))
  (apply rq_s rfl;conv=>whnf)
  iterate 2 (apply br_f rfl;conv=>whnf)
  (apply rq_s rfl;conv=>whnf)
  iterate 2 (apply br_f rfl;conv=>whnf)
  iterate 2 (apply rq_s rfl;conv=>whnf)
  (apply lend_s;conv=>whnf)
  iterate 2 (apply rows_s rfl;conv=>whnf)
  (refine call_s (c166 ..) ?_;conv=>whnf)
  (apply br_f rfl;conv=>whnf)
  (refine br_s ?_ ?_ <;> intro hb <;> (try simp only [cln] at hb) <;> conv=>whnf)
  iterate 22 (apply br_t rfl;conv=>whnf)
  (apply rq_s rfl;conv=>whnf)
  (focus (refine sh_s ?_; ((refine congrArg AV.bool (decide_eq_false fun e => ?_).symm; subst e; simp_all; done))))
  (apply rq_s rfl;conv=>whnf)
  iterate 2 (apply br_f rfl;conv=>whnf)
  (apply rq_s rfl;conv=>whnf)
  iterate 2 (apply br_f rfl;conv=>whnf)
  (refine br_s ?_ ?_ <;> intro hb <;> (try simp only [cln] at hb) <;> conv=>whnf)
  iterate 16 (apply br_t rfl;conv=>whnf)
  (apply rq_s rfl;conv=>whnf)
  (focus (refine sh_s ?_; ((refine congrArg AV.bool (decide_eq_false fun e => ?_).symm; subst e; simp_all; done))))
  (apply rq_s rfl;conv=>whnf)
  iterate 3 (apply br_f rfl;conv=>whnf)
  (apply rq_s rfl;conv=>whnf)
  iterate 3 (apply br_f rfl;conv=>whnf)
  (refine br_s ?_ ?_ <;> intro hb <;> (try simp only [cln] at hb) <;> conv=>whnf)
  iterate 8 (apply br_t rfl;conv=>whnf)
  (apply rq_s rfl;conv=>whnf)
  (focus (refine sh_s ?_; ((refine congrArg AV.bool (decide_eq_false fun e => ?_).symm; subst e; simp_all; done))))
  (apply rq_s rfl;conv=>whnf)
  iterate 3 (apply br_f rfl;conv=>whnf)
  (apply rq_s rfl;conv=>whnf)
  iterate 3 (apply br_f rfl;conv=>whnf)
  (refine br_s ?_ ?_ <;> intro hb <;> (try simp only [cln] at hb) <;> conv=>whnf)
  (apply rq_s rfl;conv=>whnf)
  (focus (refine sh_s ?_; ((refine congrArg AV.bool (decide_eq_false fun e => ?_).symm; subst e; simp_all; done))))
  rotate_left
  have s1 : a.st = b.st := by assumption
  have s2 : a.q = b.q := by assumption
  have s3 : a.tk = b.tk := by assumption
  have g1 : a.gr.length = b.gr.length := by assumption
  have g2 : a.ds.length = b.ds.length := by assumption
  refine LoopG.rounds (α := Nat) T_ok mix [2, 3, 5] [(2, 2), (3, 3)] (fun i => [(2, .ptr 2 0 0), (3, .ptr 3 0 0), (5, .int .i64 i)]) (fun _ => [(2, .live ⟨false, 0, hstR a, [hstR a]⟩), (3, .live ⟨false, 0, hstR b, [hstR b]⟩)]) (fun i => i ≤ a.gr.length ∧ a.gr.take i = b.gr.take i) (fun i => a.gr.length - i) ?_ ?_
  · conv => whnf
    exact head_s 0 ⟨by simp, by simp⟩ rfl rfl
  · rintro i ⟨h1, h2⟩ - -
    conv => whnf
    (apply rq_s rfl;conv=>whnf)
    (refine br_s ?_ ?_ <;> intro hb <;> (try simp only [cln] at hb) <;> conv=>whnf)
    (refine ChkS.mk (by kernel_rfl) ?_;conv=>whnf)
    (apply rq_s rfl;conv=>whnf)
    iterate 3 (refine ChkS.mk (by kernel_rfl) ?_;conv=>whnf)
    (apply rq_s rfl;conv=>whnf)
    (refine rq_s (by refine and_s rfl ?_; simp only [lnm]; omega) ?_;conv=>whnf)
    (refine ChkS.mk (by kernel_rfl) ?_;conv=>whnf)
    (refine row_s (by ((try simp only [Int.toNat_natCast]); exact row_map boolR _ _ _ default (by first | omega | (simp; omega)))) ?_;conv=>whnf)
    (refine ChkS.mk (by kernel_rfl) ?_;conv=>whnf)
    (apply rq_s rfl;conv=>whnf)
    iterate 3 (refine ChkS.mk (by kernel_rfl) ?_;conv=>whnf)
    (apply rq_s rfl;conv=>whnf)
    (refine rq_s (by refine and_s rfl ?_; simp only [lnm]; omega) ?_;conv=>whnf)
    (refine ChkS.mk (by kernel_rfl) ?_;conv=>whnf)
    (refine row_s (by ((try simp only [Int.toNat_natCast]); exact row_map boolR _ _ _ default (by first | omega | (simp; omega)))) ?_;conv=>whnf)
    iterate 2 (refine ChkS.mk (by kernel_rfl) ?_;conv=>whnf)
    (refine br_s ?_ ?_ <;> intro hb <;> (try simp only [cln] at hb) <;> conv=>whnf)
    (apply rq_s rfl;conv=>whnf)
    iterate 3 (rotate_left)
    · refine sh_s (congrArg AV.bool (decide_eq_false fun e => ?_).symm)
      subst e
      simp at hb
    · exact head_s (i + 1) ⟨⟨by omega, take_next default h2 (by omega) (by omega) hb⟩, by omega⟩ (by rw [wrap64 (by omega) (by omega)]; rfl) rfl
    · have eg : a.gr = b.gr := take_done h2 (by omega) (by omega)
      refine LoopG.rounds (α := Nat) T_ok mix [2, 3, 6] [(2, 2), (3, 3)] (fun i => [(2, .ptr 2 0 0), (3, .ptr 3 0 0), (6, .int .i64 i)]) (fun _ => [(2, .live ⟨false, 0, hstR a, [hstR a]⟩), (3, .live ⟨false, 0, hstR b, [hstR b]⟩)]) (fun i => i ≤ a.ds.length ∧ a.ds.take i = b.ds.take i) (fun i => a.ds.length - i) ?_ ?_
      · conv => whnf
        exact head_s 0 ⟨by simp, by simp⟩ rfl rfl
      · rintro j ⟨h3, h4⟩ - -
        conv => whnf
        (apply rq_s rfl;conv=>whnf)
        (refine br_s ?_ ?_ <;> intro hb <;> (try simp only [cln] at hb) <;> conv=>whnf)
        (refine ChkS.mk (by kernel_rfl) ?_;conv=>whnf)
        (apply rq_s rfl;conv=>whnf)
        iterate 3 (refine ChkS.mk (by kernel_rfl) ?_;conv=>whnf)
        (apply rq_s rfl;conv=>whnf)
        (refine rq_s (by refine and_s rfl ?_; simp only [lnm]; omega) ?_;conv=>whnf)
        (refine ChkS.mk (by kernel_rfl) ?_;conv=>whnf)
        (refine row_s (by ((try simp only [Int.toNat_natCast]); exact row_map dealR _ _ _ default (by first | omega | (simp; omega)))) ?_;conv=>whnf)
        (refine ChkS.mk (by kernel_rfl) ?_;conv=>whnf)
        (apply rq_s rfl;conv=>whnf)
        iterate 3 (refine ChkS.mk (by kernel_rfl) ?_;conv=>whnf)
        (apply rq_s rfl;conv=>whnf)
        (refine rq_s (by refine and_s rfl ?_; simp only [lnm]; omega) ?_;conv=>whnf)
        (refine ChkS.mk (by kernel_rfl) ?_;conv=>whnf)
        (refine row_s (by ((try simp only [Int.toNat_natCast]); exact row_map dealR _ _ _ default (by first | omega | (simp; omega)))) ?_;conv=>whnf)
        (refine ChkS.mk (by kernel_rfl) ?_;conv=>whnf)
        (apply rq_s (by simp only [lnm]; done);conv=>whnf)
        (refine ChkS.mk (by kernel_rfl) ?_;conv=>whnf)
        (refine br_s ?_ ?_ <;> intro hb <;> (try simp only [cln] at hb) <;> conv=>whnf)
        (apply rq_s rfl;conv=>whnf)
        iterate 2 (rotate_left)
        (apply rq_s rfl;conv=>whnf)
        rotate_left
        · rw [qDeal] at hb
          refine sh_s (congrArg AV.bool (decide_eq_false fun e => ?_).symm)
          subst e
          simp at hb
        · rw [qDeal] at hb
          exact head_s (j + 1) ⟨⟨by omega, take_next default h4 (by omega) (by omega) (of_decide_eq_true hb)⟩, by omega⟩ (by rw [wrap64 (by omega) (by omega)]; rfl) rfl
        · have ed : a.ds = b.ds := take_done h4 (by omega) (by omega)
          refine sh_s ?_
          obtain ⟨a1, a2, a3, a4, a5⟩ := a
          obtain ⟨b1, b2, b3, b4, b5⟩ := b
          simp_all

theorem c131 (a b : Mch) : Con Tryz.prog 131 [mchV a, mchV b] (undefs [mchV a, mchV b]) (.bool (decide (a = b))) := by
  refine Con.evF 77 T_ok mix Tryz.func131 rfl rfl rfl rfl [.tmp 4] rfl fun ⟨hx, _⟩ => ?_
  have hl := (mch_facts hx).ca
  conv => whnf
  iterate 6 (apply rq_s rfl;conv=>whnf)
  (apply lend_s;conv=>whnf)
  iterate 2 (apply rows_s rfl;conv=>whnf)
  (refine call_s (c194 ..) ?_;conv=>whnf)
  (refine br_s ?_ ?_ <;> intro hb <;> (try simp only [cln] at hb) <;> conv=>whnf)
  iterate 41 (apply br_t rfl;conv=>whnf)
  (apply rq_s rfl;conv=>whnf)
  (focus (refine sh_s ?_; ((refine congrArg AV.bool (decide_eq_false fun e => ?_).symm; subst e; simp_all; done))))
  (apply rq_s rfl;conv=>whnf)
  iterate 2 (apply br_f rfl;conv=>whnf)
  (apply rq_s rfl;conv=>whnf)
  iterate 2 (apply br_f rfl;conv=>whnf)
  iterate 2 (apply rq_s rfl;conv=>whnf)
  (apply lend_s;conv=>whnf)
  iterate 2 (apply rows_s rfl;conv=>whnf)
  (refine call_s (c166 ..) ?_;conv=>whnf)
  (apply br_f rfl;conv=>whnf)
  (refine br_s ?_ ?_ <;> intro hb <;> (try simp only [cln] at hb) <;> conv=>whnf)
  iterate 34 (apply br_t rfl;conv=>whnf)
  (apply rq_s rfl;conv=>whnf)
  (focus (refine sh_s ?_; ((refine congrArg AV.bool (decide_eq_false fun e => ?_).symm; subst e; simp_all; done))))
  (apply rq_s rfl;conv=>whnf)
  iterate 2 (apply br_f rfl;conv=>whnf)
  (apply rq_s rfl;conv=>whnf)
  iterate 2 (apply br_f rfl;conv=>whnf)
  iterate 12 (apply rq_s rfl;conv=>whnf)
  (apply lend_s;conv=>whnf)
  iterate 6 (apply rows_s rfl;conv=>whnf)
  (refine call_s (c195 a.da b.da ..) ?_;conv=>whnf)
  (apply br_f rfl;conv=>whnf)
  (refine br_s ?_ ?_ <;> intro hb <;> (try simp only [cln] at hb) <;> conv=>whnf)
  iterate 27 (apply br_t rfl;conv=>whnf)
  (apply rq_s rfl;conv=>whnf)
  (focus (refine sh_s ?_; ((refine congrArg AV.bool (decide_eq_false fun e => ?_).symm; subst e; simp_all; done))))
  (apply rq_s rfl;conv=>whnf)
  iterate 2 (apply br_f rfl;conv=>whnf)
  (apply rq_s rfl;conv=>whnf)
  iterate 2 (apply br_f rfl;conv=>whnf)
  iterate 10 (apply rq_s rfl;conv=>whnf)
  (apply lend_s;conv=>whnf)
  iterate 8 (apply rows_s rfl;conv=>whnf)
  (refine call_s (c196 a.ho b.ho ..) ?_;conv=>whnf)
  (apply br_f rfl;conv=>whnf)
  (refine br_s ?_ ?_ <;> intro hb <;> (try simp only [cln] at hb) <;> conv=>whnf)
  iterate 20 (apply br_t rfl;conv=>whnf)
  (apply rq_s rfl;conv=>whnf)
  (focus (refine sh_s ?_; ((refine congrArg AV.bool (decide_eq_false fun e => ?_).symm; subst e; simp_all; done))))
  (apply rq_s rfl;conv=>whnf)
  iterate 2 (apply br_f rfl;conv=>whnf)
  (apply rq_s rfl;conv=>whnf)
  iterate 2 (apply br_f rfl;conv=>whnf)
  (refine br_s ?_ ?_ <;> intro hb <;> (try simp only [cln] at hb) <;> conv=>whnf)
  iterate 14 (apply br_t rfl;conv=>whnf)
  (apply rq_s rfl;conv=>whnf)
  (focus (refine sh_s ?_; ((refine congrArg AV.bool (decide_eq_false fun e => ?_).symm; subst e; simp_all; done))))
  (apply rq_s rfl;conv=>whnf)
  iterate 2 (apply br_f rfl;conv=>whnf)
  (apply rq_s rfl;conv=>whnf)
  iterate 2 (apply br_f rfl;conv=>whnf)
  (refine br_s ?_ ?_ <;> intro hb <;> (try simp only [cln] at hb) <;> conv=>whnf)
  iterate 8 (apply br_t rfl;conv=>whnf)
  (apply rq_s rfl;conv=>whnf)
  (focus (refine sh_s ?_; ((refine congrArg AV.bool (decide_eq_false fun e => ?_).symm; subst e; simp_all; done))))
  (apply rq_s rfl;conv=>whnf)
  iterate 3 (apply br_f rfl;conv=>whnf)
  (apply rq_s rfl;conv=>whnf)
  iterate 3 (apply br_f rfl;conv=>whnf)
  (refine br_s ?_ ?_ <;> intro hb <;> (try simp only [cln] at hb) <;> conv=>whnf)
  (apply rq_s rfl;conv=>whnf)
  (focus (refine sh_s ?_; ((refine congrArg AV.bool (decide_eq_false fun e => ?_).symm; subst e; simp_all; done))))
  rotate_left
  have s1 : a.ws = b.ws := by assumption
  have s2 : a.co = b.co := by assumption
  have s3 : a.da = b.da := by assumption
  have s4 : a.ho = b.ho := by assumption
  have s5 : a.ip = b.ip := by assumption
  have s6 : a.fu = b.fu := by assumption
  have g1 : a.ca.length = b.ca.length := by assumption
  refine LoopG.rounds (α := Nat) T_ok mix [2, 3, 5] [(2, 2), (3, 3)] (fun i => [(2, .ptr 2 0 0), (3, .ptr 3 0 0), (5, .int .i64 i)]) (fun _ => [(2, .live ⟨false, 0, mchR a, [mchR a]⟩), (3, .live ⟨false, 0, mchR b, [mchR b]⟩)]) (fun i => i ≤ a.ca.length ∧ a.ca.take i = b.ca.take i) (fun i => a.ca.length - i) ?_ ?_
  · conv => whnf
    exact head_s 0 ⟨by simp, by simp⟩ rfl rfl
  · rintro i ⟨h1, h2⟩ - -
    conv => whnf
    (apply rq_s rfl;conv=>whnf)
    (refine br_s ?_ ?_ <;> intro hb <;> (try simp only [cln] at hb) <;> conv=>whnf)
    (refine ChkS.mk (by kernel_rfl) ?_;conv=>whnf)
    (apply rq_s rfl;conv=>whnf)
    iterate 3 (refine ChkS.mk (by kernel_rfl) ?_;conv=>whnf)
    (apply rq_s rfl;conv=>whnf)
    (refine rq_s (by refine and_s rfl ?_; simp only [lnm]; omega) ?_;conv=>whnf)
    (refine ChkS.mk (by kernel_rfl) ?_;conv=>whnf)
    (refine row_s (by ((try simp only [Int.toNat_natCast]); exact row_map calR _ _ _ default (by first | omega | (simp; omega)))) ?_;conv=>whnf)
    (refine ChkS.mk (by kernel_rfl) ?_;conv=>whnf)
    (apply rq_s rfl;conv=>whnf)
    iterate 3 (refine ChkS.mk (by kernel_rfl) ?_;conv=>whnf)
    (apply rq_s rfl;conv=>whnf)
    (refine rq_s (by refine and_s rfl ?_; simp only [lnm]; omega) ?_;conv=>whnf)
    (refine ChkS.mk (by kernel_rfl) ?_;conv=>whnf)
    (refine row_s (by ((try simp only [Int.toNat_natCast]); exact row_map calR _ _ _ default (by first | omega | (simp; omega)))) ?_;conv=>whnf)
    (refine ChkS.mk (by kernel_rfl) ?_;conv=>whnf)
    (apply rq_s (by simp only [lnm]; done);conv=>whnf)
    (refine ChkS.mk (by kernel_rfl) ?_;conv=>whnf)
    (refine br_s ?_ ?_ <;> intro hb <;> (try simp only [cln] at hb) <;> conv=>whnf)
    (apply rq_s rfl;conv=>whnf)
    iterate 2 (rotate_left)
    (apply rq_s rfl;conv=>whnf)
    rotate_left
    · rw [qCal] at hb
      refine sh_s (congrArg AV.bool (decide_eq_false fun e => ?_).symm)
      subst e
      simp at hb
    · rw [qCal] at hb
      exact head_s (i + 1) ⟨⟨by omega, take_next default h2 (by omega) (by omega) (of_decide_eq_true hb)⟩, by omega⟩ (by rw [wrap64 (by omega) (by omega)]; rfl) rfl
    · have eg : a.ca = b.ca := take_done h2 (by omega) (by omega)
      refine sh_s ?_
      obtain ⟨a1, a2, a3, a4, a5, a6, a7⟩ := a
      obtain ⟨b1, b2, b3, b4, b5, b6, b7⟩ := b
      simp_all


theorem c75 (a b : Fth) : Con Tryz.prog 75 [fthV a, fthV b] (undefs [fthV a, fthV b]) (.bool (decide (a = b))) := by
  refine Con.evF 131 T_ok mix Tryz.func75 rfl rfl rfl rfl [.tmp 4] rfl fun ⟨hx, _⟩ => ?_
  have hl := fth_facts hx
  have hds : a.ds.length ≤ 9223372036854775807 := facts_len fun d => hx (d + 1) (roDf a.ds) (by simp [fthR])
  conv => whnf
  iterate 36 (apply rq_s rfl;conv=>whnf)
  (apply lend_s;conv=>whnf)
  iterate 20 (apply rows_s rfl;conv=>whnf)
  (refine call_s (c131 ..) ?_;conv=>whnf)
  (refine br_s ?_ ?_ <;> intro hb <;> (try simp only [cln] at hb) <;> conv=>whnf)
  iterate 28 (apply br_t rfl;conv=>whnf)
  (apply rq_s rfl;conv=>whnf)
  (focus (refine sh_s ?_; ((refine congrArg AV.bool (decide_eq_false fun e => ?_).symm; subst e; simp_all; done))))
  (apply rq_s rfl;conv=>whnf)
  iterate 2 (apply br_f rfl;conv=>whnf)
  (apply rq_s rfl;conv=>whnf)
  iterate 2 (apply br_f rfl;conv=>whnf)
  (refine br_s ?_ ?_ <;> intro hb <;> (try simp only [cln] at hb) <;> conv=>whnf)
  iterate 22 (apply br_t rfl;conv=>whnf)
  (apply rq_s rfl;conv=>whnf)
  (focus (refine sh_s ?_; ((refine congrArg AV.bool (decide_eq_false fun e => ?_).symm; subst e; simp_all; done))))
  (apply rq_s rfl;conv=>whnf)
  iterate 2 (apply br_f rfl;conv=>whnf)
  (apply rq_s rfl;conv=>whnf)
  iterate 2 (apply br_f rfl;conv=>whnf)
  (refine br_s ?_ ?_ <;> intro hb <;> (try simp only [cln] at hb) <;> conv=>whnf)
  iterate 16 (apply br_t rfl;conv=>whnf)
  (apply rq_s rfl;conv=>whnf)
  (focus (refine sh_s ?_; ((refine congrArg AV.bool (decide_eq_false fun e => ?_).symm; subst e; simp_all; done))))
  (apply rq_s rfl;conv=>whnf)
  iterate 3 (apply br_f rfl;conv=>whnf)
  (apply rq_s rfl;conv=>whnf)
  iterate 3 (apply br_f rfl;conv=>whnf)
  (refine br_s ?_ ?_ <;> intro hb <;> (try simp only [cln] at hb) <;> conv=>whnf)
  iterate 8 (apply br_t rfl;conv=>whnf)
  (apply rq_s rfl;conv=>whnf)
  (focus (refine sh_s ?_; ((refine congrArg AV.bool (decide_eq_false fun e => ?_).symm; subst e; simp_all; done))))
  (apply rq_s rfl;conv=>whnf)
  iterate 3 (apply br_f rfl;conv=>whnf)
  (apply rq_s rfl;conv=>whnf)
  iterate 3 (apply br_f rfl;conv=>whnf)
  (refine br_s ?_ ?_ <;> intro hb <;> (try simp only [cln] at hb) <;> conv=>whnf)
  (apply rq_s rfl;conv=>whnf)
  (focus (refine sh_s ?_; ((refine congrArg AV.bool (decide_eq_false fun e => ?_).symm; subst e; simp_all; done))))
  rotate_left
  have s1 : a.m = b.m := by assumption
  have s2 : a.co = b.co := by assumption
  have s3 : a.nm = b.nm := by assumption
  have g1 : a.its.length = b.its.length := by assumption
  have g2 : a.ds.length = b.ds.length := by assumption
  refine LoopG.rounds (α := Nat) T_ok mix [2, 3, 5] [(2, 2), (3, 3)] (fun i => [(2, .ptr 2 0 0), (3, .ptr 3 0 0), (5, .int .i64 i)]) (fun _ => [(2, .live ⟨false, 0, fthR a, [fthR a]⟩), (3, .live ⟨false, 0, fthR b, [fthR b]⟩)]) (fun i => i ≤ a.its.length ∧ a.its.take i = b.its.take i) (fun i => a.its.length - i) ?_ ?_
  · conv => whnf
    exact head_s 0 ⟨by simp, by simp⟩ rfl rfl
  · rintro i ⟨h1, h2⟩ - -
    conv => whnf
    (apply rq_s rfl;conv=>whnf)
    (refine br_s ?_ ?_ <;> intro hb <;> (try simp only [cln] at hb) <;> conv=>whnf)
    (refine ChkS.mk (by kernel_rfl) ?_;conv=>whnf)
    (apply rq_s rfl;conv=>whnf)
    iterate 3 (refine ChkS.mk (by kernel_rfl) ?_;conv=>whnf)
    (apply rq_s rfl;conv=>whnf)
    (refine rq_s (by refine and_s rfl ?_; simp only [lnm]; omega) ?_;conv=>whnf)
    (refine ChkS.mk (by kernel_rfl) ?_;conv=>whnf)
    (refine row_s (by ((try simp only [Int.toNat_natCast]); exact row_map itR _ _ _ default (by first | omega | (simp; omega)))) ?_;conv=>whnf)
    (refine ChkS.mk (by kernel_rfl) ?_;conv=>whnf)
    (apply rq_s rfl;conv=>whnf)
    iterate 3 (refine ChkS.mk (by kernel_rfl) ?_;conv=>whnf)
    (apply rq_s rfl;conv=>whnf)
    (refine rq_s (by refine and_s rfl ?_; simp only [lnm]; omega) ?_;conv=>whnf)
    (refine ChkS.mk (by kernel_rfl) ?_;conv=>whnf)
    (refine row_s (by ((try simp only [Int.toNat_natCast]); exact row_map itR _ _ _ default (by first | omega | (simp; omega)))) ?_;conv=>whnf)
    (refine ChkS.mk (by kernel_rfl) ?_;conv=>whnf)
    (apply rq_s (by simp only [lnm]; done);conv=>whnf)
    (refine ChkS.mk (by kernel_rfl) ?_;conv=>whnf)
    (refine br_s ?_ ?_ <;> intro hb <;> (try simp only [cln] at hb) <;> conv=>whnf)
    (apply rq_s rfl;conv=>whnf)
    iterate 3 (rotate_left)
    · rw [qItm] at hb
      refine sh_s (congrArg AV.bool (decide_eq_false fun e => ?_).symm)
      subst e
      simp at hb
    · rw [qItm] at hb
      exact head_s (i + 1) ⟨⟨by omega, take_next default h2 (by omega) (by omega) (of_decide_eq_true hb)⟩, by omega⟩ (by rw [wrap64 (by omega) (by omega)]; rfl) rfl
    · have ei : a.its = b.its := take_done h2 (by omega) (by omega)
      refine LoopG.rounds (α := Nat) T_ok mix [2, 3, 6] [(2, 2), (3, 3)] (fun i => [(2, .ptr 2 0 0), (3, .ptr 3 0 0), (6, .int .i64 i)]) (fun _ => [(2, .live ⟨false, 0, fthR a, [fthR a]⟩), (3, .live ⟨false, 0, fthR b, [fthR b]⟩)]) (fun i => i ≤ a.ds.length ∧ a.ds.take i = b.ds.take i) (fun i => a.ds.length - i) ?_ ?_
      · conv => whnf
        exact head_s 0 ⟨by simp, by simp⟩ rfl rfl
      · rintro j ⟨h3, h4⟩ - -
        by_cases hj : j < a.ds.length
        rotate_left
        · obtain rfl : j = a.ds.length := by omega
          have ed : a.ds = b.ds := take_done h4 (by omega) (by omega)
          conv => whnf
          (apply rq_s rfl;conv=>whnf)
          (focus (apply br_f (by (simp; done));conv=>whnf))
          (apply rq_s rfl;conv=>whnf)
          rotate_left
          refine sh_s ?_
          obtain ⟨a1, a2, a3, a4, a5⟩ := a
          obtain ⟨b1, b2, b3, b4, b5⟩ := b
          simp_all
        have hdl : (a.ds.getD j default).its.length ≤ 9223372036854775807 := hl.2.1 _ (by have : a.ds.getD j default = a.ds[j] := by simp [hj]
                                                                                          rw [this]; exact List.getElem_mem hj)
        have ne_of : a.ds.getD j default ≠ b.ds.getD j default → a ≠ b := fun h e => h (by rw [e])
        by_cases hw : (a.ds.getD j default).w = (b.ds.getD j default).w
        rotate_left
        · have gw : ((a.ds.getD j default).w != (b.ds.getD j default).w) = true := bne_iff_ne.2 hw
          have e0 := ne_of fun e => hw (by rw [e])
          conv => whnf
          (apply rq_s rfl;conv=>whnf)
          (refine br_s ?_ ?_ <;> intro hb <;> (try simp only [cln] at hb) <;> conv=>whnf)
          (refine ChkS.mk (by kernel_rfl) ?_;conv=>whnf)
          (apply rq_s rfl;conv=>whnf)
          iterate 3 (refine ChkS.mk (by kernel_rfl) ?_;conv=>whnf)
          (apply rq_s rfl;conv=>whnf)
          (refine rq_s (by refine and_s rfl ?_; simp only [lnm]; omega) ?_;conv=>whnf)
          (refine ChkS.mk (by kernel_rfl) ?_;conv=>whnf)
          (apply rq_s rfl;conv=>whnf)
          (refine ChkS.mk (by kernel_rfl) ?_;conv=>whnf)
          (refine row_s (by ((try simp only [Int.toNat_natCast]); exact row_map dfR _ _ _ default (by first | omega | (simp; omega)))) ?_;conv=>whnf)
          (refine ChkS.mk (by kernel_rfl) ?_;conv=>whnf)
          (apply rq_s rfl;conv=>whnf)
          iterate 3 (refine ChkS.mk (by kernel_rfl) ?_;conv=>whnf)
          (apply rq_s rfl;conv=>whnf)
          (refine rq_s (by refine and_s rfl ?_; simp only [lnm]; omega) ?_;conv=>whnf)
          (refine ChkS.mk (by kernel_rfl) ?_;conv=>whnf)
          (apply rq_s rfl;conv=>whnf)
          (refine ChkS.mk (by kernel_rfl) ?_;conv=>whnf)
          (refine row_s (by ((try simp only [Int.toNat_natCast]); exact row_map dfR _ _ _ default (by first | omega | (simp; omega)))) ?_;conv=>whnf)
          iterate 3 (refine ChkS.mk (by kernel_rfl) ?_;conv=>whnf)
          (apply br_t (by simp only [gw, if_true, if_false, Bool.false_eq_true, reduceIte]; done);conv=>whnf)
          (refine ChkS.mk (by kernel_rfl) ?_;conv=>whnf)
          (apply br_t (by simp only [gw, if_true, if_false, Bool.false_eq_true, reduceIte]; done);conv=>whnf)
          (refine ChkS.mk (by kernel_rfl) ?_;conv=>whnf)
          (apply br_t (by simp only [gw, if_true, if_false, Bool.false_eq_true, reduceIte]; done);conv=>whnf)
          (refine ChkS.mk (by kernel_rfl) ?_;conv=>whnf)
          (apply br_t (by simp only [gw, if_true, if_false, Bool.false_eq_true, reduceIte]; done);conv=>whnf)
          (refine ChkS.mk (by kernel_rfl) ?_;conv=>whnf)
          (apply br_t (by simp only [gw, if_true, if_false, Bool.false_eq_true, reduceIte]; done);conv=>whnf)
          (refine ChkS.mk (by kernel_rfl) ?_;conv=>whnf)
          (apply br_t (by simp only [gw, if_true, if_false, Bool.false_eq_true, reduceIte]; done);conv=>whnf)
          (refine ChkS.mk (by kernel_rfl) ?_;conv=>whnf)
          (apply br_t (by simp only [gw, if_true, if_false, Bool.false_eq_true, reduceIte]; done);conv=>whnf)
          (refine ChkS.mk (by kernel_rfl) ?_;conv=>whnf)
          (apply br_t (by simp only [gw, if_true, if_false, Bool.false_eq_true, reduceIte]; done);conv=>whnf)
          (refine ChkS.mk (by kernel_rfl) ?_;conv=>whnf)
          (apply br_t (by simp only [gw, if_true, if_false, Bool.false_eq_true, reduceIte]; done);conv=>whnf)
          (refine ChkS.mk (by kernel_rfl) ?_;conv=>whnf)
          (apply br_t (by simp only [gw, if_true, if_false, Bool.false_eq_true, reduceIte]; done);conv=>whnf)
          (refine ChkS.mk (by kernel_rfl) ?_;conv=>whnf)
          (apply br_t (by simp only [gw, if_true, if_false, Bool.false_eq_true, reduceIte]; done);conv=>whnf)
          (refine ChkS.mk (by kernel_rfl) ?_;conv=>whnf)
          (apply br_t (by simp only [gw, if_true, if_false, Bool.false_eq_true, reduceIte]; done);conv=>whnf)
          (refine ChkS.mk (by kernel_rfl) ?_;conv=>whnf)
          (apply br_t (by simp only [gw, if_true, if_false, Bool.false_eq_true, reduceIte]; done);conv=>whnf)
          (refine ChkS.mk (by kernel_rfl) ?_;conv=>whnf)
          (apply br_t (by simp only [gw, if_true, if_false, Bool.false_eq_true, reduceIte]; done);conv=>whnf)
          (refine ChkS.mk (by kernel_rfl) ?_;conv=>whnf)
          (apply br_t (by simp only [gw, if_true, if_false, Bool.false_eq_true, reduceIte]; done);conv=>whnf)
          (refine ChkS.mk (by kernel_rfl) ?_;conv=>whnf)
          (apply br_t (by simp only [gw, if_true, if_false, Bool.false_eq_true, reduceIte]; done);conv=>whnf)
          (refine ChkS.mk (by kernel_rfl) ?_;conv=>whnf)
          (apply br_t rfl;conv=>whnf)
          (apply rq_s rfl;conv=>whnf)
          rotate_left
          (apply rq_s rfl;conv=>whnf)
          rotate_left
          · exact sh_s (by rw [decide_eq_false e0])
          · exact absurd hj (by omega)
        have gw : ((a.ds.getD j default).w != (b.ds.getD j default).w) = false := by rw [hw]; simp
        by_cases hn : (a.ds.getD j default).its.length = (b.ds.getD j default).its.length
        rotate_left
        · have gl : (((((a.ds.getD j default).its.map itR).length : Nat) : Int) != ((((b.ds.getD j default).its.map itR).length : Nat) : Int)) = true := by rw [List.length_map, List.length_map]; exact bne_iff_ne.2 (by omega)
          have e0 := ne_of fun e => hn (by rw [e])
          conv => whnf
          (apply rq_s rfl;conv=>whnf)
          (refine br_s ?_ ?_ <;> intro hb <;> (try simp only [cln] at hb) <;> conv=>whnf)
          (refine ChkS.mk (by kernel_rfl) ?_;conv=>whnf)
          (apply rq_s rfl;conv=>whnf)
          iterate 3 (refine ChkS.mk (by kernel_rfl) ?_;conv=>whnf)
          (apply rq_s rfl;conv=>whnf)
          (refine rq_s (by refine and_s rfl ?_; simp only [lnm]; omega) ?_;conv=>whnf)
          (refine ChkS.mk (by kernel_rfl) ?_;conv=>whnf)
          (apply rq_s rfl;conv=>whnf)
          (refine ChkS.mk (by kernel_rfl) ?_;conv=>whnf)
          (refine row_s (by ((try simp only [Int.toNat_natCast]); exact row_map dfR _ _ _ default (by first | omega | (simp; omega)))) ?_;conv=>whnf)
          (refine ChkS.mk (by kernel_rfl) ?_;conv=>whnf)
          (apply rq_s rfl;conv=>whnf)
          iterate 3 (refine ChkS.mk (by kernel_rfl) ?_;conv=>whnf)
          (apply rq_s rfl;conv=>whnf)
          (refine rq_s (by refine and_s rfl ?_; simp only [lnm]; omega) ?_;conv=>whnf)
          (refine ChkS.mk (by kernel_rfl) ?_;conv=>whnf)
          (apply rq_s rfl;conv=>whnf)
          (refine ChkS.mk (by kernel_rfl) ?_;conv=>whnf)
          (refine row_s (by ((try simp only [Int.toNat_natCast]); exact row_map dfR _ _ _ default (by first | omega | (simp; omega)))) ?_;conv=>whnf)
          iterate 3 (refine ChkS.mk (by kernel_rfl) ?_;conv=>whnf)
          (apply br_f (by simp only [gw, gl, if_true, if_false, Bool.false_eq_true, reduceIte]; done);conv=>whnf)
          (apply rq_s rfl;conv=>whnf)
          (refine ChkS.mk (by kernel_rfl) ?_;conv=>whnf)
          (apply br_f (by simp only [gw, gl, if_true, if_false, Bool.false_eq_true, reduceIte]; done);conv=>whnf)
          (refine ChkS.mk (by kernel_rfl) ?_;conv=>whnf)
          (apply br_f (by simp only [gw, gl, if_true, if_false, Bool.false_eq_true, reduceIte]; done);conv=>whnf)
          (refine ChkS.mk (by kernel_rfl) ?_;conv=>whnf)
          (apply br_f (by simp only [gw, gl, if_true, if_false, Bool.false_eq_true, reduceIte]; done);conv=>whnf)
          (apply rq_s rfl;conv=>whnf)
          (refine rq_s (by refine and_s rfl ?_; simp only [lnm]; omega) ?_;conv=>whnf)
          (refine ChkS.mk (by kernel_rfl) ?_;conv=>whnf)
          (apply br_f (by simp only [gw, gl, if_true, if_false, Bool.false_eq_true, reduceIte]; done);conv=>whnf)
          (apply rq_s rfl;conv=>whnf)
          (refine ChkS.mk (by kernel_rfl) ?_;conv=>whnf)
          (apply br_f (by simp only [gw, gl, if_true, if_false, Bool.false_eq_true, reduceIte]; done);conv=>whnf)
          (refine row_s (by ((try simp only [Int.toNat_natCast]); exact row_map dfR _ _ _ default (by first | omega | (simp; omega)))) ?_;conv=>whnf)
          (refine ChkS.mk (by kernel_rfl) ?_;conv=>whnf)
          (apply br_f (by simp only [gw, gl, if_true, if_false, Bool.false_eq_true, reduceIte]; done);conv=>whnf)
          (refine ChkS.mk (by kernel_rfl) ?_;conv=>whnf)
          (apply br_f (by simp only [gw, gl, if_true, if_false, Bool.false_eq_true, reduceIte]; done);conv=>whnf)
          (apply rq_s rfl;conv=>whnf)
          (refine ChkS.mk (by kernel_rfl) ?_;conv=>whnf)
          (apply br_f (by simp only [gw, gl, if_true, if_false, Bool.false_eq_true, reduceIte]; done);conv=>whnf)
          (refine ChkS.mk (by kernel_rfl) ?_;conv=>whnf)
          (apply br_f (by simp only [gw, gl, if_true, if_false, Bool.false_eq_true, reduceIte]; done);conv=>whnf)
          (refine ChkS.mk (by kernel_rfl) ?_;conv=>whnf)
          (apply br_f (by simp only [gw, gl, if_true, if_false, Bool.false_eq_true, reduceIte]; done);conv=>whnf)
          (apply rq_s rfl;conv=>whnf)
          (refine rq_s (by refine and_s rfl ?_; simp only [lnm]; omega) ?_;conv=>whnf)
          (refine ChkS.mk (by kernel_rfl) ?_;conv=>whnf)
          (apply br_f (by simp only [gw, gl, if_true, if_false, Bool.false_eq_true, reduceIte]; done);conv=>whnf)
          (apply rq_s rfl;conv=>whnf)
          (refine ChkS.mk (by kernel_rfl) ?_;conv=>whnf)
          (apply br_f (by simp only [gw, gl, if_true, if_false, Bool.false_eq_true, reduceIte]; done);conv=>whnf)
          (refine row_s (by ((try simp only [Int.toNat_natCast]); exact row_map dfR _ _ _ default (by first | omega | (simp; omega)))) ?_;conv=>whnf)
          (refine ChkS.mk (by kernel_rfl) ?_;conv=>whnf)
          (apply br_f (by simp only [gw, gl, if_true, if_false, Bool.false_eq_true, reduceIte]; done);conv=>whnf)
          (refine ChkS.mk (by kernel_rfl) ?_;conv=>whnf)
          (apply br_f (by simp only [gw, gl, if_true, if_false, Bool.false_eq_true, reduceIte]; done);conv=>whnf)
          iterate 2 (refine ChkS.mk (by kernel_rfl) ?_;conv=>whnf)
          (apply br_t (by simp only [gw, gl, if_true, if_false, Bool.false_eq_true, reduceIte]; done);conv=>whnf)
          (apply rq_s rfl;conv=>whnf)
          rotate_left
          (apply rq_s rfl;conv=>whnf)
          rotate_left
          · exact sh_s (by rw [decide_eq_false e0])
          · exact absurd hj (by omega)
        have gl : (((((a.ds.getD j default).its.map itR).length : Nat) : Int) != ((((b.ds.getD j default).its.map itR).length : Nat) : Int)) = false := by rw [List.length_map, List.length_map, hn]; simp
        conv => whnf
        (apply rq_s rfl;conv=>whnf)
        (refine br_s ?_ ?_ <;> intro hb <;> (try simp only [cln] at hb) <;> conv=>whnf)
        (refine ChkS.mk (by kernel_rfl) ?_;conv=>whnf)
        (apply rq_s rfl;conv=>whnf)
        iterate 3 (refine ChkS.mk (by kernel_rfl) ?_;conv=>whnf)
        (apply rq_s rfl;conv=>whnf)
        (refine rq_s (by refine and_s rfl ?_; simp only [lnm]; omega) ?_;conv=>whnf)
        (refine ChkS.mk (by kernel_rfl) ?_;conv=>whnf)
        (apply rq_s rfl;conv=>whnf)
        (refine ChkS.mk (by kernel_rfl) ?_;conv=>whnf)
        (refine row_s (by ((try simp only [Int.toNat_natCast]); exact row_map dfR _ _ _ default (by first | omega | (simp; omega)))) ?_;conv=>whnf)
        (refine ChkS.mk (by kernel_rfl) ?_;conv=>whnf)
        (apply rq_s rfl;conv=>whnf)
        iterate 3 (refine ChkS.mk (by kernel_rfl) ?_;conv=>whnf)
        (apply rq_s rfl;conv=>whnf)
        (refine rq_s (by refine and_s rfl ?_; simp only [lnm]; omega) ?_;conv=>whnf)
        (refine ChkS.mk (by kernel_rfl) ?_;conv=>whnf)
        (apply rq_s rfl;conv=>whnf)
        (refine ChkS.mk (by kernel_rfl) ?_;conv=>whnf)
        (refine row_s (by ((try simp only [Int.toNat_natCast]); exact row_map dfR _ _ _ default (by first | omega | (simp; omega)))) ?_;conv=>whnf)
        iterate 3 (refine ChkS.mk (by kernel_rfl) ?_;conv=>whnf)
        (apply br_f (by simp only [gw, gl, if_true, if_false, Bool.false_eq_true, reduceIte]; done);conv=>whnf)
        (apply rq_s rfl;conv=>whnf)
        (refine ChkS.mk (by kernel_rfl) ?_;conv=>whnf)
        (apply br_f (by simp only [gw, gl, if_true, if_false, Bool.false_eq_true, reduceIte]; done);conv=>whnf)
        (refine ChkS.mk (by kernel_rfl) ?_;conv=>whnf)
        (apply br_f (by simp only [gw, gl, if_true, if_false, Bool.false_eq_true, reduceIte]; done);conv=>whnf)
        (refine ChkS.mk (by kernel_rfl) ?_;conv=>whnf)
        (apply br_f (by simp only [gw, gl, if_true, if_false, Bool.false_eq_true, reduceIte]; done);conv=>whnf)
        (apply rq_s rfl;conv=>whnf)
        (refine rq_s (by refine and_s rfl ?_; simp only [lnm]; omega) ?_;conv=>whnf)
        (refine ChkS.mk (by kernel_rfl) ?_;conv=>whnf)
        (apply br_f (by simp only [gw, gl, if_true, if_false, Bool.false_eq_true, reduceIte]; done);conv=>whnf)
        (apply rq_s rfl;conv=>whnf)
        (refine ChkS.mk (by kernel_rfl) ?_;conv=>whnf)
        (apply br_f (by simp only [gw, gl, if_true, if_false, Bool.false_eq_true, reduceIte]; done);conv=>whnf)
        (refine row_s (by ((try simp only [Int.toNat_natCast]); exact row_map dfR _ _ _ default (by first | omega | (simp; omega)))) ?_;conv=>whnf)
        (refine ChkS.mk (by kernel_rfl) ?_;conv=>whnf)
        (apply br_f (by simp only [gw, gl, if_true, if_false, Bool.false_eq_true, reduceIte]; done);conv=>whnf)
        (refine ChkS.mk (by kernel_rfl) ?_;conv=>whnf)
        (apply br_f (by simp only [gw, gl, if_true, if_false, Bool.false_eq_true, reduceIte]; done);conv=>whnf)
        (apply rq_s rfl;conv=>whnf)
        (refine ChkS.mk (by kernel_rfl) ?_;conv=>whnf)
        (apply br_f (by simp only [gw, gl, if_true, if_false, Bool.false_eq_true, reduceIte]; done);conv=>whnf)
        (refine ChkS.mk (by kernel_rfl) ?_;conv=>whnf)
        (apply br_f (by simp only [gw, gl, if_true, if_false, Bool.false_eq_true, reduceIte]; done);conv=>whnf)
        (refine ChkS.mk (by kernel_rfl) ?_;conv=>whnf)
        (apply br_f (by simp only [gw, gl, if_true, if_false, Bool.false_eq_true, reduceIte]; done);conv=>whnf)
        (apply rq_s rfl;conv=>whnf)
        (refine rq_s (by refine and_s rfl ?_; simp only [lnm]; omega) ?_;conv=>whnf)
        (refine ChkS.mk (by kernel_rfl) ?_;conv=>whnf)
        (apply br_f (by simp only [gw, gl, if_true, if_false, Bool.false_eq_true, reduceIte]; done);conv=>whnf)
        (apply rq_s rfl;conv=>whnf)
        (refine ChkS.mk (by kernel_rfl) ?_;conv=>whnf)
        (apply br_f (by simp only [gw, gl, if_true, if_false, Bool.false_eq_true, reduceIte]; done);conv=>whnf)
        (refine row_s (by ((try simp only [Int.toNat_natCast]); exact row_map dfR _ _ _ default (by first | omega | (simp; omega)))) ?_;conv=>whnf)
        (refine ChkS.mk (by kernel_rfl) ?_;conv=>whnf)
        (apply br_f (by simp only [gw, gl, if_true, if_false, Bool.false_eq_true, reduceIte]; done);conv=>whnf)
        (refine ChkS.mk (by kernel_rfl) ?_;conv=>whnf)
        (apply br_f (by simp only [gw, gl, if_true, if_false, Bool.false_eq_true, reduceIte]; done);conv=>whnf)
        iterate 2 (refine ChkS.mk (by kernel_rfl) ?_;conv=>whnf)
        (apply br_f (by simp only [gw, gl, if_true, if_false, Bool.false_eq_true, reduceIte]; done);conv=>whnf)
        rotate_left
        (apply rq_s rfl;conv=>whnf)
        rotate_left
        rotate_left
        · exact absurd hj (by omega)
        refine LoopG.rounds (α := Nat) T_ok mix [2, 3, 6, 7] [(2, 2), (3, 3)] (fun i => [(2, .ptr 2 0 0), (3, .ptr 3 0 0), (6, .int .i64 j), (7, .int .i64 i)]) (fun _ => [(2, .live ⟨false, 0, fthR a, [fthR a]⟩), (3, .live ⟨false, 0, fthR b, [fthR b]⟩)]) (fun i => i ≤ (a.ds.getD j default).its.length ∧ (a.ds.getD j default).its.take i = (b.ds.getD j default).its.take i) (fun i => (a.ds.getD j default).its.length - i) ?_ ?_
        · conv => whnf
          exact head_s 0 ⟨by simp, by simp⟩ rfl rfl
        · rintro k ⟨h5, h6⟩ - -
          conv => whnf
          iterate 2 (apply rq_s rfl;conv=>whnf)
          (refine rq_s (by refine and_s rfl ?_; simp only [lnm]; omega) ?_;conv=>whnf)
          (apply rq_s rfl;conv=>whnf)
          (refine row_s (by ((try simp only [Int.toNat_natCast]); exact row_map dfR _ _ _ default (by first | omega | (simp; omega)))) ?_;conv=>whnf)
          (refine br_s ?_ ?_ <;> intro hb <;> (try simp only [cln] at hb) <;> conv=>whnf)
          (refine ChkS.mk (by kernel_rfl) ?_;conv=>whnf)
          (apply rq_s rfl;conv=>whnf)
          iterate 3 (refine ChkS.mk (by kernel_rfl) ?_;conv=>whnf)
          (apply rq_s rfl;conv=>whnf)
          (refine rq_s (by refine and_s rfl ?_; simp only [lnm]; omega) ?_;conv=>whnf)
          (refine ChkS.mk (by kernel_rfl) ?_;conv=>whnf)
          (apply rq_s rfl;conv=>whnf)
          (refine ChkS.mk (by kernel_rfl) ?_;conv=>whnf)
          (refine row_s (by ((try simp only [Int.toNat_natCast]); exact row_map dfR _ _ _ default (by first | omega | (simp; omega)))) ?_;conv=>whnf)
          iterate 2 (refine ChkS.mk (by kernel_rfl) ?_;conv=>whnf)
          (apply rq_s rfl;conv=>whnf)
          (refine rq_s (by refine and_s rfl ?_; simp only [lnm]; omega) ?_;conv=>whnf)
          (refine ChkS.mk (by kernel_rfl) ?_;conv=>whnf)
          (refine row_s (by ((try simp only [Int.toNat_natCast]); exact row_map itR _ _ _ default (by first | omega | (simp; omega)))) ?_;conv=>whnf)
          (refine ChkS.mk (by kernel_rfl) ?_;conv=>whnf)
          (apply rq_s rfl;conv=>whnf)
          iterate 3 (refine ChkS.mk (by kernel_rfl) ?_;conv=>whnf)
          (apply rq_s rfl;conv=>whnf)
          (refine rq_s (by refine and_s rfl ?_; simp only [lnm]; omega) ?_;conv=>whnf)
          (refine ChkS.mk (by kernel_rfl) ?_;conv=>whnf)
          (apply rq_s rfl;conv=>whnf)
          (refine ChkS.mk (by kernel_rfl) ?_;conv=>whnf)
          (refine row_s (by ((try simp only [Int.toNat_natCast]); exact row_map dfR _ _ _ default (by first | omega | (simp; omega)))) ?_;conv=>whnf)
          iterate 2 (refine ChkS.mk (by kernel_rfl) ?_;conv=>whnf)
          (apply rq_s rfl;conv=>whnf)
          (refine rq_s (by refine and_s rfl ?_; simp only [lnm]; omega) ?_;conv=>whnf)
          (refine ChkS.mk (by kernel_rfl) ?_;conv=>whnf)
          (refine row_s (by ((try simp only [Int.toNat_natCast]); exact row_map itR _ _ _ default (by first | omega | (simp; omega)))) ?_;conv=>whnf)
          (refine ChkS.mk (by kernel_rfl) ?_;conv=>whnf)
          (apply rq_s (by simp only [lnm]; done);conv=>whnf)
          (refine ChkS.mk (by kernel_rfl) ?_;conv=>whnf)
          (refine br_s ?_ ?_ <;> intro hb <;> (try simp only [cln] at hb) <;> conv=>whnf)
          (apply rq_s rfl;conv=>whnf)
          iterate 3 (rotate_left)
          · rw [qItm] at hb
            have e0 := ne_of fun e => by rw [e] at hb; simp at hb
            exact sh_s (by rw [decide_eq_false e0])
          · rw [qItm] at hb
            exact head_s (k + 1) ⟨⟨by omega, take_next default h6 (by omega) (by omega) (of_decide_eq_true hb)⟩, by omega⟩ (by rw [wrap64 (by omega) (by omega)]; rfl) rfl
          · have ed : (a.ds.getD j default).its = (b.ds.getD j default).its := take_done h6 (by omega) (by omega)
            have ej : a.ds.getD j default = b.ds.getD j default := by
              generalize a.ds.getD j default = p at hw ed
              generalize b.ds.getD j default = q at hw ed
              obtain ⟨p1, p2⟩ := p
              obtain ⟨q1, q2⟩ := q
              simp_all
            exact head_s (j + 1) ⟨⟨by omega, take_next default h4 (by omega) (by omega) ej⟩, by omega⟩ (by rw [wrap64 (by omega) (by omega)]; rfl) rfl


theorem c23 (a b : Fth) : Con Tryz.prog 23 [fthV a, fthV b] (undefs [fthV a, fthV b]) (.bool (fthOK a && (fthOK b && decide (a = b)))) := by
  have k1 := c66 a
  have k2 := c66 b
  generalize fthOK a = r1 at k1 ⊢
  generalize fthOK b = r2 at k2 ⊢
  refine Con.ev 16 T_ok mix Tryz.func23 rfl rfl rfl rfl [.tmp 4] rfl ?_
  conv => whnf
  iterate 22 (apply rq_s rfl;conv=>whnf)
  (apply lend_s;conv=>whnf)
  iterate 12 (apply rows_s rfl;conv=>whnf)
  (refine call_s (k1 ..) ?_;conv=>whnf)
  (refine br_s ?_ ?_ <;> intro hb <;> (try simp only [cln] at hb) <;> conv=>whnf)
  (apply br_t rfl;conv=>whnf)
  iterate 20 (apply rq_s rfl;conv=>whnf)
  (apply lend_s;conv=>whnf)
  iterate 12 (apply rows_s rfl;conv=>whnf)
  (refine call_s (k2 ..) ?_;conv=>whnf)
  (refine br_s ?_ ?_ <;> intro hb <;> (try simp only [cln] at hb) <;> conv=>whnf)
  iterate 2 (apply br_t rfl;conv=>whnf)
  iterate 40 (apply rq_s rfl;conv=>whnf)
  (apply lend_s;conv=>whnf)
  iterate 24 (apply rows_s rfl;conv=>whnf)
  (refine call_s (c75 a b ..) ?_;conv=>whnf)
  (apply rq_s rfl;conv=>whnf)
  (focus (refine sh_s ?_; (first | (simp_all; done) | (refine congrArg AV.bool ?_; rw [Bool.eq_iff_iff]; simp_all; done))))
  iterate 3 (apply br_f rfl;conv=>whnf)
  (apply rq_s rfl;conv=>whnf)
  (focus (refine sh_s ?_; (first | (simp_all; done) | (refine congrArg AV.bool ?_; rw [Bool.eq_iff_iff]; simp_all; done))))
  iterate 6 (apply br_f rfl;conv=>whnf)
  (apply rq_s rfl;conv=>whnf)
  (focus (refine sh_s ?_; (first | (simp_all; done) | (refine congrArg AV.bool ?_; rw [Bool.eq_iff_iff]; simp_all; done))))
end Q2
