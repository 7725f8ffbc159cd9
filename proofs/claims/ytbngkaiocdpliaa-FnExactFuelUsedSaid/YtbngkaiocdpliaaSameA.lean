/- The functions that the law FnExactSameReport reaches, each with its contract; the law returns true. -/
import Derived.Test.YtbngkaiocdpliaaProg
import Derived.KernelRfl
import Derived.Test.YtbngkaiocdpliaaAbs6
set_option linter.unusedVariables false
set_option linter.unusedSimpArgs false
set_option maxRecDepth 100000
open Go Go.Abs Go.Proofs
namespace U4
def T : TT := [(3, TI.mk (UT.int IntKind.i64) 1 8 [AV.int IntKind.i64 0] false),
  (4, TI.mk UT.bool 1 1 [AV.bool false] false),
  (9, TI.mk UT.str 1 16 [AV.str []] false),
  (29, TI.mk (UT.slice 3) 1 24 [AV.emp] false),
  (31, TI.mk (UT.struct [(0, 3), (1, 3), (2, 9), (3, 29), (4, 4)]) 5 64 [AV.int IntKind.i64 0, AV.int IntKind.i64 0, AV.str [], AV.emp, AV.bool false] true),
  (34, TI.mk (UT.struct [(0, 3), (1, 3), (2, 9), (3, 29), (4, 4)]) 5 64 [AV.int IntKind.i64 0, AV.int IntKind.i64 0, AV.str [], AV.emp, AV.bool false] true)]
theorem T_ok : T.ok Try.prog := TT.ok_cons (by kernel_rfl) <| TT.ok_cons (by kernel_rfl) <| TT.ok_cons (by kernel_rfl) <| TT.ok_cons (by kernel_rfl) <| TT.ok_cons (by kernel_rfl) <| TT.ok_cons (by kernel_rfl) <| TT.ok_nil

theorem mix : Try.prog.follows .mixedOrders = true := by kernel_rfl

def szI (xs : List Int) (left : Int) : Int := if IntKind.i64.wrap (left - xs.length) < 0 then -1 else IntKind.i64.wrap (left - xs.length)
theorem c43 (xs : List Int) (left : Int) : Con Try.prog 43 [roI xs, .int .i64 left] (undefs [roI xs, .int .i64 left]) (.int .i64 (szI xs left)) := by
  refine Con.ev 12 T_ok mix Try.func43 rfl rfl rfl rfl [.tmp 4] rfl ?_
  conv => whnf
  repeat' (first
    | (refine rq_s (by first | rfl | (simp; done) | (simp; omega) ) ?_; conv => whnf)
    | (refine row_s (by first | (try simp only [Int.toNat_natCast]); exact row_int _ _ _ (by first | omega | (simp; omega)) | rfl) ?_; conv => whnf)
    | (refine rows_s (by first | (refine sub_all ?_; simp; done) | exact sub_map _ _ _ _ | rfl) ?_; conv => whnf)
    | (refine fac_s (fun hf => ?_); conv => whnf)
    | (refine ChkS.mk (by kernel_rfl) ?_; conv => whnf)
    | (refine br_t rfl ?_; conv => whnf)
    | (refine br_f rfl ?_; conv => whnf)
    | (refine br_t (by assumption) ?_; conv => whnf)
    | (refine br_f (by assumption) ?_; conv => whnf)
    | (refine br_s (fun hb => ?_) (fun hb => ?_) <;> (try simp only [beq_iff_eq, bne_iff_ne, ne_eq, decide_eq_true_eq, decide_eq_false_iff_not, Int.not_lt, Int.not_le, beq_eq_false_iff_ne, bne_eq_false_iff_eq, Bool.not_eq_true', Bool.not_eq_false', Int.ofNat_lt, Int.ofNat_le, Int.ofNat_inj, List.length_map, List.length_nil, List.length_cons] at hb) <;> conv => whnf)
    
    | (refine sh_s ?_; first | (simp_all [szI]; done) | (simp_all [szI]; omega)))
theorem c44 (xs ys : List Int) : Con Try.prog 44 [roI xs, roI ys] (undefs [roI xs, roI ys]) (.bool (xs == ys)) := by
  refine Con.evF 26 T_ok mix Try.func44 rfl rfl rfl rfl [.tmp 4] rfl fun ⟨hx, _⟩ => ?_
  have hx := facts_roI hx
  conv => whnf
  repeat' (first
    | (refine rq_s (by first | rfl | (simp; done) | (simp; omega) ) ?_; conv => whnf)
    | (refine row_s (by first | (try simp only [Int.toNat_natCast]); exact row_int _ _ _ (by first | omega | (simp; omega)) | rfl) ?_; conv => whnf)
    | (refine rows_s (by first | (refine sub_all ?_; simp; done) | exact sub_map _ _ _ _ | rfl) ?_; conv => whnf)
    | (refine fac_s (fun hf => ?_); conv => whnf)
    | (refine ChkS.mk (by kernel_rfl) ?_; conv => whnf)
    | (refine br_t rfl ?_; conv => whnf)
    | (refine br_f rfl ?_; conv => whnf)
    | (refine br_t (by assumption) ?_; conv => whnf)
    | (refine br_f (by assumption) ?_; conv => whnf)
    | (refine br_s (fun hb => ?_) (fun hb => ?_) <;> (try simp only [beq_iff_eq, bne_iff_ne, ne_eq, decide_eq_true_eq, decide_eq_false_iff_not, Int.not_lt, Int.not_le, beq_eq_false_iff_ne, bne_eq_false_iff_eq, Bool.not_eq_true', Bool.not_eq_false', Int.ofNat_lt, Int.ofNat_le, Int.ofNat_inj, List.length_map, List.length_nil, List.length_cons] at hb) <;> conv => whnf)
    
    )
  · refine sh_s ?_
    have : xs ≠ ys := fun e => hb (by rw [e])
    simp [this]
  · refine LoopG.rounds (α := Nat) T_ok mix [0, 1, 5] [] (fun i => [(0, roI xs), (1, roI ys), (5, .int .i64 i)]) (fun _ => []) (fun i => i ≤ xs.length ∧ xs.take i = ys.take i) (fun i => xs.length - i) ?_ ?_
    · conv => whnf
      exact head_s 0 ⟨by simp, by simp⟩ rfl rfl
    · rintro i ⟨h1, h2⟩ - -
      conv => whnf
      repeat' (first
    | (refine rq_s (by first | rfl | (simp; done) | (simp; omega) ) ?_; conv => whnf)
    | (refine row_s (by first | (try simp only [Int.toNat_natCast]); exact row_int _ _ _ (by first | omega | (simp; omega)) | rfl) ?_; conv => whnf)
    | (refine rows_s (by first | (refine sub_all ?_; simp; done) | exact sub_map _ _ _ _ | rfl) ?_; conv => whnf)
    | (refine fac_s (fun hf => ?_); conv => whnf)
    | (refine ChkS.mk (by kernel_rfl) ?_; conv => whnf)
    | (refine br_t rfl ?_; conv => whnf)
    | (refine br_f rfl ?_; conv => whnf)
    | (refine br_t (by assumption) ?_; conv => whnf)
    | (refine br_f (by assumption) ?_; conv => whnf)
    | (refine br_s (fun hb => ?_) (fun hb => ?_) <;> (try simp only [beq_iff_eq, bne_iff_ne, ne_eq, decide_eq_true_eq, decide_eq_false_iff_not, Int.not_lt, Int.not_le, beq_eq_false_iff_ne, bne_eq_false_iff_eq, Bool.not_eq_true', Bool.not_eq_false', Int.ofNat_lt, Int.ofNat_le, Int.ofNat_inj, List.length_map, List.length_nil, List.length_cons] at hb) <;> conv => whnf)
    
    )
      · refine sh_s ?_
        have : xs ≠ ys := fun e => hb (by rw [e])
        simp [this]
      · exact head_s (i + 1) ⟨⟨by omega, take_next 0 h2 (by omega) (by omega) hb⟩, by omega⟩ (by rw [wrap64 (by omega) (by omega)]; rfl) rfl
      · refine sh_s ?_
        have : xs = ys := by rw [List.take_of_length_le (by omega), List.take_of_length_le (by omega)] at h2; exact h2
        simp [this]
theorem c47 (xs ys : List Int) : Con Try.prog 47 [roI xs, roI ys] (undefs [roI xs, roI ys]) (.bool (xs == ys)) := by
  refine Con.evF 26 T_ok mix Try.func47 rfl rfl rfl rfl [.tmp 4] rfl fun ⟨hx, _⟩ => ?_
  have hx := facts_roI hx
  conv => whnf
  repeat' (first
    | (refine rq_s (by first | rfl | (simp; done) | (simp; omega) ) ?_; conv => whnf)
    | (refine row_s (by first | (try simp only [Int.toNat_natCast]); exact row_int _ _ _ (by first | omega | (simp; omega)) | rfl) ?_; conv => whnf)
    | (refine rows_s (by first | (refine sub_all ?_; simp; done) | exact sub_map _ _ _ _ | rfl) ?_; conv => whnf)
    | (refine fac_s (fun hf => ?_); conv => whnf)
    | (refine ChkS.mk (by kernel_rfl) ?_; conv => whnf)
    | (refine br_t rfl ?_; conv => whnf)
    | (refine br_f rfl ?_; conv => whnf)
    | (refine br_t (by assumption) ?_; conv => whnf)
    | (refine br_f (by assumption) ?_; conv => whnf)
    | (refine br_s (fun hb => ?_) (fun hb => ?_) <;> (try simp only [beq_iff_eq, bne_iff_ne, ne_eq, decide_eq_true_eq, decide_eq_false_iff_not, Int.not_lt, Int.not_le, beq_eq_false_iff_ne, bne_eq_false_iff_eq, Bool.not_eq_true', Bool.not_eq_false', Int.ofNat_lt, Int.ofNat_le, Int.ofNat_inj, List.length_map, List.length_nil, List.length_cons] at hb) <;> conv => whnf)
    
    )
  · refine sh_s ?_
    have : xs ≠ ys := fun e => hb (by rw [e])
    simp [this]
  · refine LoopG.rounds (α := Nat) T_ok mix [0, 1, 5] [] (fun i => [(0, roI xs), (1, roI ys), (5, .int .i64 i)]) (fun _ => []) (fun i => i ≤ xs.length ∧ xs.take i = ys.take i) (fun i => xs.length - i) ?_ ?_
    · conv => whnf
      exact head_s 0 ⟨by simp, by simp⟩ rfl rfl
    · rintro i ⟨h1, h2⟩ - -
      conv => whnf
      repeat' (first
    | (refine rq_s (by first | rfl | (simp; done) | (simp; omega) ) ?_; conv => whnf)
    | (refine row_s (by first | (try simp only [Int.toNat_natCast]); exact row_int _ _ _ (by first | omega | (simp; omega)) | rfl) ?_; conv => whnf)
    | (refine rows_s (by first | (refine sub_all ?_; simp; done) | exact sub_map _ _ _ _ | rfl) ?_; conv => whnf)
    | (refine fac_s (fun hf => ?_); conv => whnf)
    | (refine ChkS.mk (by kernel_rfl) ?_; conv => whnf)
    | (refine br_t rfl ?_; conv => whnf)
    | (refine br_f rfl ?_; conv => whnf)
    | (refine br_t (by assumption) ?_; conv => whnf)
    | (refine br_f (by assumption) ?_; conv => whnf)
    | (refine br_s (fun hb => ?_) (fun hb => ?_) <;> (try simp only [beq_iff_eq, bne_iff_ne, ne_eq, decide_eq_true_eq, decide_eq_false_iff_not, Int.not_lt, Int.not_le, beq_eq_false_iff_ne, bne_eq_false_iff_eq, Bool.not_eq_true', Bool.not_eq_false', Int.ofNat_lt, Int.ofNat_le, Int.ofNat_inj, List.length_map, List.length_nil, List.length_cons] at hb) <;> conv => whnf)
    
    )
      · refine sh_s ?_
        have : xs ≠ ys := fun e => hb (by rw [e])
        simp [this]
      · exact head_s (i + 1) ⟨⟨by omega, take_next 0 h2 (by omega) (by omega) hb⟩, by omega⟩ (by rw [wrap64 (by omega) (by omega)]; rfl) rfl
      · refine sh_s ?_
        have : xs = ys := by rw [List.take_of_length_le (by omega), List.take_of_length_le (by omega)] at h2; exact h2
        simp [this]
theorem c46 (xs ys : List Int) : Con Try.prog 46 [roI xs, roI ys] (undefs [roI xs, roI ys]) (.bool (xs == ys)) := by
  refine Con.evF 26 T_ok mix Try.func46 rfl rfl rfl rfl [.tmp 4] rfl fun ⟨hx, _⟩ => ?_
  have hx := facts_roI hx
  conv => whnf
  repeat' (first
    | (refine rq_s (by first | rfl | (simp; done) | (simp; omega) ) ?_; conv => whnf)
    | (refine row_s (by first | (try simp only [Int.toNat_natCast]); exact row_int _ _ _ (by first | omega | (simp; omega)) | rfl) ?_; conv => whnf)
    | (refine rows_s (by first | (refine sub_all ?_; simp; done) | exact sub_map _ _ _ _ | rfl) ?_; conv => whnf)
    | (refine fac_s (fun hf => ?_); conv => whnf)
    | (refine ChkS.mk (by kernel_rfl) ?_; conv => whnf)
    | (refine br_t rfl ?_; conv => whnf)
    | (refine br_f rfl ?_; conv => whnf)
    | (refine br_t (by assumption) ?_; conv => whnf)
    | (refine br_f (by assumption) ?_; conv => whnf)
    | (refine br_s (fun hb => ?_) (fun hb => ?_) <;> (try simp only [beq_iff_eq, bne_iff_ne, ne_eq, decide_eq_true_eq, decide_eq_false_iff_not, Int.not_lt, Int.not_le, beq_eq_false_iff_ne, bne_eq_false_iff_eq, Bool.not_eq_true', Bool.not_eq_false', Int.ofNat_lt, Int.ofNat_le, Int.ofNat_inj, List.length_map, List.length_nil, List.length_cons] at hb) <;> conv => whnf)
    
    )
  · refine sh_s ?_
    have : xs ≠ ys := fun e => hb (by rw [e])
    simp [this]
  · refine LoopG.rounds (α := Nat) T_ok mix [0, 1, 12, 13] [] (fun i => [(0, roI xs), (1, roI ys), (12, .int .i64 xs.length), (13, .int .i64 i)]) (fun _ => []) (fun i => i ≤ xs.length ∧ xs.take i = ys.take i) (fun i => xs.length - i) ?_ ?_
    · conv => whnf
      exact head_s 0 ⟨by simp, by simp⟩ (by simp [roI]) rfl
    · rintro i ⟨h1, h2⟩ - -
      conv => whnf
      repeat' (first
    | (refine rq_s (by first | rfl | (simp; done) | (simp; omega) ) ?_; conv => whnf)
    | (refine row_s (by first | (try simp only [Int.toNat_natCast]); exact row_int _ _ _ (by first | omega | (simp; omega)) | rfl) ?_; conv => whnf)
    | (refine rows_s (by first | (refine sub_all ?_; simp; done) | exact sub_map _ _ _ _ | rfl) ?_; conv => whnf)
    | (refine fac_s (fun hf => ?_); conv => whnf)
    | (refine ChkS.mk (by kernel_rfl) ?_; conv => whnf)
    | (refine br_t rfl ?_; conv => whnf)
    | (refine br_f rfl ?_; conv => whnf)
    | (refine br_t (by assumption) ?_; conv => whnf)
    | (refine br_f (by assumption) ?_; conv => whnf)
    | (refine br_s (fun hb => ?_) (fun hb => ?_) <;> (try simp only [beq_iff_eq, bne_iff_ne, ne_eq, decide_eq_true_eq, decide_eq_false_iff_not, Int.not_lt, Int.not_le, beq_eq_false_iff_ne, bne_eq_false_iff_eq, Bool.not_eq_true', Bool.not_eq_false', Int.ofNat_lt, Int.ofNat_le, Int.ofNat_inj, List.length_map, List.length_nil, List.length_cons] at hb) <;> conv => whnf)
    
    )
      · refine sh_s ?_
        have : xs ≠ ys := fun e => hb (by rw [e])
        simp [this]
      · exact head_s (i + 1) ⟨⟨by omega, take_next 0 h2 (by omega) (by omega) hb⟩, by omega⟩ (by rw [wrap64 (by omega) (by omega)]; rfl) rfl
      · refine sh_s ?_
        have : xs = ys := by rw [List.take_of_length_le (by omega), List.take_of_length_le (by omega)] at h2; exact h2
        simp [this]
theorem c45 (xs : List Int) (h : xs.length ≤ 1048576) : Con Try.prog 45 [roI xs] (undefs [roI xs]) (ownI xs) := by
  refine Con.ev 22 T_ok mix Try.func45 rfl rfl rfl rfl [.tmp 2] rfl ?_
  conv => whnf
  repeat' (first
    | (refine rq_s (by first | rfl | (simp; done) | (simp; omega) | ((simp [maxBytes, AV.plain]; omega))) ?_; conv => whnf)
    | (refine row_s (by first | (try simp only [Int.toNat_natCast]); exact row_int _ _ _ (by first | omega | (simp; omega)) | rfl) ?_; conv => whnf)
    | (refine rows_s (by first | (refine sub_all ?_; simp; done) | exact sub_map _ _ _ _ | rfl) ?_; conv => whnf)
    | (refine fac_s (fun hf => ?_); conv => whnf)
    | (refine ChkS.mk (by kernel_rfl) ?_; conv => whnf)
    | (refine br_t rfl ?_; conv => whnf)
    | (refine br_f rfl ?_; conv => whnf)
    | (refine br_t (by assumption) ?_; conv => whnf)
    | (refine br_f (by assumption) ?_; conv => whnf)
    | (refine br_s (fun hb => ?_) (fun hb => ?_) <;> (try simp only [beq_iff_eq, bne_iff_ne, ne_eq, decide_eq_true_eq, decide_eq_false_iff_not, Int.not_lt, Int.not_le, beq_eq_false_iff_ne, bne_eq_false_iff_eq, Bool.not_eq_true', Bool.not_eq_false', Int.ofNat_lt, Int.ofNat_le, Int.ofNat_inj, List.length_map, List.length_nil, List.length_cons] at hb) <;> conv => whnf)
    
    )
  refine LoopG.rounds (α := Nat) T_ok mix [0, 3, 4] [(7, 7)] (fun i => [(0, roI xs), (3, .ref 7 0 xs.length), (4, .int .i64 i)]) (fun i => [(7, .live ⟨true, 0, [.int .i64 0], (cpy xs 0 i).map intR⟩)]) (fun i => i ≤ xs.length) (fun i => xs.length - i) ?_ ?_
  · conv => whnf
    exact head_s 0 (by simp) (by simp [roI]) (by simp [cpy_zero, lvlOf, AV.flat, intR])
  · intro i h1 _ _
    conv => whnf
    repeat' (first
    | (refine rq_s (by first | rfl | (simp; done) | (simp; omega) | ((simp [maxBytes, AV.plain]; omega))) ?_; conv => whnf)
    | (refine row_s (by first | (try simp only [Int.toNat_natCast]); exact row_int _ _ _ (by first | omega | (simp; omega)) | rfl) ?_; conv => whnf)
    | (refine rows_s (by first | (refine sub_all ?_; simp; done) | exact sub_map _ _ _ _ | rfl) ?_; conv => whnf)
    | (refine fac_s (fun hf => ?_); conv => whnf)
    | (refine ChkS.mk (by kernel_rfl) ?_; conv => whnf)
    | (refine br_t rfl ?_; conv => whnf)
    | (refine br_f rfl ?_; conv => whnf)
    | (refine br_t (by assumption) ?_; conv => whnf)
    | (refine br_f (by assumption) ?_; conv => whnf)
    | (refine br_s (fun hb => ?_) (fun hb => ?_) <;> (try simp only [beq_iff_eq, bne_iff_ne, ne_eq, decide_eq_true_eq, decide_eq_false_iff_not, Int.not_lt, Int.not_le, beq_eq_false_iff_ne, bne_eq_false_iff_eq, Bool.not_eq_true', Bool.not_eq_false', Int.ofNat_lt, Int.ofNat_le, Int.ofNat_inj, List.length_map, List.length_nil, List.length_cons] at hb) <;> conv => whnf)
    
    )
    · refine head_s (i + 1) ⟨by omega, by omega⟩ (by rw [wrap64 (by omega) (by omega)]; rfl) ?_
      simp only [Nat.zero_add, Int.toNat_natCast]
      rw [setRow_int _ _ _ _ (by rw [cpy_len _ _ _ h1]; omega), cpy_next _ _ _ hb]
    · obtain rfl : i = xs.length := by omega
      repeat' (first
    | (refine rq_s (by first | rfl | (simp; done) | (simp; omega) ) ?_; conv => whnf)
    | (refine row_s (by first | (try simp only [Int.toNat_natCast]); exact row_int _ _ _ (by first | omega | (simp; omega)) | rfl) ?_; conv => whnf)
    | (refine rows_s (by first | (refine sub_all ?_; simp; done) | exact sub_map _ _ _ _ | rfl) ?_; conv => whnf)
    | (refine fac_s (fun hf => ?_); conv => whnf)
    | (refine ChkS.mk (by kernel_rfl) ?_; conv => whnf)
    | (refine br_t rfl ?_; conv => whnf)
    | (refine br_f rfl ?_; conv => whnf)
    | (refine br_t (by assumption) ?_; conv => whnf)
    | (refine br_f (by assumption) ?_; conv => whnf)
    | (refine br_s (fun hb => ?_) (fun hb => ?_) <;> (try simp only [beq_iff_eq, bne_iff_ne, ne_eq, decide_eq_true_eq, decide_eq_false_iff_not, Int.not_lt, Int.not_le, beq_eq_false_iff_ne, bne_eq_false_iff_eq, Bool.not_eq_true', Bool.not_eq_false', Int.ofNat_lt, Int.ofNat_le, Int.ofNat_inj, List.length_map, List.length_nil, List.length_cons] at hb) <;> conv => whnf)
    
    | (refine sh_s ?_; simp [subA, cpy_all, ownI, List.take_of_length_le]))
def szR (sa : List UInt8) (xs : List Int) (left : Int) : Int :=
  if IntKind.i64.wrap (left - sa.length) < 0 then -1 else if szI xs (IntKind.i64.wrap (left - sa.length)) < 0 then -1 else szI xs (IntKind.i64.wrap (left - sa.length))
def repA (th fu : Int) (sa : List UInt8) (xs : List Int) (co : Bool) : AV := .agg [.int .i64 th, .int .i64 fu, .str sa, roI xs, .bool co]
def repO (th fu : Int) (sa : List UInt8) (xs : List Int) (co : Bool) : AV := .agg [.int .i64 th, .int .i64 fu, .str sa, ownI xs, .bool co]
theorem c12 (th fu : Int) (sa : List UInt8) (xs : List Int) (co : Bool) (left : Int) : Con Try.prog 12 [repA th fu sa xs co, .int .i64 left] (undefs [repA th fu sa xs co, .int .i64 left]) (.int .i64 (szR sa xs left)) := by
  refine Con.ev 19 T_ok mix Try.func12 rfl rfl rfl rfl [.tmp 4] rfl ?_
  conv => whnf
  repeat' (first
    | (refine rq_s (by first | rfl | (simp; done) | (simp; omega) ) ?_; conv => whnf)
    | (refine row_s (by first | (try simp only [Int.toNat_natCast]); exact row_int _ _ _ (by first | omega | (simp; omega)) | rfl) ?_; conv => whnf)
    | (refine rows_s (by first | (refine sub_all ?_; simp; done) | exact sub_map _ _ _ _ | rfl) ?_; conv => whnf)
    | (refine fac_s (fun hf => ?_); conv => whnf)
    | (refine ChkS.mk (by kernel_rfl) ?_; conv => whnf)
    | (refine br_t rfl ?_; conv => whnf)
    | (refine br_f rfl ?_; conv => whnf)
    | (refine br_t (by assumption) ?_; conv => whnf)
    | (refine br_f (by assumption) ?_; conv => whnf)
    | (refine br_s (fun hb => ?_) (fun hb => ?_) <;> (try simp only [beq_iff_eq, bne_iff_ne, ne_eq, decide_eq_true_eq, decide_eq_false_iff_not, Int.not_lt, Int.not_le, beq_eq_false_iff_ne, bne_eq_false_iff_eq, Bool.not_eq_true', Bool.not_eq_false', Int.ofNat_lt, Int.ofNat_le, Int.ofNat_inj, List.length_map, List.length_nil, List.length_cons] at hb) <;> conv => whnf)
    | ((first | refine call_s (c43 ..) ?_); conv => whnf)
    | (refine sh_s ?_; first | (simp_all [szR]; done) | (simp_all [szR]; omega)))
def same (th fu : Int) (sa : List UInt8) (xs : List Int) (co : Bool) (th' fu' : Int) (sa' : List UInt8) (xs' : List Int) (co' : Bool) : Bool :=
  th == th' && fu == fu' && sa == sa' && xs == xs' && co == co'
theorem c13 (th fu : Int) (sa : List UInt8) (xs : List Int) (co : Bool) (th' fu' : Int) (sa' : List UInt8) (xs' : List Int) (co' : Bool) :
    Con Try.prog 13 [repA th fu sa xs co, repA th' fu' sa' xs' co'] (undefs [repA th fu sa xs co, repA th' fu' sa' xs' co']) (.bool (same th fu sa xs co th' fu' sa' xs' co' && decide (xs.length ≤ 32))) := by
  refine Con.ev 44 T_ok mix Try.func13 rfl rfl rfl rfl [.tmp 4] rfl ?_
  conv => whnf
  repeat' (first
    | (refine rq_s (by first | rfl | (simp; done) | (simp; omega) ) ?_; conv => whnf)
    | (refine row_s (by first | (try simp only [Int.toNat_natCast]); exact row_int _ _ _ (by first | omega | (simp; omega)) | rfl) ?_; conv => whnf)
    | (refine rows_s (by first | (refine sub_all ?_; simp; done) | exact sub_map _ _ _ _ | rfl) ?_; conv => whnf)
    | (refine fac_s (fun hf => ?_); conv => whnf)
    | (refine ChkS.mk (by kernel_rfl) ?_; conv => whnf)
    | (refine br_t rfl ?_; conv => whnf)
    | (refine br_f rfl ?_; conv => whnf)
    | (refine br_t (by assumption) ?_; conv => whnf)
    | (refine br_f (by assumption) ?_; conv => whnf)
    | (refine br_s (fun hb => ?_) (fun hb => ?_) <;> (try simp only [beq_iff_eq, bne_iff_ne, ne_eq, decide_eq_true_eq, decide_eq_false_iff_not, Int.not_lt, Int.not_le, beq_eq_false_iff_ne, bne_eq_false_iff_eq, Bool.not_eq_true', Bool.not_eq_false', Int.ofNat_lt, Int.ofNat_le, Int.ofNat_inj, List.length_map, List.length_nil, List.length_cons] at hb) <;> conv => whnf)
    | ((first | refine call_s (c44 ..) ?_); conv => whnf)
    | (refine sh_s ?_; first | (simp_all [same]; done) | (simp_all [same]; omega) | (simp [same]; intros; omega)))
theorem c15 (th fu : Int) (sa : List UInt8) (xs : List Int) (co : Bool) (th' fu' : Int) (sa' : List UInt8) (xs' : List Int) (co' : Bool) :
    Con Try.prog 15 [repA th fu sa xs co, repA th' fu' sa' xs' co'] (undefs [repA th fu sa xs co, repA th' fu' sa' xs' co']) (.bool (same th fu sa xs co th' fu' sa' xs' co' && decide (xs.length ≤ 32))) := by
  refine Con.ev 44 T_ok mix Try.func15 rfl rfl rfl rfl [.tmp 4] rfl ?_
  conv => whnf
  repeat' (first
    | (refine rq_s (by first | rfl | (simp; done) | (simp; omega) ) ?_; conv => whnf)
    | (refine row_s (by first | (try simp only [Int.toNat_natCast]); exact row_int _ _ _ (by first | omega | (simp; omega)) | rfl) ?_; conv => whnf)
    | (refine rows_s (by first | (refine sub_all ?_; simp; done) | exact sub_map _ _ _ _ | rfl) ?_; conv => whnf)
    | (refine fac_s (fun hf => ?_); conv => whnf)
    | (refine ChkS.mk (by kernel_rfl) ?_; conv => whnf)
    | (refine br_t rfl ?_; conv => whnf)
    | (refine br_f rfl ?_; conv => whnf)
    | (refine br_t (by assumption) ?_; conv => whnf)
    | (refine br_f (by assumption) ?_; conv => whnf)
    | (refine br_s (fun hb => ?_) (fun hb => ?_) <;> (try simp only [beq_iff_eq, bne_iff_ne, ne_eq, decide_eq_true_eq, decide_eq_false_iff_not, Int.not_lt, Int.not_le, beq_eq_false_iff_ne, bne_eq_false_iff_eq, Bool.not_eq_true', Bool.not_eq_false', Int.ofNat_lt, Int.ofNat_le, Int.ofNat_inj, List.length_map, List.length_nil, List.length_cons] at hb) <;> conv => whnf)
    | ((first | refine call_s (c46 ..) ?_); conv => whnf)
    | (refine sh_s ?_; first | (simp_all [same]; done) | (simp_all [same]; omega) | (simp [same]; intros; omega)))
theorem c16 (th fu : Int) (sa : List UInt8) (xs : List Int) (co : Bool) (th' fu' : Int) (sa' : List UInt8) (xs' : List Int) (co' : Bool) :
    Con Try.prog 16 [repA th fu sa xs co, repA th' fu' sa' xs' co'] (undefs [repA th fu sa xs co, repA th' fu' sa' xs' co']) (.bool (same th fu sa xs co th' fu' sa' xs' co')) := by
  refine Con.ev 31 T_ok mix Try.func16 rfl rfl rfl rfl [.tmp 4] rfl ?_
  conv => whnf
  repeat' (first
    | (refine rq_s (by first | rfl | (simp; done) | (simp; omega) ) ?_; conv => whnf)
    | (refine row_s (by first | (try simp only [Int.toNat_natCast]); exact row_int _ _ _ (by first | omega | (simp; omega)) | rfl) ?_; conv => whnf)
    | (refine rows_s (by first | (refine sub_all ?_; simp; done) | exact sub_map _ _ _ _ | rfl) ?_; conv => whnf)
    | (refine fac_s (fun hf => ?_); conv => whnf)
    | (refine ChkS.mk (by kernel_rfl) ?_; conv => whnf)
    | (refine br_t rfl ?_; conv => whnf)
    | (refine br_f rfl ?_; conv => whnf)
    | (refine br_t (by assumption) ?_; conv => whnf)
    | (refine br_f (by assumption) ?_; conv => whnf)
    | (refine br_s (fun hb => ?_) (fun hb => ?_) <;> (try simp only [beq_iff_eq, bne_iff_ne, ne_eq, decide_eq_true_eq, decide_eq_false_iff_not, Int.not_lt, Int.not_le, beq_eq_false_iff_ne, bne_eq_false_iff_eq, Bool.not_eq_true', Bool.not_eq_false', Int.ofNat_lt, Int.ofNat_le, Int.ofNat_inj, List.length_map, List.length_nil, List.length_cons] at hb) <;> conv => whnf)
    | ((first | refine call_s (c47 ..) ?_); conv => whnf)
    | (refine sh_s ?_; first | (simp_all [same]; done) | (simp_all [same]; omega) | (simp [same]; intros; omega)))
theorem c14 (th fu : Int) (sa : List UInt8) (xs : List Int) (co : Bool) (h : xs.length ≤ 1048576) : Con Try.prog 14 [repA th fu sa xs co] (undefs [repA th fu sa xs co]) (repO th fu sa xs co) := by
  refine Con.ev 21 T_ok mix Try.func14 rfl rfl rfl rfl [.cell 2 34] rfl ?_
  conv => whnf
  repeat' (first
    | (refine rq_s (by first | rfl | (simp; done) | (simp; omega) ) ?_; conv => whnf)
    | (refine row_s (by first | (try simp only [Int.toNat_natCast]); exact row_int _ _ _ (by first | omega | (simp; omega)) | rfl) ?_; conv => whnf)
    | (refine rows_s (by first | (refine sub_all ?_; simp; done) | exact sub_map _ _ _ _ | rfl) ?_; conv => whnf)
    | (refine fac_s (fun hf => ?_); conv => whnf)
    | (refine ChkS.mk (by kernel_rfl) ?_; conv => whnf)
    | (refine br_t rfl ?_; conv => whnf)
    | (refine br_f rfl ?_; conv => whnf)
    | (refine br_t (by assumption) ?_; conv => whnf)
    | (refine br_f (by assumption) ?_; conv => whnf)
    | (refine br_s (fun hb => ?_) (fun hb => ?_) <;> (try simp only [beq_iff_eq, bne_iff_ne, ne_eq, decide_eq_true_eq, decide_eq_false_iff_not, Int.not_lt, Int.not_le, beq_eq_false_iff_ne, bne_eq_false_iff_eq, Bool.not_eq_true', Bool.not_eq_false', Int.ofNat_lt, Int.ofNat_le, Int.ofNat_inj, List.length_map, List.length_nil, List.length_cons] at hb) <;> conv => whnf)
    | ((first | refine call_s (c45 _ h) ?_); conv => whnf)
    | (refine sh_s ?_; simp [repO, ownI, subA, List.take_of_length_le]))
theorem wr {n : Int} {m : Nat} (h1 : 0 ≤ n) (h2 : n ≤ 1048576) (h3 : m ≤ 9223372036854775807) : IntKind.i64.wrap (n - m) = n - m := wrap64 (by omega) (by omega)
theorem szI_le {xs : List Int} {left : Int} (h1 : 0 ≤ left) (h2 : left ≤ 1048576) (hx : xs.length ≤ 9223372036854775807) (h : 0 ≤ szI xs left) : szI xs left = left - xs.length ∧ xs.length ≤ 1048576 := by
  unfold szI at h ⊢
  rw [wr h1 h2 hx] at h ⊢
  by_cases h3 : left - (xs.length : Int) < 0
  · rw [if_pos h3] at h; omega
  · rw [if_neg h3]; omega
theorem szR_le {sa : List UInt8} {xs : List Int} {left : Int} (h1 : 0 ≤ left) (h2 : left ≤ 1048576) (hs : sa.length ≤ 9223372036854775807) (hx : xs.length ≤ 9223372036854775807) (h : 0 ≤ szR sa xs left) : szR sa xs left ≤ 1048576 ∧ xs.length ≤ 1048576 := by
  unfold szR at h ⊢
  rw [wr h1 h2 hs] at h ⊢
  by_cases h3 : left - (sa.length : Int) < 0
  · rw [if_pos h3] at h; omega
  · rw [if_neg h3] at h ⊢
    by_cases h4 : szI xs (left - sa.length) < 0
    · rw [if_pos h4] at h; omega
    · rw [if_neg h4] at h ⊢
      have := szI_le (by omega) (by omega) hx h
      omega
theorem c4 (th fu : Int) (sa : List UInt8) (xs : List Int) (co : Bool) (th' fu' : Int) (sa' : List UInt8) (xs' : List Int) (co' : Bool) :
    Con Try.prog 4 [repA th fu sa xs co, repA th' fu' sa' xs' co'] (undefs [repA th fu sa xs co, repA th' fu' sa' xs' co']) (.bool true) := by
  refine Con.evF 45 T_ok mix Try.func4 rfl rfl rfl rfl [.tmp 4] rfl fun ⟨h1, h2, _⟩ => ?_
  have hs : sa.length ≤ 9223372036854775807 := h1 1 (.str sa) (by simp)
  have hx := (facts_roI fun d => h1 (d + 1) (roI xs) (by simp)).1
  have hs' : sa'.length ≤ 9223372036854775807 := h2 1 (.str sa') (by simp)
  have hx' := (facts_roI fun d => h2 (d + 1) (roI xs') (by simp)).1
  clear h1 h2
  conv => whnf
  repeat' (first
    | (refine rq_s (by first | rfl | (simp; done) | (simp; omega) ) ?_; conv => whnf)
    | (refine row_s (by first | (try simp only [Int.toNat_natCast]); exact row_int _ _ _ (by first | omega | (simp; omega)) | rfl) ?_; conv => whnf)
    | (refine rows_s (by first | (refine sub_all ?_; simp; done) | exact sub_map _ _ _ _ | rfl) ?_; conv => whnf)
    | (refine fac_s (fun hf => ?_); conv => whnf)
    | (refine ChkS.mk (by kernel_rfl) ?_; conv => whnf)
    | (refine br_t rfl ?_; conv => whnf)
    | (refine br_f rfl ?_; conv => whnf)
    | (refine br_t (by assumption) ?_; conv => whnf)
    | (refine br_f (by assumption) ?_; conv => whnf)
    | (refine br_s (fun hb => ?_) (fun hb => ?_) <;> (try simp only [beq_iff_eq, bne_iff_ne, ne_eq, decide_eq_true_eq, decide_eq_false_iff_not, Int.not_lt, Int.not_le, beq_eq_false_iff_ne, bne_eq_false_iff_eq, Bool.not_eq_true', Bool.not_eq_false', Int.ofNat_lt, Int.ofNat_le, Int.ofNat_inj, List.length_map, List.length_nil, List.length_cons] at hb) <;> conv => whnf)
    | ((first | refine call_s (c12 ..) ?_); conv => whnf)
    | (refine sh_s ?_; rfl))
  have e1 : 0 ≤ szR sa xs 1048576 := by assumption
  have k1 := szR_le (by omega) (by omega) hs hx e1
  have k2 := szR_le e1 k1.1 hs' hx' hb
  have s1 : same th fu sa xs co th fu sa xs co = true := by simp [same]
  have s2 : same th' fu' sa' xs' co' th' fu' sa' xs' co' = true := by simp [same]
  repeat' (first
    | (refine rq_s (by first | rfl | (simp; done) | (simp; omega) ) ?_; conv => whnf)
    | (refine row_s (by first | (try simp only [Int.toNat_natCast]); exact row_int _ _ _ (by first | omega | (simp; omega)) | rfl) ?_; conv => whnf)
    | (refine rows_s (by first | (refine sub_all ?_; simp; done) | exact sub_map _ _ _ _ | rfl) ?_; conv => whnf)
    | (refine fac_s (fun hf => ?_); conv => whnf)
    | (refine ChkS.mk (by kernel_rfl) ?_; conv => whnf)
    | (refine br_t rfl ?_; conv => whnf)
    | (refine br_f rfl ?_; conv => whnf)
    | (refine br_t (by assumption) ?_; conv => whnf)
    | (refine br_f (by assumption) ?_; conv => whnf)
    | (refine br_s (fun hb => ?_) (fun hb => ?_) <;> (try simp only [beq_iff_eq, bne_iff_ne, ne_eq, decide_eq_true_eq, decide_eq_false_iff_not, Int.not_lt, Int.not_le, beq_eq_false_iff_ne, bne_eq_false_iff_eq, Bool.not_eq_true', Bool.not_eq_false', Int.ofNat_lt, Int.ofNat_le, Int.ofNat_inj, List.length_map, List.length_nil, List.length_cons] at hb) <;> conv => whnf)
    | ((first | refine call_s (c14 _ _ _ _ _ k1.2) ?_ | refine call_s (c14 _ _ _ _ _ k2.2) ?_ | refine call_s (c13 ..) ?_ | refine call_s (c15 ..) ?_ | refine call_s (c16 ..) ?_); conv => whnf)
    | (refine sh_s ?_; first | rfl | (simp_all; done)))
theorem rep_of {l : List AV} (h : OfT T 10 31 l) : ∃ th fu sa xs co, l = [.int .i64 th, .int .i64 fu, .str sa, roI xs, .bool co] := by
  obtain ⟨_, _, rfl, ⟨th, rfl⟩, _, _, rfl, ⟨fu, rfl⟩, _, _, rfl, ⟨sa, rfl⟩, _, _, rfl, ⟨rows, rfl, hr⟩, _, _, rfl, ⟨co, rfl⟩, rfl⟩ := h
  obtain ⟨xs, rfl⟩ := rows_map intR hr
  exact ⟨th, fu, sa, xs, co, rfl⟩
end U4
