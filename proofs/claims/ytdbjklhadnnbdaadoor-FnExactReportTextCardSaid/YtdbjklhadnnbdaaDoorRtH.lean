/- Cells, ranges, valid hosts and data, copies of them: contracts. -/
import Derived.Test.YtdbjklhadnnbdaaDoorRtV
import Derived.Test.YtdbjklhadnnbdaaDoorAbsd
set_option linter.unusedVariables false
set_option linter.unusedSimpArgs false
set_option maxRecDepth 100000
open Go Go.Abs Go.Proofs V1
namespace H1

theorem c50 (n lo hi : Int) : Con Tryd.prog 50 [.int .i64 n, .int .i64 lo, .int .i64 hi] (undefs [.int .i64 n, .int .i64 lo, .int .i64 hi]) (.bool (inR n lo hi)) := by
  refine Con.ev 15 T_ok mix Tryd.func50 rfl rfl rfl rfl [.tmp 6] rfl ?_
  conv => whnf
  (refine br_s (fun hb => ?_) (fun hb => ?_) <;> (try simp only [beq_iff_eq, bne_iff_ne, ne_eq, decide_eq_true_eq, decide_eq_false_iff_not, Int.not_lt, Int.not_le, Bool.false_eq_true, if_false, if_true, beq_eq_false_iff_ne, bne_eq_false_iff_eq, Bool.not_eq_true', Bool.not_eq_false', Int.ofNat_lt, Int.ofNat_le, Int.ofNat_inj, List.length_map, List.length_nil, List.length_cons] at hb) <;> conv => whnf)
  iterate 2 (refine br_t rfl ?_; conv => whnf)
  (refine rq_s (by (rfl)) ?_; conv => whnf)
  (focus (refine sh_s ?_; (first | (simp_all [inR]; done) | (simp_all [inR]; omega))))
  iterate 3 (refine br_f rfl ?_; conv => whnf)
  (refine rq_s (by (rfl)) ?_; conv => whnf)
  (focus (refine sh_s ?_; (first | (simp_all [inR]; done) | (simp_all [inR]; omega))))
theorem c44 (n lo hi : Int) : Con Tryd.prog 44 [.int .i64 n, .int .i64 lo, .int .i64 hi] (undefs [.int .i64 n, .int .i64 lo, .int .i64 hi]) (.bool (inR n lo hi)) := by
  refine Con.ev 15 T_ok mix Tryd.func44 rfl rfl rfl rfl [.tmp 6] rfl ?_
  conv => whnf
  (refine br_s (fun hb => ?_) (fun hb => ?_) <;> (try simp only [beq_iff_eq, bne_iff_ne, ne_eq, decide_eq_true_eq, decide_eq_false_iff_not, Int.not_lt, Int.not_le, Bool.false_eq_true, if_false, if_true, beq_eq_false_iff_ne, bne_eq_false_iff_eq, Bool.not_eq_true', Bool.not_eq_false', Int.ofNat_lt, Int.ofNat_le, Int.ofNat_inj, List.length_map, List.length_nil, List.length_cons] at hb) <;> conv => whnf)
  iterate 2 (refine br_t rfl ?_; conv => whnf)
  (refine rq_s (by (rfl)) ?_; conv => whnf)
  (focus (refine sh_s ?_; (first | (simp_all [inR]; done) | (simp_all [inR]; omega))))
  iterate 3 (refine br_f rfl ?_; conv => whnf)
  (refine rq_s (by (rfl)) ?_; conv => whnf)
  (focus (refine sh_s ?_; (first | (simp_all [inR]; done) | (simp_all [inR]; omega))))
theorem c97 (n : Int) : Con Tryd.prog 97 [.int .i64 n] (undefs [.int .i64 n]) (.bool (inR n 0 3)) := by
  refine Con.ev 5 T_ok mix Tryd.func97 rfl rfl rfl rfl [.tmp 2] rfl ?_
  conv => whnf
  iterate 3 (refine rq_s (by (rfl)) ?_; conv => whnf)
  (refine lend_s ?_; conv => whnf)
  (refine call_s (c50 ..) ?_; conv => whnf)
  (refine rq_s (by (rfl)) ?_; conv => whnf)
  (refine sh_s ?_; (rfl))
theorem c43 (n : Int) : Con Tryd.prog 43 [.int .i64 n] (undefs [.int .i64 n]) (.bool (cell n)) := by
  refine Con.ev 5 T_ok mix Tryd.func43 rfl rfl rfl rfl [.tmp 2] rfl ?_
  conv => whnf
  iterate 3 (refine rq_s (by (rfl)) ?_; conv => whnf)
  (refine lend_s ?_; conv => whnf)
  (refine call_s (c44 ..) ?_; conv => whnf)
  (refine rq_s (by (rfl)) ?_; conv => whnf)
  (refine sh_s ?_; (rfl))
theorem c100 (n : Int) : Con Tryd.prog 100 [.int .i64 n] (undefs [.int .i64 n]) (.int .i64 (IntKind.i64.wrap (IntKind.i32.wrap n))) := by
  refine Con.ev 6 T_ok mix Tryd.func100 rfl rfl rfl rfl [.tmp 2] rfl ?_
  conv => whnf
  (refine rq_s (by (rfl)) ?_; conv => whnf)
  (refine sh_s ?_; (rfl))
theorem c48 (n : Int) : Con Tryd.prog 48 [.int .i64 n] (undefs [.int .i64 n]) (.bool (cell n)) := by
  refine Con.evF 7 T_ok mix Tryd.func48 rfl rfl rfl rfl [.tmp 2] rfl fun ⟨h, _⟩ => ?_
  have h := facts_int h
  conv => whnf
  (refine rq_s (by (rfl)) ?_; conv => whnf)
  (refine lend_s ?_; conv => whnf)
  (refine call_s (c100 ..) ?_; conv => whnf)
  (refine fac_s (fun hf => ?_); conv => whnf)
  (refine rq_s (by (rfl)) ?_; conv => whnf)
  (refine sh_s ?_; ((rw [← wrap_cell h.1 h.2])))
theorem c104 (d : Deal) : Con Tryd.prog 104 [dealV d] (undefs [dealV d]) (.bool (dealOK d)) := by
  refine Con.ev 21 T_ok mix Tryd.func104 rfl rfl rfl rfl [.tmp 2] rfl ?_
  conv => whnf
  iterate 5 (refine rq_s (by (rfl)) ?_; conv => whnf)
  (refine lend_s ?_; conv => whnf)
  (refine call_s (c44 ..) ?_; conv => whnf)
  (refine br_s (fun hb => ?_) (fun hb => ?_) <;> (try simp only [beq_iff_eq, bne_iff_ne, ne_eq, decide_eq_true_eq, decide_eq_false_iff_not, Int.not_lt, Int.not_le, Bool.false_eq_true, if_false, if_true, beq_eq_false_iff_ne, bne_eq_false_iff_eq, Bool.not_eq_true', Bool.not_eq_false', Int.ofNat_lt, Int.ofNat_le, Int.ofNat_inj, List.length_map, List.length_nil, List.length_cons] at hb) <;> conv => whnf)
  (refine rq_s (by (rfl)) ?_; conv => whnf)
  iterate 2 (refine br_t rfl ?_; conv => whnf)
  (refine rq_s (by (rfl)) ?_; conv => whnf)
  (refine lend_s ?_; conv => whnf)
  (refine call_s (c43 ..) ?_; conv => whnf)
  (refine br_s (fun hb => ?_) (fun hb => ?_) <;> (try simp only [beq_iff_eq, bne_iff_ne, ne_eq, decide_eq_true_eq, decide_eq_false_iff_not, Int.not_lt, Int.not_le, Bool.false_eq_true, if_false, if_true, beq_eq_false_iff_ne, bne_eq_false_iff_eq, Bool.not_eq_true', Bool.not_eq_false', Int.ofNat_lt, Int.ofNat_le, Int.ofNat_inj, List.length_map, List.length_nil, List.length_cons] at hb) <;> conv => whnf)
  (refine rq_s (by (rfl)) ?_; conv => whnf)
  iterate 2 (refine br_t rfl ?_; conv => whnf)
  (refine rq_s (by (rfl)) ?_; conv => whnf)
  (refine lend_s ?_; conv => whnf)
  (refine call_s (c43 ..) ?_; conv => whnf)
  (refine br_s (fun hb => ?_) (fun hb => ?_) <;> (try simp only [beq_iff_eq, bne_iff_ne, ne_eq, decide_eq_true_eq, decide_eq_false_iff_not, Int.not_lt, Int.not_le, Bool.false_eq_true, if_false, if_true, beq_eq_false_iff_ne, bne_eq_false_iff_eq, Bool.not_eq_true', Bool.not_eq_false', Int.ofNat_lt, Int.ofNat_le, Int.ofNat_inj, List.length_map, List.length_nil, List.length_cons] at hb) <;> conv => whnf)
  (refine rq_s (by (rfl)) ?_; conv => whnf)
  iterate 2 (refine br_t rfl ?_; conv => whnf)
  (refine rq_s (by (rfl)) ?_; conv => whnf)
  (refine lend_s ?_; conv => whnf)
  (refine call_s (c43 ..) ?_; conv => whnf)
  (refine rq_s (by (rfl)) ?_; conv => whnf)
  (focus (refine sh_s ?_; (first | (simp_all [dealOK]; done) | (simp_all [dealOK]; rfl))))
  iterate 3 (refine br_f rfl ?_; conv => whnf)
  (refine rq_s (by (rfl)) ?_; conv => whnf)
  (focus (refine sh_s ?_; (first | (simp_all [dealOK]; done) | (simp_all [dealOK]; rfl))))
  iterate 7 (refine br_f rfl ?_; conv => whnf)
  (refine rq_s (by (rfl)) ?_; conv => whnf)
  (focus (refine sh_s ?_; (first | (simp_all [dealOK]; done) | (simp_all [dealOK]; rfl))))
  iterate 11 (refine br_f rfl ?_; conv => whnf)
  (refine rq_s (by (rfl)) ?_; conv => whnf)
  (focus (refine sh_s ?_; (first | (simp_all [dealOK]; done) | (simp_all [dealOK]; rfl))))
theorem c110 (d : Deal) : Con Tryd.prog 110 [dealV d] (undefs [dealV d]) (.bool (dealOK d)) := by
  refine Con.ev 21 T_ok mix Tryd.func110 rfl rfl rfl rfl [.tmp 2] rfl ?_
  conv => whnf
  iterate 3 (refine rq_s (by (rfl)) ?_; conv => whnf)
  (refine lend_s ?_; conv => whnf)
  (refine call_s (c97 ..) ?_; conv => whnf)
  (refine br_s (fun hb => ?_) (fun hb => ?_) <;> (try simp only [beq_iff_eq, bne_iff_ne, ne_eq, decide_eq_true_eq, decide_eq_false_iff_not, Int.not_lt, Int.not_le, Bool.false_eq_true, if_false, if_true, beq_eq_false_iff_ne, bne_eq_false_iff_eq, Bool.not_eq_true', Bool.not_eq_false', Int.ofNat_lt, Int.ofNat_le, Int.ofNat_inj, List.length_map, List.length_nil, List.length_cons] at hb) <;> conv => whnf)
  (refine rq_s (by (rfl)) ?_; conv => whnf)
  iterate 2 (refine br_t rfl ?_; conv => whnf)
  (refine rq_s (by (rfl)) ?_; conv => whnf)
  (refine lend_s ?_; conv => whnf)
  (refine call_s (c48 ..) ?_; conv => whnf)
  (refine br_s (fun hb => ?_) (fun hb => ?_) <;> (try simp only [beq_iff_eq, bne_iff_ne, ne_eq, decide_eq_true_eq, decide_eq_false_iff_not, Int.not_lt, Int.not_le, Bool.false_eq_true, if_false, if_true, beq_eq_false_iff_ne, bne_eq_false_iff_eq, Bool.not_eq_true', Bool.not_eq_false', Int.ofNat_lt, Int.ofNat_le, Int.ofNat_inj, List.length_map, List.length_nil, List.length_cons] at hb) <;> conv => whnf)
  (refine rq_s (by (rfl)) ?_; conv => whnf)
  iterate 2 (refine br_t rfl ?_; conv => whnf)
  (refine rq_s (by (rfl)) ?_; conv => whnf)
  (refine lend_s ?_; conv => whnf)
  (refine call_s (c48 ..) ?_; conv => whnf)
  (refine br_s (fun hb => ?_) (fun hb => ?_) <;> (try simp only [beq_iff_eq, bne_iff_ne, ne_eq, decide_eq_true_eq, decide_eq_false_iff_not, Int.not_lt, Int.not_le, Bool.false_eq_true, if_false, if_true, beq_eq_false_iff_ne, bne_eq_false_iff_eq, Bool.not_eq_true', Bool.not_eq_false', Int.ofNat_lt, Int.ofNat_le, Int.ofNat_inj, List.length_map, List.length_nil, List.length_cons] at hb) <;> conv => whnf)
  (refine rq_s (by (rfl)) ?_; conv => whnf)
  iterate 2 (refine br_t rfl ?_; conv => whnf)
  (refine rq_s (by (rfl)) ?_; conv => whnf)
  (refine lend_s ?_; conv => whnf)
  (refine call_s (c48 ..) ?_; conv => whnf)
  (refine rq_s (by (rfl)) ?_; conv => whnf)
  (focus (refine sh_s ?_; (first | (simp_all [dealOK]; done) | (simp_all [dealOK]; rfl))))
  iterate 3 (refine br_f rfl ?_; conv => whnf)
  (refine rq_s (by (rfl)) ?_; conv => whnf)
  (focus (refine sh_s ?_; (first | (simp_all [dealOK]; done) | (simp_all [dealOK]; rfl))))
  iterate 7 (refine br_f rfl ?_; conv => whnf)
  (refine rq_s (by (rfl)) ?_; conv => whnf)
  (focus (refine sh_s ?_; (first | (simp_all [dealOK]; done) | (simp_all [dealOK]; rfl))))
  iterate 11 (refine br_f rfl ?_; conv => whnf)
  (refine rq_s (by (rfl)) ?_; conv => whnf)
  (focus (refine sh_s ?_; (first | (simp_all [dealOK]; done) | (simp_all [dealOK]; rfl))))
theorem c109 (d : Deal) : Con Tryd.prog 109 [dealV d] (undefs [dealV d]) (.bool (badDeal d)) := by
  refine Con.ev 6 T_ok mix Tryd.func109 rfl rfl rfl rfl [.tmp 2] rfl ?_
  conv => whnf
  iterate 5 (refine rq_s (by (rfl)) ?_; conv => whnf)
  (refine lend_s ?_; conv => whnf)
  (refine call_s (c110 ..) ?_; conv => whnf)
  (refine rq_s (by (rfl)) ?_; conv => whnf)
  (refine sh_s ?_; (rfl))
theorem c102 (n : Int) : Con Tryd.prog 102 [.int .i64 n] (undefs [.int .i64 n]) (.bool (badCell n)) := by
  refine Con.ev 6 T_ok mix Tryd.func102 rfl rfl rfl rfl [.tmp 2] rfl ?_
  conv => whnf
  (refine rq_s (by (rfl)) ?_; conv => whnf)
  (refine lend_s ?_; conv => whnf)
  (refine call_s (c48 ..) ?_; conv => whnf)
  (refine rq_s (by (rfl)) ?_; conv => whnf)
  (refine sh_s ?_; (rfl))

theorem c150 (rs : List (Deal)) : Con Tryd.prog 150 [roD rs, .fn 109 []] (undefs [roD rs, .fn 109 []]) (.int .i64 (findI badDeal rs)) := by
  refine Con.evF 19 T_ok mix Tryd.func150 rfl rfl rfl rfl [.tmp 4] rfl fun ⟨hx, _⟩ => ?_
  have hx := facts_len hx
  conv => whnf
  rotate_left
  refine LoopG.rounds (α := Nat) T_ok mix [0, 1, 7, 8] [] (fun i => [(0, roD rs), (1, .fn 109 []), (7, .int .i64 rs.length), (8, .int .i64 i)]) (fun _ => []) (fun i => i ≤ rs.length ∧ ∀ j, j < i → badDeal (rs.getD j default) = false) (fun i => rs.length - i) ?_ ?_
  · conv => whnf
    exact head_s 0 ⟨by simp, fun j hj => by omega⟩ (by simp [roD]) rfl
  · rintro i ⟨h1, h2⟩ - -
    conv => whnf
    (refine br_s (fun hb => ?_) (fun hb => ?_) <;> (try simp only [beq_iff_eq, bne_iff_ne, ne_eq, decide_eq_true_eq, decide_eq_false_iff_not, Int.not_lt, Int.not_le, Bool.false_eq_true, if_false, if_true, beq_eq_false_iff_ne, bne_eq_false_iff_eq, Bool.not_eq_true', Bool.not_eq_false', Int.ofNat_lt, Int.ofNat_le, Int.ofNat_inj, List.length_map, List.length_nil, List.length_cons] at hb) <;> conv => whnf)
    (refine rq_s (by (rfl)) ?_; conv => whnf)
    (refine rq_s (by ((refine and_s rfl ?_; simp only [decide_eq_true_eq, List.length_map]; omega))) ?_; conv => whnf)
    (refine row_s (by ((try simp only [Int.toNat_natCast]); exact row_map dealR _ _ _ default (by first | omega | (simp; omega)))) ?_; conv => whnf)
    iterate 4 (refine rq_s (by (rfl)) ?_; conv => whnf)
    (refine lend_s ?_; conv => whnf)
    (refine call_s (c109 ..) ?_; conv => whnf)
    (refine br_s (fun hb => ?_) (fun hb => ?_) <;> (try simp only [beq_iff_eq, bne_iff_ne, ne_eq, decide_eq_true_eq, decide_eq_false_iff_not, Int.not_lt, Int.not_le, Bool.false_eq_true, if_false, if_true, beq_eq_false_iff_ne, bne_eq_false_iff_eq, Bool.not_eq_true', Bool.not_eq_false', Int.ofNat_lt, Int.ofNat_le, Int.ofNat_inj, List.length_map, List.length_nil, List.length_cons] at hb) <;> conv => whnf)
    (refine rq_s (by (rfl)) ?_; conv => whnf)
    iterate 2 (rotate_left)
    (refine rq_s (by (rfl)) ?_; conv => whnf)
    rotate_left
    · refine sh_s ?_
      rw [findI_hit default (by assumption) hb h2]
    · refine head_s (i + 1) ⟨⟨by omega, fun j hj => ?_⟩, by omega⟩ (by rw [wrap64 (by omega) (by omega)]; rfl) rfl
      by_cases hji : j = i
      · subst hji; exact hb
      · exact h2 j (by omega)
    · refine sh_s ?_
      rw [findI_none default fun j hj => h2 j (by omega)]
theorem c108 (rs : List (Deal)) : Con Tryd.prog 108 [roD rs, .fn 109 []] (undefs [roD rs, .fn 109 []]) (.bool (rs.any badDeal)) := by
  refine Con.ev 9 T_ok mix Tryd.func108 rfl rfl rfl rfl [.tmp 4] rfl ?_
  conv => whnf
  iterate 2 (refine rq_s (by (rfl)) ?_; conv => whnf)
  (refine lend_s ?_; conv => whnf)
  (refine rows_s (by (rfl)) ?_; conv => whnf)
  (refine call_s (c150 ..) ?_; conv => whnf)
  (refine fac_s (fun hf => ?_); conv => whnf)
  (refine rq_s (by (rfl)) ?_; conv => whnf)
  (refine sh_s ?_; ((rw [← findI_any])))

theorem c148 (rs : List (Int)) : Con Tryd.prog 148 [roI rs, .fn 102 []] (undefs [roI rs, .fn 102 []]) (.int .i64 (findI badCell rs)) := by
  refine Con.evF 19 T_ok mix Tryd.func148 rfl rfl rfl rfl [.tmp 4] rfl fun ⟨hx, _⟩ => ?_
  have hx := facts_len hx
  conv => whnf
  rotate_left
  refine LoopG.rounds (α := Nat) T_ok mix [0, 1, 7, 8] [] (fun i => [(0, roI rs), (1, .fn 102 []), (7, .int .i64 rs.length), (8, .int .i64 i)]) (fun _ => []) (fun i => i ≤ rs.length ∧ ∀ j, j < i → badCell (rs.getD j default) = false) (fun i => rs.length - i) ?_ ?_
  · conv => whnf
    exact head_s 0 ⟨by simp, fun j hj => by omega⟩ (by simp [roI]) rfl
  · rintro i ⟨h1, h2⟩ - -
    conv => whnf
    (refine br_s (fun hb => ?_) (fun hb => ?_) <;> (try simp only [beq_iff_eq, bne_iff_ne, ne_eq, decide_eq_true_eq, decide_eq_false_iff_not, Int.not_lt, Int.not_le, Bool.false_eq_true, if_false, if_true, beq_eq_false_iff_ne, bne_eq_false_iff_eq, Bool.not_eq_true', Bool.not_eq_false', Int.ofNat_lt, Int.ofNat_le, Int.ofNat_inj, List.length_map, List.length_nil, List.length_cons] at hb) <;> conv => whnf)
    (refine rq_s (by (rfl)) ?_; conv => whnf)
    (refine rq_s (by ((refine and_s rfl ?_; simp only [decide_eq_true_eq, List.length_map]; omega))) ?_; conv => whnf)
    (refine row_s (by ((try simp only [Int.toNat_natCast]); exact row_map intR _ _ _ default (by first | omega | (simp; omega)))) ?_; conv => whnf)
    (refine rq_s (by (rfl)) ?_; conv => whnf)
    (refine lend_s ?_; conv => whnf)
    (refine call_s (c102 ..) ?_; conv => whnf)
    (refine br_s (fun hb => ?_) (fun hb => ?_) <;> (try simp only [beq_iff_eq, bne_iff_ne, ne_eq, decide_eq_true_eq, decide_eq_false_iff_not, Int.not_lt, Int.not_le, Bool.false_eq_true, if_false, if_true, beq_eq_false_iff_ne, bne_eq_false_iff_eq, Bool.not_eq_true', Bool.not_eq_false', Int.ofNat_lt, Int.ofNat_le, Int.ofNat_inj, List.length_map, List.length_nil, List.length_cons] at hb) <;> conv => whnf)
    (refine rq_s (by (rfl)) ?_; conv => whnf)
    iterate 2 (rotate_left)
    (refine rq_s (by (rfl)) ?_; conv => whnf)
    rotate_left
    · refine sh_s ?_
      rw [findI_hit default (by assumption) hb h2]
    · refine head_s (i + 1) ⟨⟨by omega, fun j hj => ?_⟩, by omega⟩ (by rw [wrap64 (by omega) (by omega)]; rfl) rfl
      by_cases hji : j = i
      · subst hji; exact hb
      · exact h2 j (by omega)
    · refine sh_s ?_
      rw [findI_none default fun j hj => h2 j (by omega)]
theorem c101 (rs : List (Int)) : Con Tryd.prog 101 [roI rs, .fn 102 []] (undefs [roI rs, .fn 102 []]) (.bool (rs.any badCell)) := by
  refine Con.ev 9 T_ok mix Tryd.func101 rfl rfl rfl rfl [.tmp 4] rfl ?_
  conv => whnf
  iterate 2 (refine rq_s (by (rfl)) ?_; conv => whnf)
  (refine lend_s ?_; conv => whnf)
  (refine rows_s (by (rfl)) ?_; conv => whnf)
  (refine call_s (c148 ..) ?_; conv => whnf)
  (refine fac_s (fun hf => ?_); conv => whnf)
  (refine rq_s (by (rfl)) ?_; conv => whnf)
  (refine sh_s ?_; ((rw [← findI_any])))
theorem cellsBad (xs : List Int) : Con Tryd.prog 101 [roI xs, .fn 102 []] (undefs [roI xs, .fn 102 []]) (.bool (!cellsOK xs)) := cells_any xs ▸ c101 xs
theorem dealsBad (xs : List Deal) : Con Tryd.prog 108 [roD xs, .fn 109 []] (undefs [roD xs, .fn 109 []]) (.bool (!dealsOK xs)) := deals_any xs ▸ c108 xs
theorem c49 (xs : List Int) (n : Int) : Con Tryd.prog 49 [roI xs, .int .i64 n] (undefs [roI xs, .int .i64 n]) (.bool (decide ((xs.length : Int) ≤ n) && cellsOK xs)) := by
  refine Con.ev 14 T_ok mix Tryd.func49 rfl rfl rfl rfl [.tmp 4] rfl ?_
  conv => whnf
  (refine br_s (fun hb => ?_) (fun hb => ?_) <;> (try simp only [beq_iff_eq, bne_iff_ne, ne_eq, decide_eq_true_eq, decide_eq_false_iff_not, Int.not_lt, Int.not_le, Bool.false_eq_true, if_false, if_true, beq_eq_false_iff_ne, bne_eq_false_iff_eq, Bool.not_eq_true', Bool.not_eq_false', Int.ofNat_lt, Int.ofNat_le, Int.ofNat_inj, List.length_map, List.length_nil, List.length_cons] at hb) <;> conv => whnf)
  (refine br_t rfl ?_; conv => whnf)
  iterate 2 (refine rq_s (by (rfl)) ?_; conv => whnf)
  (refine lend_s ?_; conv => whnf)
  (refine rows_s (by (rfl)) ?_; conv => whnf)
  (refine call_s (cellsBad ..) ?_; conv => whnf)
  (refine br_t rfl ?_; conv => whnf)
  (refine rq_s (by (rfl)) ?_; conv => whnf)
  (focus (refine sh_s ?_; (first | (simp_all; done) | (simp_all; omega))))
  iterate 3 (refine br_f rfl ?_; conv => whnf)
  (refine rq_s (by (rfl)) ?_; conv => whnf)
  (focus (refine sh_s ?_; (first | (simp_all; done) | (simp_all; omega))))
theorem c107 (xs : List Int) : Con Tryd.prog 107 [roI xs] (undefs [roI xs]) (.bool (decide (xs.length = 8) && cellsOK xs)) := by
  refine Con.ev 10 T_ok mix Tryd.func107 rfl rfl rfl rfl [.tmp 2] rfl ?_
  conv => whnf
  (refine br_s (fun hb => ?_) (fun hb => ?_) <;> (try simp only [beq_iff_eq, bne_iff_ne, ne_eq, decide_eq_true_eq, decide_eq_false_iff_not, Int.not_lt, Int.not_le, Bool.false_eq_true, if_false, if_true, beq_eq_false_iff_ne, bne_eq_false_iff_eq, Bool.not_eq_true', Bool.not_eq_false', Int.ofNat_lt, Int.ofNat_le, Int.ofNat_inj, List.length_map, List.length_nil, List.length_cons] at hb) <;> conv => whnf)
  (refine br_t rfl ?_; conv => whnf)
  iterate 2 (refine rq_s (by (rfl)) ?_; conv => whnf)
  (refine lend_s ?_; conv => whnf)
  (refine rows_s (by (rfl)) ?_; conv => whnf)
  (refine call_s (c49 ..) ?_; conv => whnf)
  (refine rq_s (by (rfl)) ?_; conv => whnf)
  (focus (refine sh_s ?_; (first | (simp_all; done) | (simp_all; omega))))
  iterate 2 (refine br_f rfl ?_; conv => whnf)
  (refine rq_s (by (rfl)) ?_; conv => whnf)
  (focus (refine sh_s ?_; (first | (simp_all; done) | (simp_all; omega))))
theorem c45 (xs : List Int) : Con Tryd.prog 45 [roI xs] (undefs [roI xs]) (.bool (cellsOK xs)) := by
  refine Con.evF 16 T_ok mix Tryd.func45 rfl rfl rfl rfl [.tmp 2] rfl fun ⟨hx, _⟩ => ?_
  have hx := facts_len hx
  conv => whnf
  rotate_left
  refine LoopG.rounds (α := Nat) T_ok mix [0, 3] [] (fun i => [(0, roI xs), (3, .int .i64 i)]) (fun _ => []) (fun i => i ≤ xs.length ∧ ∀ j, j < i → cell (xs.getD j default) = true) (fun i => xs.length - i) ?_ ?_
  · conv => whnf
    exact head_s 0 ⟨by simp, fun j hj => by omega⟩ (by first | rfl | simp [roI]) rfl
  · rintro i ⟨h1, h2⟩ - -
    conv => whnf
    (refine br_s (fun hb => ?_) (fun hb => ?_) <;> (try simp only [beq_iff_eq, bne_iff_ne, ne_eq, decide_eq_true_eq, decide_eq_false_iff_not, Int.not_lt, Int.not_le, Bool.false_eq_true, if_false, if_true, beq_eq_false_iff_ne, bne_eq_false_iff_eq, Bool.not_eq_true', Bool.not_eq_false', Int.ofNat_lt, Int.ofNat_le, Int.ofNat_inj, List.length_map, List.length_nil, List.length_cons] at hb) <;> conv => whnf)
    (refine rq_s (by (rfl)) ?_; conv => whnf)
    (refine rq_s (by ((refine and_s rfl ?_; simp only [decide_eq_true_eq, List.length_map]; omega))) ?_; conv => whnf)
    (refine row_s (by ((try simp only [Int.toNat_natCast]); exact row_map intR _ _ _ default (by first | omega | (simp; omega)))) ?_; conv => whnf)
    (refine rq_s (by (rfl)) ?_; conv => whnf)
    (refine lend_s ?_; conv => whnf)
    (refine call_s (c43 ..) ?_; conv => whnf)
    (refine br_s (fun hb => ?_) (fun hb => ?_) <;> (try simp only [beq_iff_eq, bne_iff_ne, ne_eq, decide_eq_true_eq, decide_eq_false_iff_not, Int.not_lt, Int.not_le, Bool.false_eq_true, if_false, if_true, beq_eq_false_iff_ne, bne_eq_false_iff_eq, Bool.not_eq_true', Bool.not_eq_false', Int.ofNat_lt, Int.ofNat_le, Int.ofNat_inj, List.length_map, List.length_nil, List.length_cons] at hb) <;> conv => whnf)
    (refine rq_s (by (rfl)) ?_; conv => whnf)
    iterate 2 (rotate_left)
    (refine rq_s (by (rfl)) ?_; conv => whnf)
    rotate_left
    · exact sh_s (by rw [cellsOK, all_bad (by assumption) hb])
    · refine head_s (i + 1) ⟨⟨by omega, fun j hj => ?_⟩, by omega⟩ (by rw [wrap64 (by omega) (by omega)]; rfl) rfl
      by_cases hji : j = i
      · subst hji; exact hb
      · exact h2 j (by omega)
    · exact sh_s (by rw [cellsOK, all_good fun j hj => h2 j (by omega)])
theorem c59 (h : Hst) : Con Tryd.prog 59 [hstV h] (undefs [hstV h]) (.bool (hostOK h)) := by
  have e : ((h.q.length : Int) ≤ 20) = (h.q.length ≤ 20) := propext ⟨fun _ => by omega, fun _ => by omega⟩
  refine Con.ev 34 T_ok mix Tryd.func59 rfl rfl rfl rfl [.tmp 2] rfl ?_
  conv => whnf
  iterate 2 (refine rq_s (by (rfl)) ?_; conv => whnf)
  (refine br_s (fun hb => ?_) (fun hb => ?_) <;> (try simp only [beq_iff_eq, bne_iff_ne, ne_eq, decide_eq_true_eq, decide_eq_false_iff_not, Int.not_lt, Int.not_le, Bool.false_eq_true, if_false, if_true, beq_eq_false_iff_ne, bne_eq_false_iff_eq, Bool.not_eq_true', Bool.not_eq_false', Int.ofNat_lt, Int.ofNat_le, Int.ofNat_inj, List.length_map, List.length_nil, List.length_cons] at hb) <;> conv => whnf)
  (refine rq_s (by (rfl)) ?_; conv => whnf)
  iterate 2 (refine br_t rfl ?_; conv => whnf)
  (refine rq_s (by (rfl)) ?_; conv => whnf)
  (refine lend_s ?_; conv => whnf)
  (refine rows_s (by (rfl)) ?_; conv => whnf)
  (refine call_s (c107 ..) ?_; conv => whnf)
  (refine br_s (fun hb => ?_) (fun hb => ?_) <;> (try simp only [beq_iff_eq, bne_iff_ne, ne_eq, decide_eq_true_eq, decide_eq_false_iff_not, Int.not_lt, Int.not_le, Bool.false_eq_true, if_false, if_true, beq_eq_false_iff_ne, bne_eq_false_iff_eq, Bool.not_eq_true', Bool.not_eq_false', Int.ofNat_lt, Int.ofNat_le, Int.ofNat_inj, List.length_map, List.length_nil, List.length_cons] at hb) <;> conv => whnf)
  (refine rq_s (by (rfl)) ?_; conv => whnf)
  iterate 2 (refine br_t rfl ?_; conv => whnf)
  iterate 2 (refine rq_s (by (rfl)) ?_; conv => whnf)
  (refine lend_s ?_; conv => whnf)
  (refine rows_s (by (rfl)) ?_; conv => whnf)
  (refine call_s (c49 ..) ?_; conv => whnf)
  (refine br_s (fun hb => ?_) (fun hb => ?_) <;> (try simp only [beq_iff_eq, bne_iff_ne, ne_eq, decide_eq_true_eq, decide_eq_false_iff_not, Int.not_lt, Int.not_le, Bool.false_eq_true, if_false, if_true, beq_eq_false_iff_ne, bne_eq_false_iff_eq, Bool.not_eq_true', Bool.not_eq_false', Int.ofNat_lt, Int.ofNat_le, Int.ofNat_inj, List.length_map, List.length_nil, List.length_cons] at hb) <;> conv => whnf)
  (refine rq_s (by (rfl)) ?_; conv => whnf)
  iterate 2 (refine br_t rfl ?_; conv => whnf)
  iterate 3 (refine rq_s (by (rfl)) ?_; conv => whnf)
  (refine lend_s ?_; conv => whnf)
  (refine call_s (c50 ..) ?_; conv => whnf)
  (refine br_s (fun hb => ?_) (fun hb => ?_) <;> (try simp only [beq_iff_eq, bne_iff_ne, ne_eq, decide_eq_true_eq, decide_eq_false_iff_not, Int.not_lt, Int.not_le, Bool.false_eq_true, if_false, if_true, beq_eq_false_iff_ne, bne_eq_false_iff_eq, Bool.not_eq_true', Bool.not_eq_false', Int.ofNat_lt, Int.ofNat_le, Int.ofNat_inj, List.length_map, List.length_nil, List.length_cons] at hb) <;> conv => whnf)
  (refine rq_s (by (rfl)) ?_; conv => whnf)
  iterate 3 (refine br_t rfl ?_; conv => whnf)
  (refine br_s (fun hb => ?_) (fun hb => ?_) <;> (try simp only [beq_iff_eq, bne_iff_ne, ne_eq, decide_eq_true_eq, decide_eq_false_iff_not, Int.not_lt, Int.not_le, Bool.false_eq_true, if_false, if_true, beq_eq_false_iff_ne, bne_eq_false_iff_eq, Bool.not_eq_true', Bool.not_eq_false', Int.ofNat_lt, Int.ofNat_le, Int.ofNat_inj, List.length_map, List.length_nil, List.length_cons] at hb) <;> conv => whnf)
  (refine rq_s (by (rfl)) ?_; conv => whnf)
  iterate 2 (refine br_t rfl ?_; conv => whnf)
  iterate 2 (refine rq_s (by (rfl)) ?_; conv => whnf)
  (refine lend_s ?_; conv => whnf)
  (refine rows_s (by (rfl)) ?_; conv => whnf)
  (refine call_s (dealsBad ..) ?_; conv => whnf)
  (refine br_t rfl ?_; conv => whnf)
  (refine rq_s (by (rfl)) ?_; conv => whnf)
  (focus (refine sh_s ?_; (first | (simp_all [hostOK]; done) | (simp_all [hostOK]; omega) | (congr 1; rw [Bool.eq_iff_iff]; simp_all [hostOK]; done) | (congr 1; rw [Bool.eq_iff_iff]; simp_all [hostOK]; omega))))
  iterate 4 (refine br_f rfl ?_; conv => whnf)
  (refine rq_s (by (rfl)) ?_; conv => whnf)
  (focus (refine sh_s ?_; (first | (simp_all [hostOK]; done) | (simp_all [hostOK]; omega) | (congr 1; rw [Bool.eq_iff_iff]; simp_all [hostOK]; done) | (congr 1; rw [Bool.eq_iff_iff]; simp_all [hostOK]; omega))))
  iterate 9 (refine br_f rfl ?_; conv => whnf)
  (refine rq_s (by (rfl)) ?_; conv => whnf)
  (focus (refine sh_s ?_; (first | (simp_all [hostOK]; done) | (simp_all [hostOK]; omega) | (congr 1; rw [Bool.eq_iff_iff]; simp_all [hostOK]; done) | (congr 1; rw [Bool.eq_iff_iff]; simp_all [hostOK]; omega))))
  iterate 13 (refine br_f rfl ?_; conv => whnf)
  (refine rq_s (by (rfl)) ?_; conv => whnf)
  (focus (refine sh_s ?_; (first | (simp_all [hostOK]; done) | (simp_all [hostOK]; omega) | (congr 1; rw [Bool.eq_iff_iff]; simp_all [hostOK]; done) | (congr 1; rw [Bool.eq_iff_iff]; simp_all [hostOK]; omega))))
  iterate 17 (refine br_f rfl ?_; conv => whnf)
  (refine rq_s (by (rfl)) ?_; conv => whnf)
  (focus (refine sh_s ?_; (first | (simp_all [hostOK]; done) | (simp_all [hostOK]; omega) | (congr 1; rw [Bool.eq_iff_iff]; simp_all [hostOK]; done) | (congr 1; rw [Bool.eq_iff_iff]; simp_all [hostOK]; omega))))
  iterate 21 (refine br_f rfl ?_; conv => whnf)
  (refine rq_s (by (rfl)) ?_; conv => whnf)
  (focus (refine sh_s ?_; (first | (simp_all [hostOK]; done) | (simp_all [hostOK]; omega) | (congr 1; rw [Bool.eq_iff_iff]; simp_all [hostOK]; done) | (congr 1; rw [Bool.eq_iff_iff]; simp_all [hostOK]; omega))))

theorem c55 (h : Hst) : Con Tryd.prog 55 [hstV h] (undefs [hstV h]) (.bool (hostOK h)) := by
  refine Con.evF 58 T_ok mix Tryd.func55 rfl rfl rfl rfl [.tmp 2] rfl fun ⟨hx, _⟩ => ?_
  have hx := facts_len (fun d => hx (d + 1) (roD h.ds) (by simp [hstR]))
  conv => whnf
  iterate 2 (refine rq_s (by (rfl)) ?_; conv => whnf)
  (refine br_s (fun hb => ?_) (fun hb => ?_) <;> (try simp only [beq_iff_eq, bne_iff_ne, ne_eq, decide_eq_true_eq, decide_eq_false_iff_not, Int.not_lt, Int.not_le, Bool.false_eq_true, if_false, if_true, beq_eq_false_iff_ne, bne_eq_false_iff_eq, Bool.not_eq_true', Bool.not_eq_false', Int.ofNat_lt, Int.ofNat_le, Int.ofNat_inj, List.length_map, List.length_nil, List.length_cons] at hb) <;> conv => whnf)
  iterate 30 (refine br_t rfl ?_; conv => whnf)
  (refine rq_s (by (rfl)) ?_; conv => whnf)
  (focus (refine sh_s ?_; (first | (simp_all [hostOK]; done) | (simp_all [hostOK]; omega))))
  (refine rq_s (by (rfl)) ?_; conv => whnf)
  iterate 3 (refine br_f rfl ?_; conv => whnf)
  (refine br_s (fun hb => ?_) (fun hb => ?_) <;> (try simp only [beq_iff_eq, bne_iff_ne, ne_eq, decide_eq_true_eq, decide_eq_false_iff_not, Int.not_lt, Int.not_le, Bool.false_eq_true, if_false, if_true, beq_eq_false_iff_ne, bne_eq_false_iff_eq, Bool.not_eq_true', Bool.not_eq_false', Int.ofNat_lt, Int.ofNat_le, Int.ofNat_inj, List.length_map, List.length_nil, List.length_cons] at hb) <;> conv => whnf)
  iterate 25 (refine br_t rfl ?_; conv => whnf)
  (refine rq_s (by (rfl)) ?_; conv => whnf)
  (focus (refine sh_s ?_; (first | (simp_all [hostOK]; done) | (simp_all [hostOK]; omega))))
  (refine rq_s (by (rfl)) ?_; conv => whnf)
  iterate 3 (refine br_f rfl ?_; conv => whnf)
  (refine br_s (fun hb => ?_) (fun hb => ?_) <;> (try simp only [beq_iff_eq, bne_iff_ne, ne_eq, decide_eq_true_eq, decide_eq_false_iff_not, Int.not_lt, Int.not_le, Bool.false_eq_true, if_false, if_true, beq_eq_false_iff_ne, bne_eq_false_iff_eq, Bool.not_eq_true', Bool.not_eq_false', Int.ofNat_lt, Int.ofNat_le, Int.ofNat_inj, List.length_map, List.length_nil, List.length_cons] at hb) <;> conv => whnf)
  iterate 20 (refine br_t rfl ?_; conv => whnf)
  (refine rq_s (by (rfl)) ?_; conv => whnf)
  (focus (refine sh_s ?_; (first | (simp_all [hostOK]; done) | (simp_all [hostOK]; omega))))
  (refine rq_s (by (rfl)) ?_; conv => whnf)
  iterate 3 (refine br_f rfl ?_; conv => whnf)
  (refine br_s (fun hb => ?_) (fun hb => ?_) <;> (try simp only [beq_iff_eq, bne_iff_ne, ne_eq, decide_eq_true_eq, decide_eq_false_iff_not, Int.not_lt, Int.not_le, Bool.false_eq_true, if_false, if_true, beq_eq_false_iff_ne, bne_eq_false_iff_eq, Bool.not_eq_true', Bool.not_eq_false', Int.ofNat_lt, Int.ofNat_le, Int.ofNat_inj, List.length_map, List.length_nil, List.length_cons] at hb) <;> conv => whnf)
  iterate 15 (refine br_t rfl ?_; conv => whnf)
  (refine rq_s (by (rfl)) ?_; conv => whnf)
  (focus (refine sh_s ?_; (first | (simp_all [hostOK]; done) | (simp_all [hostOK]; omega))))
  (refine rq_s (by (rfl)) ?_; conv => whnf)
  iterate 2 (refine br_f rfl ?_; conv => whnf)
  (refine rq_s (by (rfl)) ?_; conv => whnf)
  (refine lend_s ?_; conv => whnf)
  (refine rows_s (by (rfl)) ?_; conv => whnf)
  (refine call_s (c45 ..) ?_; conv => whnf)
  (refine br_f rfl ?_; conv => whnf)
  (refine br_s (fun hb => ?_) (fun hb => ?_) <;> (try simp only [beq_iff_eq, bne_iff_ne, ne_eq, decide_eq_true_eq, decide_eq_false_iff_not, Int.not_lt, Int.not_le, Bool.false_eq_true, if_false, if_true, beq_eq_false_iff_ne, bne_eq_false_iff_eq, Bool.not_eq_true', Bool.not_eq_false', Int.ofNat_lt, Int.ofNat_le, Int.ofNat_inj, List.length_map, List.length_nil, List.length_cons] at hb) <;> conv => whnf)
  iterate 10 (refine br_t rfl ?_; conv => whnf)
  (refine rq_s (by (rfl)) ?_; conv => whnf)
  (focus (refine sh_s ?_; (first | (simp_all [hostOK]; done) | (simp_all [hostOK]; omega))))
  (refine rq_s (by (rfl)) ?_; conv => whnf)
  iterate 2 (refine br_f rfl ?_; conv => whnf)
  (refine rq_s (by (rfl)) ?_; conv => whnf)
  (refine lend_s ?_; conv => whnf)
  (refine rows_s (by (rfl)) ?_; conv => whnf)
  (refine call_s (c45 ..) ?_; conv => whnf)
  (refine br_f rfl ?_; conv => whnf)
  (refine br_s (fun hb => ?_) (fun hb => ?_) <;> (try simp only [beq_iff_eq, bne_iff_ne, ne_eq, decide_eq_true_eq, decide_eq_false_iff_not, Int.not_lt, Int.not_le, Bool.false_eq_true, if_false, if_true, beq_eq_false_iff_ne, bne_eq_false_iff_eq, Bool.not_eq_true', Bool.not_eq_false', Int.ofNat_lt, Int.ofNat_le, Int.ofNat_inj, List.length_map, List.length_nil, List.length_cons] at hb) <;> conv => whnf)
  iterate 5 (refine br_t rfl ?_; conv => whnf)
  (refine rq_s (by (rfl)) ?_; conv => whnf)
  (focus (refine sh_s ?_; (first | (simp_all [hostOK]; done) | (simp_all [hostOK]; omega))))
  (refine rq_s (by (rfl)) ?_; conv => whnf)
  iterate 2 (refine br_f rfl ?_; conv => whnf)
  iterate 3 (refine rq_s (by (rfl)) ?_; conv => whnf)
  (refine lend_s ?_; conv => whnf)
  (refine call_s (c44 ..) ?_; conv => whnf)
  (refine br_f rfl ?_; conv => whnf)
  (refine br_s (fun hb => ?_) (fun hb => ?_) <;> (try simp only [beq_iff_eq, bne_iff_ne, ne_eq, decide_eq_true_eq, decide_eq_false_iff_not, Int.not_lt, Int.not_le, Bool.false_eq_true, if_false, if_true, beq_eq_false_iff_ne, bne_eq_false_iff_eq, Bool.not_eq_true', Bool.not_eq_false', Int.ofNat_lt, Int.ofNat_le, Int.ofNat_inj, List.length_map, List.length_nil, List.length_cons] at hb) <;> conv => whnf)
  (refine rq_s (by (rfl)) ?_; conv => whnf)
  (focus (refine sh_s ?_; (first | (simp_all [hostOK]; done) | (simp_all [hostOK]; omega))))
  rotate_left
  have g1 : h.gr.length = 4 := by omega
  have g2 : h.st.length = 8 := by omega
  have g3 : h.q.length ≤ 20 := by omega
  have g4 : h.ds.length ≤ 40 := by omega
  have g5 : cellsOK h.st = true := by assumption
  have g6 : cellsOK h.q = true := by assumption
  have g7 : inR h.tk 0 2147483647 = true := hb
  have fin : hostOK h = dealsOK h.ds := by simp [hostOK, g1, g2, g3, g4, g5, g6, g7]
  rw [fin]
  refine LoopG.rounds (α := Nat) T_ok mix [3, 1] [(1, 1)] (fun i => [(3, .int .i64 i), (1, .ptr 1 0 0)]) (fun _ => [(1, .live ⟨false, 0, [roB h.gr, roI h.st, roI h.q, .int .i64 h.tk, roD h.ds], [[roB h.gr, roI h.st, roI h.q, .int .i64 h.tk, roD h.ds]]⟩)]) (fun i => i ≤ h.ds.length ∧ ∀ j, j < i → dealOK (h.ds.getD j default) = true) (fun i => h.ds.length - i) ?_ ?_
  · conv => whnf
    exact head_s 0 ⟨by simp, fun j hj => by omega⟩ rfl rfl
  · rintro i ⟨h1, h2⟩ - -
    conv => whnf
    (refine rq_s (by (rfl)) ?_; conv => whnf)
    (refine br_s (fun hb => ?_) (fun hb => ?_) <;> (try simp only [beq_iff_eq, bne_iff_ne, ne_eq, decide_eq_true_eq, decide_eq_false_iff_not, Int.not_lt, Int.not_le, Bool.false_eq_true, if_false, if_true, beq_eq_false_iff_ne, bne_eq_false_iff_eq, Bool.not_eq_true', Bool.not_eq_false', Int.ofNat_lt, Int.ofNat_le, Int.ofNat_inj, List.length_map, List.length_nil, List.length_cons] at hb) <;> conv => whnf)
    iterate 2 (refine rq_s (by (rfl)) ?_; conv => whnf)
    (refine rq_s (by ((refine and_s rfl ?_; simp only [decide_eq_true_eq, List.length_map]; omega))) ?_; conv => whnf)
    (refine row_s (by ((try simp only [Int.toNat_natCast]); exact row_map dealR _ _ _ default (by first | omega | (simp; omega)))) ?_; conv => whnf)
    iterate 4 (refine rq_s (by (rfl)) ?_; conv => whnf)
    (refine lend_s ?_; conv => whnf)
    (refine call_s (c104 ..) ?_; conv => whnf)
    (refine br_s (fun hb => ?_) (fun hb => ?_) <;> (try simp only [beq_iff_eq, bne_iff_ne, ne_eq, decide_eq_true_eq, decide_eq_false_iff_not, Int.not_lt, Int.not_le, Bool.false_eq_true, if_false, if_true, beq_eq_false_iff_ne, bne_eq_false_iff_eq, Bool.not_eq_true', Bool.not_eq_false', Int.ofNat_lt, Int.ofNat_le, Int.ofNat_inj, List.length_map, List.length_nil, List.length_cons] at hb) <;> conv => whnf)
    (refine rq_s (by (rfl)) ?_; conv => whnf)
    iterate 2 (rotate_left)
    (refine rq_s (by (rfl)) ?_; conv => whnf)
    rotate_left
    · exact sh_s (by rw [dealsOK, all_bad (by assumption) hb])
    · refine head_s (i + 1) ⟨⟨by omega, fun j hj => ?_⟩, by omega⟩ (by rw [wrap64 (by omega) (by omega)]; rfl) rfl
      by_cases hji : j = i
      · subst hji; exact hb
      · exact h2 j (by omega)
    · exact sh_s (by rw [dealsOK, all_good fun j hj => h2 j (by omega)])
end H1
