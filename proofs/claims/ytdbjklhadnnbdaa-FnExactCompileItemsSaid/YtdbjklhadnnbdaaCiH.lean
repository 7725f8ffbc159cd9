/- Cells, ranges, valid hosts and data, copies of them: contracts. -/
import Derived.Test.YtdbjklhadnnbdaaCiV
import Derived.Test.YtdbjklhadnnbdaaAbsd
set_option linter.unusedVariables false
set_option linter.unusedSimpArgs false
set_option maxRecDepth 100000
open Go Go.Abs Go.Proofs V1
namespace H1

theorem c68 (n lo hi : Int) : Con Try.prog 68 [.int .i64 n, .int .i64 lo, .int .i64 hi] (undefs [.int .i64 n, .int .i64 lo, .int .i64 hi]) (.bool (inR n lo hi)) := by
  refine Con.ev 15 T_ok mix Try.func68 rfl rfl rfl rfl [.tmp 6] rfl ?_
  conv => whnf
  (refine br_s (fun hb => ?_) (fun hb => ?_) <;> (try simp only [beq_iff_eq, bne_iff_ne, ne_eq, decide_eq_true_eq, decide_eq_false_iff_not, Int.not_lt, Int.not_le, Bool.false_eq_true, if_false, if_true, beq_eq_false_iff_ne, bne_eq_false_iff_eq, Bool.not_eq_true', Bool.not_eq_false', Int.ofNat_lt, Int.ofNat_le, Int.ofNat_inj, List.length_map, List.length_nil, List.length_cons] at hb) <;> conv => whnf)
  iterate 2 (refine br_t rfl ?_; conv => whnf)
  (refine rq_s (by (rfl)) ?_; conv => whnf)
  (focus (refine sh_s ?_; (first | (simp_all [inR]; done) | (simp_all [inR]; omega))))
  iterate 3 (refine br_f rfl ?_; conv => whnf)
  (refine rq_s (by (rfl)) ?_; conv => whnf)
  (focus (refine sh_s ?_; (first | (simp_all [inR]; done) | (simp_all [inR]; omega))))
theorem c54 (n lo hi : Int) : Con Try.prog 54 [.int .i64 n, .int .i64 lo, .int .i64 hi] (undefs [.int .i64 n, .int .i64 lo, .int .i64 hi]) (.bool (inR n lo hi)) := by
  refine Con.ev 15 T_ok mix Try.func54 rfl rfl rfl rfl [.tmp 6] rfl ?_
  conv => whnf
  (refine br_s (fun hb => ?_) (fun hb => ?_) <;> (try simp only [beq_iff_eq, bne_iff_ne, ne_eq, decide_eq_true_eq, decide_eq_false_iff_not, Int.not_lt, Int.not_le, Bool.false_eq_true, if_false, if_true, beq_eq_false_iff_ne, bne_eq_false_iff_eq, Bool.not_eq_true', Bool.not_eq_false', Int.ofNat_lt, Int.ofNat_le, Int.ofNat_inj, List.length_map, List.length_nil, List.length_cons] at hb) <;> conv => whnf)
  iterate 2 (refine br_t rfl ?_; conv => whnf)
  (refine rq_s (by (rfl)) ?_; conv => whnf)
  (focus (refine sh_s ?_; (first | (simp_all [inR]; done) | (simp_all [inR]; omega))))
  iterate 3 (refine br_f rfl ?_; conv => whnf)
  (refine rq_s (by (rfl)) ?_; conv => whnf)
  (focus (refine sh_s ?_; (first | (simp_all [inR]; done) | (simp_all [inR]; omega))))
theorem c50 (n : Int) : Con Try.prog 50 [.int .i64 n] (undefs [.int .i64 n]) (.bool (inR n 0 3)) := by
  refine Con.ev 5 T_ok mix Try.func50 rfl rfl rfl rfl [.tmp 2] rfl ?_
  conv => whnf
  iterate 3 (refine rq_s (by (rfl)) ?_; conv => whnf)
  (refine lend_s ?_; conv => whnf)
  (refine call_s (c68 ..) ?_; conv => whnf)
  (refine rq_s (by (rfl)) ?_; conv => whnf)
  (refine sh_s ?_; (rfl))
theorem c101 (n : Int) : Con Try.prog 101 [.int .i64 n] (undefs [.int .i64 n]) (.bool (inR n 2 16)) := by
  refine Con.ev 5 T_ok mix Try.func101 rfl rfl rfl rfl [.tmp 2] rfl ?_
  conv => whnf
  iterate 3 (refine rq_s (by (rfl)) ?_; conv => whnf)
  (refine lend_s ?_; conv => whnf)
  (refine call_s (c68 ..) ?_; conv => whnf)
  (refine rq_s (by (rfl)) ?_; conv => whnf)
  (refine sh_s ?_; (rfl))
theorem c106 (n : Int) : Con Try.prog 106 [.int .i64 n] (undefs [.int .i64 n]) (.bool (inR n 2 16)) := by
  refine Con.ev 5 T_ok mix Try.func106 rfl rfl rfl rfl [.tmp 2] rfl ?_
  conv => whnf
  iterate 3 (refine rq_s (by (rfl)) ?_; conv => whnf)
  (refine lend_s ?_; conv => whnf)
  (refine call_s (c54 ..) ?_; conv => whnf)
  (refine rq_s (by (rfl)) ?_; conv => whnf)
  (refine sh_s ?_; (rfl))
theorem c142 (n : Int) : Con Try.prog 142 [.int .i64 n] (undefs [.int .i64 n]) (.bool (cell n)) := by
  refine Con.ev 5 T_ok mix Try.func142 rfl rfl rfl rfl [.tmp 2] rfl ?_
  conv => whnf
  iterate 3 (refine rq_s (by (rfl)) ?_; conv => whnf)
  (refine lend_s ?_; conv => whnf)
  (refine call_s (c54 ..) ?_; conv => whnf)
  (refine rq_s (by (rfl)) ?_; conv => whnf)
  (refine sh_s ?_; (rfl))
theorem c118 (n : Int) : Con Try.prog 118 [.int .i64 n] (undefs [.int .i64 n]) (.int .i64 (IntKind.i64.wrap (IntKind.i32.wrap n))) := by
  refine Con.ev 6 T_ok mix Try.func118 rfl rfl rfl rfl [.tmp 2] rfl ?_
  conv => whnf
  (refine rq_s (by (rfl)) ?_; conv => whnf)
  (refine sh_s ?_; (rfl))
theorem c62 (n : Int) : Con Try.prog 62 [.int .i64 n] (undefs [.int .i64 n]) (.bool (cell n)) := by
  refine Con.evF 7 T_ok mix Try.func62 rfl rfl rfl rfl [.tmp 2] rfl fun ⟨h, _⟩ => ?_
  have h := facts_int h
  conv => whnf
  (refine rq_s (by (rfl)) ?_; conv => whnf)
  (refine lend_s ?_; conv => whnf)
  (refine call_s (c118 ..) ?_; conv => whnf)
  (refine fac_s (fun hf => ?_); conv => whnf)
  (refine rq_s (by (rfl)) ?_; conv => whnf)
  (refine sh_s ?_; ((rw [← wrap_cell h.1 h.2])))
theorem c105 (d : Deal) : Con Try.prog 105 [dealV d] (undefs [dealV d]) (.bool (dealOK d)) := by
  refine Con.ev 21 T_ok mix Try.func105 rfl rfl rfl rfl [.tmp 2] rfl ?_
  conv => whnf
  iterate 5 (refine rq_s (by (rfl)) ?_; conv => whnf)
  (refine lend_s ?_; conv => whnf)
  (refine call_s (c54 ..) ?_; conv => whnf)
  (refine br_s (fun hb => ?_) (fun hb => ?_) <;> (try simp only [beq_iff_eq, bne_iff_ne, ne_eq, decide_eq_true_eq, decide_eq_false_iff_not, Int.not_lt, Int.not_le, Bool.false_eq_true, if_false, if_true, beq_eq_false_iff_ne, bne_eq_false_iff_eq, Bool.not_eq_true', Bool.not_eq_false', Int.ofNat_lt, Int.ofNat_le, Int.ofNat_inj, List.length_map, List.length_nil, List.length_cons] at hb) <;> conv => whnf)
  (refine rq_s (by (rfl)) ?_; conv => whnf)
  iterate 2 (refine br_t rfl ?_; conv => whnf)
  (refine rq_s (by (rfl)) ?_; conv => whnf)
  (refine lend_s ?_; conv => whnf)
  (refine call_s (c142 ..) ?_; conv => whnf)
  (refine br_s (fun hb => ?_) (fun hb => ?_) <;> (try simp only [beq_iff_eq, bne_iff_ne, ne_eq, decide_eq_true_eq, decide_eq_false_iff_not, Int.not_lt, Int.not_le, Bool.false_eq_true, if_false, if_true, beq_eq_false_iff_ne, bne_eq_false_iff_eq, Bool.not_eq_true', Bool.not_eq_false', Int.ofNat_lt, Int.ofNat_le, Int.ofNat_inj, List.length_map, List.length_nil, List.length_cons] at hb) <;> conv => whnf)
  (refine rq_s (by (rfl)) ?_; conv => whnf)
  iterate 2 (refine br_t rfl ?_; conv => whnf)
  (refine rq_s (by (rfl)) ?_; conv => whnf)
  (refine lend_s ?_; conv => whnf)
  (refine call_s (c142 ..) ?_; conv => whnf)
  (refine br_s (fun hb => ?_) (fun hb => ?_) <;> (try simp only [beq_iff_eq, bne_iff_ne, ne_eq, decide_eq_true_eq, decide_eq_false_iff_not, Int.not_lt, Int.not_le, Bool.false_eq_true, if_false, if_true, beq_eq_false_iff_ne, bne_eq_false_iff_eq, Bool.not_eq_true', Bool.not_eq_false', Int.ofNat_lt, Int.ofNat_le, Int.ofNat_inj, List.length_map, List.length_nil, List.length_cons] at hb) <;> conv => whnf)
  (refine rq_s (by (rfl)) ?_; conv => whnf)
  iterate 2 (refine br_t rfl ?_; conv => whnf)
  (refine rq_s (by (rfl)) ?_; conv => whnf)
  (refine lend_s ?_; conv => whnf)
  (refine call_s (c142 ..) ?_; conv => whnf)
  (refine rq_s (by (rfl)) ?_; conv => whnf)
  (focus (refine sh_s ?_; (first | (simp_all [dealOK]; done) | (simp_all [dealOK]; rfl))))
  iterate 3 (refine br_f rfl ?_; conv => whnf)
  (refine rq_s (by (rfl)) ?_; conv => whnf)
  (focus (refine sh_s ?_; (first | (simp_all [dealOK]; done) | (simp_all [dealOK]; rfl))))
  iterate 7 (refine br_f rfl ?_; conv => whnf)
  (refine rq_s (by (rfl)) ?_; conv => whnf)
  (focus (refine sh_s ?_; (first | (simp_all [dealOK]; done) | (simp_all [dealOK]; rfl))))
  iterate 11 (refine br_f rfl ?_; conv => whnf)
  (refine rq_s (by (rfl)) ?_; conv => whnf)
  (focus (refine sh_s ?_; (first | (simp_all [dealOK]; done) | (simp_all [dealOK]; rfl))))
theorem c100 (d : Deal) : Con Try.prog 100 [dealV d] (undefs [dealV d]) (.bool (dealOK d)) := by
  refine Con.ev 21 T_ok mix Try.func100 rfl rfl rfl rfl [.tmp 2] rfl ?_
  conv => whnf
  iterate 3 (refine rq_s (by (rfl)) ?_; conv => whnf)
  (refine lend_s ?_; conv => whnf)
  (refine call_s (c50 ..) ?_; conv => whnf)
  (refine br_s (fun hb => ?_) (fun hb => ?_) <;> (try simp only [beq_iff_eq, bne_iff_ne, ne_eq, decide_eq_true_eq, decide_eq_false_iff_not, Int.not_lt, Int.not_le, Bool.false_eq_true, if_false, if_true, beq_eq_false_iff_ne, bne_eq_false_iff_eq, Bool.not_eq_true', Bool.not_eq_false', Int.ofNat_lt, Int.ofNat_le, Int.ofNat_inj, List.length_map, List.length_nil, List.length_cons] at hb) <;> conv => whnf)
  (refine rq_s (by (rfl)) ?_; conv => whnf)
  iterate 2 (refine br_t rfl ?_; conv => whnf)
  (refine rq_s (by (rfl)) ?_; conv => whnf)
  (refine lend_s ?_; conv => whnf)
  (refine call_s (c62 ..) ?_; conv => whnf)
  (refine br_s (fun hb => ?_) (fun hb => ?_) <;> (try simp only [beq_iff_eq, bne_iff_ne, ne_eq, decide_eq_true_eq, decide_eq_false_iff_not, Int.not_lt, Int.not_le, Bool.false_eq_true, if_false, if_true, beq_eq_false_iff_ne, bne_eq_false_iff_eq, Bool.not_eq_true', Bool.not_eq_false', Int.ofNat_lt, Int.ofNat_le, Int.ofNat_inj, List.length_map, List.length_nil, List.length_cons] at hb) <;> conv => whnf)
  (refine rq_s (by (rfl)) ?_; conv => whnf)
  iterate 2 (refine br_t rfl ?_; conv => whnf)
  (refine rq_s (by (rfl)) ?_; conv => whnf)
  (refine lend_s ?_; conv => whnf)
  (refine call_s (c62 ..) ?_; conv => whnf)
  (refine br_s (fun hb => ?_) (fun hb => ?_) <;> (try simp only [beq_iff_eq, bne_iff_ne, ne_eq, decide_eq_true_eq, decide_eq_false_iff_not, Int.not_lt, Int.not_le, Bool.false_eq_true, if_false, if_true, beq_eq_false_iff_ne, bne_eq_false_iff_eq, Bool.not_eq_true', Bool.not_eq_false', Int.ofNat_lt, Int.ofNat_le, Int.ofNat_inj, List.length_map, List.length_nil, List.length_cons] at hb) <;> conv => whnf)
  (refine rq_s (by (rfl)) ?_; conv => whnf)
  iterate 2 (refine br_t rfl ?_; conv => whnf)
  (refine rq_s (by (rfl)) ?_; conv => whnf)
  (refine lend_s ?_; conv => whnf)
  (refine call_s (c62 ..) ?_; conv => whnf)
  (refine rq_s (by (rfl)) ?_; conv => whnf)
  (focus (refine sh_s ?_; (first | (simp_all [dealOK]; done) | (simp_all [dealOK]; rfl))))
  iterate 3 (refine br_f rfl ?_; conv => whnf)
  (refine rq_s (by (rfl)) ?_; conv => whnf)
  (focus (refine sh_s ?_; (first | (simp_all [dealOK]; done) | (simp_all [dealOK]; rfl))))
  iterate 7 (refine br_f rfl ?_; conv => whnf)
  (refine rq_s (by (rfl)) ?_; conv => whnf)
  (focus (refine sh_s ?_; (first | (simp_all [dealOK]; done) | (simp_all [dealOK]; rfl))))
  iterate 11 (refine br_f rfl ?_; conv => whnf)
  (refine rq_s (by (rfl)) ?_; conv => whnf)
  (focus (refine sh_s ?_; (first | (simp_all [dealOK]; done) | (simp_all [dealOK]; rfl))))
theorem c99 (d : Deal) : Con Try.prog 99 [dealV d] (undefs [dealV d]) (.bool (badDeal d)) := by
  refine Con.ev 6 T_ok mix Try.func99 rfl rfl rfl rfl [.tmp 2] rfl ?_
  conv => whnf
  iterate 5 (refine rq_s (by (rfl)) ?_; conv => whnf)
  (refine lend_s ?_; conv => whnf)
  (refine call_s (c100 ..) ?_; conv => whnf)
  (refine rq_s (by (rfl)) ?_; conv => whnf)
  (refine sh_s ?_; (rfl))
theorem c138 (n : Int) : Con Try.prog 138 [.int .i64 n] (undefs [.int .i64 n]) (.bool (badCell n)) := by
  refine Con.ev 6 T_ok mix Try.func138 rfl rfl rfl rfl [.tmp 2] rfl ?_
  conv => whnf
  (refine rq_s (by (rfl)) ?_; conv => whnf)
  (refine lend_s ?_; conv => whnf)
  (refine call_s (c62 ..) ?_; conv => whnf)
  (refine rq_s (by (rfl)) ?_; conv => whnf)
  (refine sh_s ?_; (rfl))

theorem c139 (rs : List (Deal)) : Con Try.prog 139 [roD rs, .fn 99 []] (undefs [roD rs, .fn 99 []]) (.int .i64 (findI badDeal rs)) := by
  refine Con.evF 19 T_ok mix Try.func139 rfl rfl rfl rfl [.tmp 4] rfl fun ⟨hx, _⟩ => ?_
  have hx := facts_len hx
  conv => whnf
  rotate_left
  refine LoopG.rounds (α := Nat) T_ok mix [0, 1, 7, 8] [] (fun i => [(0, roD rs), (1, .fn 99 []), (7, .int .i64 rs.length), (8, .int .i64 i)]) (fun _ => []) (fun i => i ≤ rs.length ∧ ∀ j, j < i → badDeal (rs.getD j default) = false) (fun i => rs.length - i) ?_ ?_
  · conv => whnf
    exact head_s 0 ⟨by simp, fun j hj => by omega⟩ (by simp [roD]) rfl
  · rintro i ⟨h1, h2⟩ - -
    conv => whnf
    (refine br_s (fun hb => ?_) (fun hb => ?_) <;> (try simp only [beq_iff_eq, bne_iff_ne, ne_eq, decide_eq_true_eq, decide_eq_false_iff_not, Int.not_lt, Int.not_le, Bool.false_eq_true, if_false, if_true, beq_eq_false_iff_ne, bne_eq_false_iff_eq, Bool.not_eq_true', Bool.not_eq_false', Int.ofNat_lt, Int.ofNat_le, Int.ofNat_inj, List.length_map, List.length_nil, List.length_cons] at hb) <;> conv => whnf)
    (refine rq_s (by (rfl)) ?_; conv => whnf)
    (refine rq_s (by ((refine and_s rfl ?_; simp only [decide_eq_true_eq, List.length_map]; omega))) ?_; conv => whnf)
    (refine row_s (by ((try simp only [Int.toNat_natCast]); exact row_map dealR _ _ _ default (by first | omega | (simp; omega)))) ?_; conv => whnf)
    iterate 4 (refine rq_s (by (rfl)) ?_; conv => whnf)
    (refine lend_s ?_; conv => whnf)
    (refine call_s (c99 ..) ?_; conv => whnf)
    (refine br_s (fun hb => ?_) (fun hb => ?_) <;> (try simp only [beq_iff_eq, bne_iff_ne, ne_eq, decide_eq_true_eq, decide_eq_false_iff_not, Int.not_lt, Int.not_le, Bool.false_eq_true, if_false, if_true, beq_eq_false_iff_ne, bne_eq_false_iff_eq, Bool.not_eq_true', Bool.not_eq_false', Int.ofNat_lt, Int.ofNat_le, Int.ofNat_inj, List.length_map, List.length_nil, List.length_cons] at hb) <;> conv => whnf)
    (refine rq_s (by (rfl)) ?_; conv => whnf)
    iterate 2 (rotate_left)
    (refine rq_s (by (rfl)) ?_; conv => whnf)
    rotate_left
    · refine sh_s ?_
      rw [findI_hit default (by assumption) hb h2]
    · refine head_s (i + 1) ⟨⟨by omega, fun j hj => ?_⟩, by omega⟩ (by rw [wrap64 (by omega) (by omega)]; rfl) rfl
      by_cases hji : j = i
      · subst hji; exact hb
      · exact h2 j (by omega)
    · refine sh_s ?_
      rw [findI_none default fun j hj => h2 j (by omega)]
theorem c98 (rs : List (Deal)) : Con Try.prog 98 [roD rs, .fn 99 []] (undefs [roD rs, .fn 99 []]) (.bool (rs.any badDeal)) := by
  refine Con.ev 9 T_ok mix Try.func98 rfl rfl rfl rfl [.tmp 4] rfl ?_
  conv => whnf
  iterate 2 (refine rq_s (by (rfl)) ?_; conv => whnf)
  (refine lend_s ?_; conv => whnf)
  (refine rows_s (by (rfl)) ?_; conv => whnf)
  (refine call_s (c139 ..) ?_; conv => whnf)
  (refine fac_s (fun hf => ?_); conv => whnf)
  (refine rq_s (by (rfl)) ?_; conv => whnf)
  (refine sh_s ?_; ((rw [← findI_any])))

theorem c155 (rs : List (Int)) : Con Try.prog 155 [roI rs, .fn 138 []] (undefs [roI rs, .fn 138 []]) (.int .i64 (findI badCell rs)) := by
  refine Con.evF 19 T_ok mix Try.func155 rfl rfl rfl rfl [.tmp 4] rfl fun ⟨hx, _⟩ => ?_
  have hx := facts_len hx
  conv => whnf
  rotate_left
  refine LoopG.rounds (α := Nat) T_ok mix [0, 1, 7, 8] [] (fun i => [(0, roI rs), (1, .fn 138 []), (7, .int .i64 rs.length), (8, .int .i64 i)]) (fun _ => []) (fun i => i ≤ rs.length ∧ ∀ j, j < i → badCell (rs.getD j default) = false) (fun i => rs.length - i) ?_ ?_
  · conv => whnf
    exact head_s 0 ⟨by simp, fun j hj => by omega⟩ (by simp [roI]) rfl
  · rintro i ⟨h1, h2⟩ - -
    conv => whnf
    (refine br_s (fun hb => ?_) (fun hb => ?_) <;> (try simp only [beq_iff_eq, bne_iff_ne, ne_eq, decide_eq_true_eq, decide_eq_false_iff_not, Int.not_lt, Int.not_le, Bool.false_eq_true, if_false, if_true, beq_eq_false_iff_ne, bne_eq_false_iff_eq, Bool.not_eq_true', Bool.not_eq_false', Int.ofNat_lt, Int.ofNat_le, Int.ofNat_inj, List.length_map, List.length_nil, List.length_cons] at hb) <;> conv => whnf)
    (refine rq_s (by (rfl)) ?_; conv => whnf)
    (refine rq_s (by ((refine and_s rfl ?_; simp only [decide_eq_true_eq, List.length_map]; omega))) ?_; conv => whnf)
    (refine row_s (by ((try simp only [Int.toNat_natCast]); exact row_map intR _ _ _ default (by first | omega | (simp; omega)))) ?_; conv => whnf)
    (refine rq_s (by (rfl)) ?_; conv => whnf)
    (refine lend_s ?_; conv => whnf)
    (refine call_s (c138 ..) ?_; conv => whnf)
    (refine br_s (fun hb => ?_) (fun hb => ?_) <;> (try simp only [beq_iff_eq, bne_iff_ne, ne_eq, decide_eq_true_eq, decide_eq_false_iff_not, Int.not_lt, Int.not_le, Bool.false_eq_true, if_false, if_true, beq_eq_false_iff_ne, bne_eq_false_iff_eq, Bool.not_eq_true', Bool.not_eq_false', Int.ofNat_lt, Int.ofNat_le, Int.ofNat_inj, List.length_map, List.length_nil, List.length_cons] at hb) <;> conv => whnf)
    (refine rq_s (by (rfl)) ?_; conv => whnf)
    iterate 2 (rotate_left)
    (refine rq_s (by (rfl)) ?_; conv => whnf)
    rotate_left
    · refine sh_s ?_
      rw [findI_hit default (by assumption) hb h2]
    · refine head_s (i + 1) ⟨⟨by omega, fun j hj => ?_⟩, by omega⟩ (by rw [wrap64 (by omega) (by omega)]; rfl) rfl
      by_cases hji : j = i
      · subst hji; exact hb
      · exact h2 j (by omega)
    · refine sh_s ?_
      rw [findI_none default fun j hj => h2 j (by omega)]
theorem c137 (rs : List (Int)) : Con Try.prog 137 [roI rs, .fn 138 []] (undefs [roI rs, .fn 138 []]) (.bool (rs.any badCell)) := by
  refine Con.ev 9 T_ok mix Try.func137 rfl rfl rfl rfl [.tmp 4] rfl ?_
  conv => whnf
  iterate 2 (refine rq_s (by (rfl)) ?_; conv => whnf)
  (refine lend_s ?_; conv => whnf)
  (refine rows_s (by (rfl)) ?_; conv => whnf)
  (refine call_s (c155 ..) ?_; conv => whnf)
  (refine fac_s (fun hf => ?_); conv => whnf)
  (refine rq_s (by (rfl)) ?_; conv => whnf)
  (refine sh_s ?_; ((rw [← findI_any])))
theorem cellsBad (xs : List Int) : Con Try.prog 137 [roI xs, .fn 138 []] (undefs [roI xs, .fn 138 []]) (.bool (!cellsOK xs)) := cells_any xs ▸ c137 xs
theorem dealsBad (xs : List Deal) : Con Try.prog 98 [roD xs, .fn 99 []] (undefs [roD xs, .fn 99 []]) (.bool (!dealsOK xs)) := deals_any xs ▸ c98 xs
theorem c97 (xs : List Int) (n : Int) : Con Try.prog 97 [roI xs, .int .i64 n] (undefs [roI xs, .int .i64 n]) (.bool (decide ((xs.length : Int) ≤ n) && cellsOK xs)) := by
  refine Con.ev 14 T_ok mix Try.func97 rfl rfl rfl rfl [.tmp 4] rfl ?_
  conv => whnf
  (refine br_s (fun hb => ?_) (fun hb => ?_) <;> (try simp only [beq_iff_eq, bne_iff_ne, ne_eq, decide_eq_true_eq, decide_eq_false_iff_not, Int.not_lt, Int.not_le, Bool.false_eq_true, if_false, if_true, beq_eq_false_iff_ne, bne_eq_false_iff_eq, Bool.not_eq_true', Bool.not_eq_false', Int.ofNat_lt, Int.ofNat_le, Int.ofNat_inj, List.length_map, List.length_nil, List.length_cons] at hb) <;> conv => whnf)
  (refine br_t rfl ?_; conv => whnf)
  iterate 2 (refine rq_s (by (rfl)) ?_; conv => whnf)
  (refine lend_s ?_; conv => whnf)
  (refine rows_s (by (rfl)) ?_; conv => whnf)
  (refine call_s (cellsBad ..) ?_; conv => whnf)
  (refine br_t rfl ?_; conv => whnf)
  (refine rq_s (by (rfl)) ?_; conv => whnf)
  (focus (refine sh_s ?_; (first | (simp_all; done) | (simp_all; omega))))
  iterate 3 (refine br_f rfl ?_; conv => whnf)
  (refine rq_s (by (rfl)) ?_; conv => whnf)
  (focus (refine sh_s ?_; (first | (simp_all; done) | (simp_all; omega))))
theorem c96 (xs : List Int) : Con Try.prog 96 [roI xs] (undefs [roI xs]) (.bool (decide (xs.length = 8) && cellsOK xs)) := by
  refine Con.ev 10 T_ok mix Try.func96 rfl rfl rfl rfl [.tmp 2] rfl ?_
  conv => whnf
  (refine br_s (fun hb => ?_) (fun hb => ?_) <;> (try simp only [beq_iff_eq, bne_iff_ne, ne_eq, decide_eq_true_eq, decide_eq_false_iff_not, Int.not_lt, Int.not_le, Bool.false_eq_true, if_false, if_true, beq_eq_false_iff_ne, bne_eq_false_iff_eq, Bool.not_eq_true', Bool.not_eq_false', Int.ofNat_lt, Int.ofNat_le, Int.ofNat_inj, List.length_map, List.length_nil, List.length_cons] at hb) <;> conv => whnf)
  (refine br_t rfl ?_; conv => whnf)
  iterate 2 (refine rq_s (by (rfl)) ?_; conv => whnf)
  (refine lend_s ?_; conv => whnf)
  (refine rows_s (by (rfl)) ?_; conv => whnf)
  (refine call_s (c97 ..) ?_; conv => whnf)
  (refine rq_s (by (rfl)) ?_; conv => whnf)
  (focus (refine sh_s ?_; (first | (simp_all; done) | (simp_all; omega))))
  iterate 2 (refine br_f rfl ?_; conv => whnf)
  (refine rq_s (by (rfl)) ?_; conv => whnf)
  (focus (refine sh_s ?_; (first | (simp_all; done) | (simp_all; omega))))
theorem c104 (xs : List Int) : Con Try.prog 104 [roI xs] (undefs [roI xs]) (.bool (cellsOK xs)) := by
  refine Con.evF 16 T_ok mix Try.func104 rfl rfl rfl rfl [.tmp 2] rfl fun ⟨hx, _⟩ => ?_
  have hx := facts_len hx
  conv => whnf
  rotate_left
  refine LoopG.rounds (α := Nat) T_ok mix [0, 3] [] (fun i => [(0, roI xs), (3, .int .i64 i)]) (fun _ => []) (fun i => i ≤ xs.length ∧ ∀ j, j < i → cell (xs.getD j default) = true) (fun i => xs.length - i) ?_ ?_
  · conv => whnf
    exact head_s 0 ⟨by simp, fun j hj => by omega⟩ (by first | rfl | simp [roI]) rfl
  · rintro i ⟨h1, h2⟩ - -
    conv => whnf
    (refine br_s (fun hb => ?_) (fun hb => ?_) <;> (try simp only [beq_iff_eq, bne_iff_ne, ne_eq, decide_eq_true_eq, decide_eq_false_iff_not, Int.not_lt, Int.not_le, Bool.false_eq_true, if_false, if_true, beq_eq_false_iff_ne, bne_eq_false_iff_eq, Bool.not_eq_true', Bool.not_eq_false', Int.ofNat_lt, Int.ofNat_le, Int.ofNat_inj, List.length_map, List.length_nil, List.length_cons] at hb) <;> conv => whnf)
    (refine rq_s (by (rfl)) ?_; conv => whnf)
    (refine rq_s (by ((refine and_s rfl ?_; simp only [decide_eq_true_eq, List.length_map]; omega))) ?_; conv => whnf)
    (refine row_s (by ((try simp only [Int.toNat_natCast]); exact row_map intR _ _ _ default (by first | omega | (simp; omega)))) ?_; conv => whnf)
    (refine rq_s (by (rfl)) ?_; conv => whnf)
    (refine lend_s ?_; conv => whnf)
    (refine call_s (c142 ..) ?_; conv => whnf)
    (refine br_s (fun hb => ?_) (fun hb => ?_) <;> (try simp only [beq_iff_eq, bne_iff_ne, ne_eq, decide_eq_true_eq, decide_eq_false_iff_not, Int.not_lt, Int.not_le, Bool.false_eq_true, if_false, if_true, beq_eq_false_iff_ne, bne_eq_false_iff_eq, Bool.not_eq_true', Bool.not_eq_false', Int.ofNat_lt, Int.ofNat_le, Int.ofNat_inj, List.length_map, List.length_nil, List.length_cons] at hb) <;> conv => whnf)
    (refine rq_s (by (rfl)) ?_; conv => whnf)
    iterate 2 (rotate_left)
    (refine rq_s (by (rfl)) ?_; conv => whnf)
    rotate_left
    · exact sh_s (by rw [cellsOK, all_bad (by assumption) hb])
    · refine head_s (i + 1) ⟨⟨by omega, fun j hj => ?_⟩, by omega⟩ (by rw [wrap64 (by omega) (by omega)]; rfl) rfl
      by_cases hji : j = i
      · subst hji; exact hb
      · exact h2 j (by omega)
    · exact sh_s (by rw [cellsOK, all_good fun j hj => h2 j (by omega)])
theorem c48 (h : Hst) : Con Try.prog 48 [hstV h] (undefs [hstV h]) (.bool (hostOK h)) := by
  have e : ((h.q.length : Int) ≤ 20) = (h.q.length ≤ 20) := propext ⟨fun _ => by omega, fun _ => by omega⟩
  refine Con.ev 34 T_ok mix Try.func48 rfl rfl rfl rfl [.tmp 2] rfl ?_
  conv => whnf
  iterate 2 (refine rq_s (by (rfl)) ?_; conv => whnf)
  (refine br_s (fun hb => ?_) (fun hb => ?_) <;> (try simp only [beq_iff_eq, bne_iff_ne, ne_eq, decide_eq_true_eq, decide_eq_false_iff_not, Int.not_lt, Int.not_le, Bool.false_eq_true, if_false, if_true, beq_eq_false_iff_ne, bne_eq_false_iff_eq, Bool.not_eq_true', Bool.not_eq_false', Int.ofNat_lt, Int.ofNat_le, Int.ofNat_inj, List.length_map, List.length_nil, List.length_cons] at hb) <;> conv => whnf)
  (refine rq_s (by (rfl)) ?_; conv => whnf)
  iterate 2 (refine br_t rfl ?_; conv => whnf)
  (refine rq_s (by (rfl)) ?_; conv => whnf)
  (refine lend_s ?_; conv => whnf)
  (refine rows_s (by (rfl)) ?_; conv => whnf)
  (refine call_s (c96 ..) ?_; conv => whnf)
  (refine br_s (fun hb => ?_) (fun hb => ?_) <;> (try simp only [beq_iff_eq, bne_iff_ne, ne_eq, decide_eq_true_eq, decide_eq_false_iff_not, Int.not_lt, Int.not_le, Bool.false_eq_true, if_false, if_true, beq_eq_false_iff_ne, bne_eq_false_iff_eq, Bool.not_eq_true', Bool.not_eq_false', Int.ofNat_lt, Int.ofNat_le, Int.ofNat_inj, List.length_map, List.length_nil, List.length_cons] at hb) <;> conv => whnf)
  (refine rq_s (by (rfl)) ?_; conv => whnf)
  iterate 2 (refine br_t rfl ?_; conv => whnf)
  iterate 2 (refine rq_s (by (rfl)) ?_; conv => whnf)
  (refine lend_s ?_; conv => whnf)
  (refine rows_s (by (rfl)) ?_; conv => whnf)
  (refine call_s (c97 ..) ?_; conv => whnf)
  (refine br_s (fun hb => ?_) (fun hb => ?_) <;> (try simp only [beq_iff_eq, bne_iff_ne, ne_eq, decide_eq_true_eq, decide_eq_false_iff_not, Int.not_lt, Int.not_le, Bool.false_eq_true, if_false, if_true, beq_eq_false_iff_ne, bne_eq_false_iff_eq, Bool.not_eq_true', Bool.not_eq_false', Int.ofNat_lt, Int.ofNat_le, Int.ofNat_inj, List.length_map, List.length_nil, List.length_cons] at hb) <;> conv => whnf)
  (refine rq_s (by (rfl)) ?_; conv => whnf)
  iterate 2 (refine br_t rfl ?_; conv => whnf)
  iterate 3 (refine rq_s (by (rfl)) ?_; conv => whnf)
  (refine lend_s ?_; conv => whnf)
  (refine call_s (c68 ..) ?_; conv => whnf)
  (refine br_s (fun hb => ?_) (fun hb => ?_) <;> (try simp only [beq_iff_eq, bne_iff_ne, ne_eq, decide_eq_true_eq, decide_eq_false_iff_not, Int.not_lt, Int.not_le, Bool.false_eq_true, if_false, if_true, beq_eq_false_iff_ne, bne_eq_false_iff_eq, Bool.not_eq_true', Bool.not_eq_false', Int.ofNat_lt, Int.ofNat_le, Int.ofNat_inj, List.length_map, List.length_nil, List.length_cons] at hb) <;> conv => whnf)
  (refine rq_s (by (rfl)) ?_; conv => whnf)
  iterate 3 (refine br_t rfl ?_; conv => whnf)
  (refine br_s (fun hb => ?_) (fun hb => ?_) <;> (try simp only [beq_iff_eq, bne_iff_ne, ne_eq, decide_eq_true_eq, decide_eq_false_iff_not, Int.not_lt, Int.not_le, Bool.false_eq_true, if_false, if_true, beq_eq_false_iff_ne, bne_eq_false_iff_eq, Bool.not_eq_true', Bool.not_eq_false', Int.ofNat_lt, Int.ofNat_le, Int.ofNat_inj, List.length_map, List.length_nil, List.length_cons] at hb) <;> conv => whnf)
  (refine rq_s (by (rfl)) ?_; conv => whnf)
  iterate 2 (refine br_t rfl ?_; conv => whnf)
  iterate 2 (refine rq_s (by (rfl)) ?_; conv => whnf)
  (refine lend_s ?_; conv => whnf)
  (refine rows_s (by (rfl)) ?_; conv => whnf)
  (refine call_s (dealsBad ..) ?_; conv => whnf)
  (refine br_t rfl ?_; conv => whnf)
  (refine rq_s (by (rfl)) ?_; conv => whnf)
  (focus (refine sh_s ?_; (first | (simp_all [hostOK]; done) | (simp_all [hostOK]; omega) | (congr 1; rw [Bool.eq_iff_iff]; simp_all [hostOK]; done) | (congr 1; rw [Bool.eq_iff_iff]; simp_all [hostOK]; omega))))
  iterate 4 (refine br_f rfl ?_; conv => whnf)
  (refine rq_s (by (rfl)) ?_; conv => whnf)
  (focus (refine sh_s ?_; (first | (simp_all [hostOK]; done) | (simp_all [hostOK]; omega) | (congr 1; rw [Bool.eq_iff_iff]; simp_all [hostOK]; done) | (congr 1; rw [Bool.eq_iff_iff]; simp_all [hostOK]; omega))))
  iterate 9 (refine br_f rfl ?_; conv => whnf)
  (refine rq_s (by (rfl)) ?_; conv => whnf)
  (focus (refine sh_s ?_; (first | (simp_all [hostOK]; done) | (simp_all [hostOK]; omega) | (congr 1; rw [Bool.eq_iff_iff]; simp_all [hostOK]; done) | (congr 1; rw [Bool.eq_iff_iff]; simp_all [hostOK]; omega))))
  iterate 13 (refine br_f rfl ?_; conv => whnf)
  (refine rq_s (by (rfl)) ?_; conv => whnf)
  (focus (refine sh_s ?_; (first | (simp_all [hostOK]; done) | (simp_all [hostOK]; omega) | (congr 1; rw [Bool.eq_iff_iff]; simp_all [hostOK]; done) | (congr 1; rw [Bool.eq_iff_iff]; simp_all [hostOK]; omega))))
  iterate 17 (refine br_f rfl ?_; conv => whnf)
  (refine rq_s (by (rfl)) ?_; conv => whnf)
  (focus (refine sh_s ?_; (first | (simp_all [hostOK]; done) | (simp_all [hostOK]; omega) | (congr 1; rw [Bool.eq_iff_iff]; simp_all [hostOK]; done) | (congr 1; rw [Bool.eq_iff_iff]; simp_all [hostOK]; omega))))
  iterate 21 (refine br_f rfl ?_; conv => whnf)
  (refine rq_s (by (rfl)) ?_; conv => whnf)
  (focus (refine sh_s ?_; (first | (simp_all [hostOK]; done) | (simp_all [hostOK]; omega) | (congr 1; rw [Bool.eq_iff_iff]; simp_all [hostOK]; done) | (congr 1; rw [Bool.eq_iff_iff]; simp_all [hostOK]; omega))))

theorem c52 (h : Hst) : Con Try.prog 52 [hstV h] (undefs [hstV h]) (.bool (hostOK h)) := by
  refine Con.evF 58 T_ok mix Try.func52 rfl rfl rfl rfl [.tmp 2] rfl fun ⟨hx, _⟩ => ?_
  have hx := facts_len (fun d => hx (d + 1) (roD h.ds) (by simp [hstR]))
  conv => whnf
  iterate 2 (refine rq_s (by (rfl)) ?_; conv => whnf)
  (refine br_s (fun hb => ?_) (fun hb => ?_) <;> (try simp only [beq_iff_eq, bne_iff_ne, ne_eq, decide_eq_true_eq, decide_eq_false_iff_not, Int.not_lt, Int.not_le, Bool.false_eq_true, if_false, if_true, beq_eq_false_iff_ne, bne_eq_false_iff_eq, Bool.not_eq_true', Bool.not_eq_false', Int.ofNat_lt, Int.ofNat_le, Int.ofNat_inj, List.length_map, List.length_nil, List.length_cons] at hb) <;> conv => whnf)
  iterate 30 (refine br_t rfl ?_; conv => whnf)
  (refine rq_s (by (rfl)) ?_; conv => whnf)
  (focus (refine sh_s ?_; (first | (simp_all [hostOK]; done) | (simp_all [hostOK]; omega))))
  (refine rq_s (by (rfl)) ?_; conv => whnf)
  iterate 3 (refine br_f rfl ?_; conv => whnf)
  (refine br_s (fun hb => ?_) (fun hb => ?_) <;> (try simp only [beq_iff_eq, bne_iff_ne, ne_eq, decide_eq_true_eq, decide_eq_false_iff_not, Int.not_lt, Int.not_le, Bool.false_eq_true, if_false, if_true, beq_eq_false_iff_ne, bne_eq_false_iff_eq, Bool.not_eq_true', Bool.not_eq_false', Int.ofNat_lt, Int.ofNat_le, Int.ofNat_inj, List.length_map, List.length_nil, List.length_cons] at hb) <;> conv => whnf)
  iterate 25 (refine br_t rfl ?_; conv => whnf)
  (refine rq_s (by (rfl)) ?_; conv => whnf)
  (focus (refine sh_s ?_; (first | (simp_all [hostOK]; done) | (simp_all [hostOK]; omega))))
  (refine rq_s (by (rfl)) ?_; conv => whnf)
  iterate 3 (refine br_f rfl ?_; conv => whnf)
  (refine br_s (fun hb => ?_) (fun hb => ?_) <;> (try simp only [beq_iff_eq, bne_iff_ne, ne_eq, decide_eq_true_eq, decide_eq_false_iff_not, Int.not_lt, Int.not_le, Bool.false_eq_true, if_false, if_true, beq_eq_false_iff_ne, bne_eq_false_iff_eq, Bool.not_eq_true', Bool.not_eq_false', Int.ofNat_lt, Int.ofNat_le, Int.ofNat_inj, List.length_map, List.length_nil, List.length_cons] at hb) <;> conv => whnf)
  iterate 20 (refine br_t rfl ?_; conv => whnf)
  (refine rq_s (by (rfl)) ?_; conv => whnf)
  (focus (refine sh_s ?_; (first | (simp_all [hostOK]; done) | (simp_all [hostOK]; omega))))
  (refine rq_s (by (rfl)) ?_; conv => whnf)
  iterate 3 (refine br_f rfl ?_; conv => whnf)
  (refine br_s (fun hb => ?_) (fun hb => ?_) <;> (try simp only [beq_iff_eq, bne_iff_ne, ne_eq, decide_eq_true_eq, decide_eq_false_iff_not, Int.not_lt, Int.not_le, Bool.false_eq_true, if_false, if_true, beq_eq_false_iff_ne, bne_eq_false_iff_eq, Bool.not_eq_true', Bool.not_eq_false', Int.ofNat_lt, Int.ofNat_le, Int.ofNat_inj, List.length_map, List.length_nil, List.length_cons] at hb) <;> conv => whnf)
  iterate 15 (refine br_t rfl ?_; conv => whnf)
  (refine rq_s (by (rfl)) ?_; conv => whnf)
  (focus (refine sh_s ?_; (first | (simp_all [hostOK]; done) | (simp_all [hostOK]; omega))))
  (refine rq_s (by (rfl)) ?_; conv => whnf)
  iterate 2 (refine br_f rfl ?_; conv => whnf)
  (refine rq_s (by (rfl)) ?_; conv => whnf)
  (refine lend_s ?_; conv => whnf)
  (refine rows_s (by (rfl)) ?_; conv => whnf)
  (refine call_s (c104 ..) ?_; conv => whnf)
  (refine br_f rfl ?_; conv => whnf)
  (refine br_s (fun hb => ?_) (fun hb => ?_) <;> (try simp only [beq_iff_eq, bne_iff_ne, ne_eq, decide_eq_true_eq, decide_eq_false_iff_not, Int.not_lt, Int.not_le, Bool.false_eq_true, if_false, if_true, beq_eq_false_iff_ne, bne_eq_false_iff_eq, Bool.not_eq_true', Bool.not_eq_false', Int.ofNat_lt, Int.ofNat_le, Int.ofNat_inj, List.length_map, List.length_nil, List.length_cons] at hb) <;> conv => whnf)
  iterate 10 (refine br_t rfl ?_; conv => whnf)
  (refine rq_s (by (rfl)) ?_; conv => whnf)
  (focus (refine sh_s ?_; (first | (simp_all [hostOK]; done) | (simp_all [hostOK]; omega))))
  (refine rq_s (by (rfl)) ?_; conv => whnf)
  iterate 2 (refine br_f rfl ?_; conv => whnf)
  (refine rq_s (by (rfl)) ?_; conv => whnf)
  (refine lend_s ?_; conv => whnf)
  (refine rows_s (by (rfl)) ?_; conv => whnf)
  (refine call_s (c104 ..) ?_; conv => whnf)
  (refine br_f rfl ?_; conv => whnf)
  (refine br_s (fun hb => ?_) (fun hb => ?_) <;> (try simp only [beq_iff_eq, bne_iff_ne, ne_eq, decide_eq_true_eq, decide_eq_false_iff_not, Int.not_lt, Int.not_le, Bool.false_eq_true, if_false, if_true, beq_eq_false_iff_ne, bne_eq_false_iff_eq, Bool.not_eq_true', Bool.not_eq_false', Int.ofNat_lt, Int.ofNat_le, Int.ofNat_inj, List.length_map, List.length_nil, List.length_cons] at hb) <;> conv => whnf)
  iterate 5 (refine br_t rfl ?_; conv => whnf)
  (refine rq_s (by (rfl)) ?_; conv => whnf)
  (focus (refine sh_s ?_; (first | (simp_all [hostOK]; done) | (simp_all [hostOK]; omega))))
  (refine rq_s (by (rfl)) ?_; conv => whnf)
  iterate 2 (refine br_f rfl ?_; conv => whnf)
  iterate 3 (refine rq_s (by (rfl)) ?_; conv => whnf)
  (refine lend_s ?_; conv => whnf)
  (refine call_s (c54 ..) ?_; conv => whnf)
  (refine br_f rfl ?_; conv => whnf)
  (refine br_s (fun hb => ?_) (fun hb => ?_) <;> (try simp only [beq_iff_eq, bne_iff_ne, ne_eq, decide_eq_true_eq, decide_eq_false_iff_not, Int.not_lt, Int.not_le, Bool.false_eq_true, if_false, if_true, beq_eq_false_iff_ne, bne_eq_false_iff_eq, Bool.not_eq_true', Bool.not_eq_false', Int.ofNat_lt, Int.ofNat_le, Int.ofNat_inj, List.length_map, List.length_nil, List.length_cons] at hb) <;> conv => whnf)
  (refine rq_s (by (rfl)) ?_; conv => whnf)
  (focus (refine sh_s ?_; (first | (simp_all [hostOK]; done) | (simp_all [hostOK]; omega))))
  rotate_left
  have g1 : h.gr.length = 4 := by omega
  have g2 : h.st.length = 8 := by omega
  have g3 : h.q.length ≤ 20 := by omega
  have g4 : h.ds.length ≤ 40 := by omega
  have g5 : cellsOK h.st = true := by assumption
  have g6 : cellsOK h.q = true := by assumption
  have g7 : inR h.tk 0 2147483647 = true := hb
  have fin : hostOK h = dealsOK h.ds := by simp [hostOK, g1, g2, g3, g4, g5, g6, g7]
  rw [fin]
  refine LoopG.rounds (α := Nat) T_ok mix [3, 1] [(1, 1)] (fun i => [(3, .int .i64 i), (1, .ptr 1 0 0)]) (fun _ => [(1, .live ⟨false, 0, [roB h.gr, roI h.st, roI h.q, .int .i64 h.tk, roD h.ds], [[roB h.gr, roI h.st, roI h.q, .int .i64 h.tk, roD h.ds]]⟩)]) (fun i => i ≤ h.ds.length ∧ ∀ j, j < i → dealOK (h.ds.getD j default) = true) (fun i => h.ds.length - i) ?_ ?_
  · conv => whnf
    exact head_s 0 ⟨by simp, fun j hj => by omega⟩ rfl rfl
  · rintro i ⟨h1, h2⟩ - -
    conv => whnf
    (refine rq_s (by (rfl)) ?_; conv => whnf)
    (refine br_s (fun hb => ?_) (fun hb => ?_) <;> (try simp only [beq_iff_eq, bne_iff_ne, ne_eq, decide_eq_true_eq, decide_eq_false_iff_not, Int.not_lt, Int.not_le, Bool.false_eq_true, if_false, if_true, beq_eq_false_iff_ne, bne_eq_false_iff_eq, Bool.not_eq_true', Bool.not_eq_false', Int.ofNat_lt, Int.ofNat_le, Int.ofNat_inj, List.length_map, List.length_nil, List.length_cons] at hb) <;> conv => whnf)
    iterate 2 (refine rq_s (by (rfl)) ?_; conv => whnf)
    (refine rq_s (by ((refine and_s rfl ?_; simp only [decide_eq_true_eq, List.length_map]; omega))) ?_; conv => whnf)
    (refine row_s (by ((try simp only [Int.toNat_natCast]); exact row_map dealR _ _ _ default (by first | omega | (simp; omega)))) ?_; conv => whnf)
    iterate 4 (refine rq_s (by (rfl)) ?_; conv => whnf)
    (refine lend_s ?_; conv => whnf)
    (refine call_s (c105 ..) ?_; conv => whnf)
    (refine br_s (fun hb => ?_) (fun hb => ?_) <;> (try simp only [beq_iff_eq, bne_iff_ne, ne_eq, decide_eq_true_eq, decide_eq_false_iff_not, Int.not_lt, Int.not_le, Bool.false_eq_true, if_false, if_true, beq_eq_false_iff_ne, bne_eq_false_iff_eq, Bool.not_eq_true', Bool.not_eq_false', Int.ofNat_lt, Int.ofNat_le, Int.ofNat_inj, List.length_map, List.length_nil, List.length_cons] at hb) <;> conv => whnf)
    (refine rq_s (by (rfl)) ?_; conv => whnf)
    iterate 2 (rotate_left)
    (refine rq_s (by (rfl)) ?_; conv => whnf)
    rotate_left
    · exact sh_s (by rw [dealsOK, all_bad (by assumption) hb])
    · refine head_s (i + 1) ⟨⟨by omega, fun j hj => ?_⟩, by omega⟩ (by rw [wrap64 (by omega) (by omega)]; rfl) rfl
      by_cases hji : j = i
      · subst hji; exact hb
      · exact h2 j (by omega)
    · exact sh_s (by rw [dealsOK, all_good fun j hj => h2 j (by omega)])
theorem c53 (d : Dat) : Con Try.prog 53 [datV d] (undefs [datV d]) (.bool (dataOK d)) := by
  refine Con.ev 50 T_ok mix Try.func53 rfl rfl rfl rfl [.tmp 2] rfl ?_
  conv => whnf
  iterate 2 (refine rq_s (by (rfl)) ?_; conv => whnf)
  (refine br_s (fun hb => ?_) (fun hb => ?_) <;> (try simp only [beq_iff_eq, bne_iff_ne, ne_eq, decide_eq_true_eq, decide_eq_false_iff_not, Int.not_lt, Int.not_le, Bool.false_eq_true, if_false, if_true, beq_eq_false_iff_ne, bne_eq_false_iff_eq, Bool.not_eq_true', Bool.not_eq_false', Int.ofNat_lt, Int.ofNat_le, Int.ofNat_inj, List.length_map, List.length_nil, List.length_cons] at hb) <;> conv => whnf)
  (refine rq_s (by (rfl)) ?_; conv => whnf)
  iterate 3 (refine br_t rfl ?_; conv => whnf)
  (refine br_s (fun hb => ?_) (fun hb => ?_) <;> (try simp only [beq_iff_eq, bne_iff_ne, ne_eq, decide_eq_true_eq, decide_eq_false_iff_not, Int.not_lt, Int.not_le, Bool.false_eq_true, if_false, if_true, beq_eq_false_iff_ne, bne_eq_false_iff_eq, Bool.not_eq_true', Bool.not_eq_false', Int.ofNat_lt, Int.ofNat_le, Int.ofNat_inj, List.length_map, List.length_nil, List.length_cons] at hb) <;> conv => whnf)
  (refine rq_s (by (rfl)) ?_; conv => whnf)
  iterate 3 (refine br_t rfl ?_; conv => whnf)
  (refine br_s (fun hb => ?_) (fun hb => ?_) <;> (try simp only [beq_iff_eq, bne_iff_ne, ne_eq, decide_eq_true_eq, decide_eq_false_iff_not, Int.not_lt, Int.not_le, Bool.false_eq_true, if_false, if_true, beq_eq_false_iff_ne, bne_eq_false_iff_eq, Bool.not_eq_true', Bool.not_eq_false', Int.ofNat_lt, Int.ofNat_le, Int.ofNat_inj, List.length_map, List.length_nil, List.length_cons] at hb) <;> conv => whnf)
  (refine rq_s (by (rfl)) ?_; conv => whnf)
  iterate 2 (refine br_t rfl ?_; conv => whnf)
  (refine rq_s (by (rfl)) ?_; conv => whnf)
  (refine lend_s ?_; conv => whnf)
  (refine rows_s (by (rfl)) ?_; conv => whnf)
  (refine call_s (c104 ..) ?_; conv => whnf)
  (refine br_s (fun hb => ?_) (fun hb => ?_) <;> (try simp only [beq_iff_eq, bne_iff_ne, ne_eq, decide_eq_true_eq, decide_eq_false_iff_not, Int.not_lt, Int.not_le, Bool.false_eq_true, if_false, if_true, beq_eq_false_iff_ne, bne_eq_false_iff_eq, Bool.not_eq_true', Bool.not_eq_false', Int.ofNat_lt, Int.ofNat_le, Int.ofNat_inj, List.length_map, List.length_nil, List.length_cons] at hb) <;> conv => whnf)
  (refine rq_s (by (rfl)) ?_; conv => whnf)
  iterate 2 (refine br_t rfl ?_; conv => whnf)
  (refine rq_s (by (rfl)) ?_; conv => whnf)
  (refine lend_s ?_; conv => whnf)
  (refine rows_s (by (rfl)) ?_; conv => whnf)
  (refine call_s (c104 ..) ?_; conv => whnf)
  (refine br_s (fun hb => ?_) (fun hb => ?_) <;> (try simp only [beq_iff_eq, bne_iff_ne, ne_eq, decide_eq_true_eq, decide_eq_false_iff_not, Int.not_lt, Int.not_le, Bool.false_eq_true, if_false, if_true, beq_eq_false_iff_ne, bne_eq_false_iff_eq, Bool.not_eq_true', Bool.not_eq_false', Int.ofNat_lt, Int.ofNat_le, Int.ofNat_inj, List.length_map, List.length_nil, List.length_cons] at hb) <;> conv => whnf)
  (refine rq_s (by (rfl)) ?_; conv => whnf)
  iterate 2 (refine br_t rfl ?_; conv => whnf)
  (refine rq_s (by (rfl)) ?_; conv => whnf)
  (refine lend_s ?_; conv => whnf)
  (refine rows_s (by (rfl)) ?_; conv => whnf)
  (refine call_s (c104 ..) ?_; conv => whnf)
  (refine br_s (fun hb => ?_) (fun hb => ?_) <;> (try simp only [beq_iff_eq, bne_iff_ne, ne_eq, decide_eq_true_eq, decide_eq_false_iff_not, Int.not_lt, Int.not_le, Bool.false_eq_true, if_false, if_true, beq_eq_false_iff_ne, bne_eq_false_iff_eq, Bool.not_eq_true', Bool.not_eq_false', Int.ofNat_lt, Int.ofNat_le, Int.ofNat_inj, List.length_map, List.length_nil, List.length_cons] at hb) <;> conv => whnf)
  (refine rq_s (by (rfl)) ?_; conv => whnf)
  iterate 2 (refine br_t rfl ?_; conv => whnf)
  iterate 3 (refine rq_s (by (rfl)) ?_; conv => whnf)
  (refine lend_s ?_; conv => whnf)
  (refine call_s (c54 ..) ?_; conv => whnf)
  (refine br_s (fun hb => ?_) (fun hb => ?_) <;> (try simp only [beq_iff_eq, bne_iff_ne, ne_eq, decide_eq_true_eq, decide_eq_false_iff_not, Int.not_lt, Int.not_le, Bool.false_eq_true, if_false, if_true, beq_eq_false_iff_ne, bne_eq_false_iff_eq, Bool.not_eq_true', Bool.not_eq_false', Int.ofNat_lt, Int.ofNat_le, Int.ofNat_inj, List.length_map, List.length_nil, List.length_cons] at hb) <;> conv => whnf)
  (refine rq_s (by (rfl)) ?_; conv => whnf)
  iterate 2 (refine br_t rfl ?_; conv => whnf)
  (refine rq_s (by (rfl)) ?_; conv => whnf)
  (refine lend_s ?_; conv => whnf)
  (refine call_s (c106 ..) ?_; conv => whnf)
  (refine br_s (fun hb => ?_) (fun hb => ?_) <;> (try simp only [beq_iff_eq, bne_iff_ne, ne_eq, decide_eq_true_eq, decide_eq_false_iff_not, Int.not_lt, Int.not_le, Bool.false_eq_true, if_false, if_true, beq_eq_false_iff_ne, bne_eq_false_iff_eq, Bool.not_eq_true', Bool.not_eq_false', Int.ofNat_lt, Int.ofNat_le, Int.ofNat_inj, List.length_map, List.length_nil, List.length_cons] at hb) <;> conv => whnf)
  (refine rq_s (by (rfl)) ?_; conv => whnf)
  iterate 3 (refine br_t rfl ?_; conv => whnf)
  (refine rq_s (by (rfl)) ?_; conv => whnf)
  (focus (refine sh_s ?_; (first | (simp_all [dataOK]; done) | (simp_all [dataOK]; omega) | (congr 1; rw [Bool.eq_iff_iff]; simp_all [dataOK]; done) | (congr 1; rw [Bool.eq_iff_iff]; simp_all [dataOK]; omega))))
  iterate 4 (refine br_f rfl ?_; conv => whnf)
  (refine rq_s (by (rfl)) ?_; conv => whnf)
  (focus (refine sh_s ?_; (first | (simp_all [dataOK]; done) | (simp_all [dataOK]; omega) | (congr 1; rw [Bool.eq_iff_iff]; simp_all [dataOK]; done) | (congr 1; rw [Bool.eq_iff_iff]; simp_all [dataOK]; omega))))
  iterate 8 (refine br_f rfl ?_; conv => whnf)
  (refine rq_s (by (rfl)) ?_; conv => whnf)
  (focus (refine sh_s ?_; (first | (simp_all [dataOK]; done) | (simp_all [dataOK]; omega) | (congr 1; rw [Bool.eq_iff_iff]; simp_all [dataOK]; done) | (congr 1; rw [Bool.eq_iff_iff]; simp_all [dataOK]; omega))))
  iterate 12 (refine br_f rfl ?_; conv => whnf)
  (refine rq_s (by (rfl)) ?_; conv => whnf)
  (focus (refine sh_s ?_; (first | (simp_all [dataOK]; done) | (simp_all [dataOK]; omega) | (congr 1; rw [Bool.eq_iff_iff]; simp_all [dataOK]; done) | (congr 1; rw [Bool.eq_iff_iff]; simp_all [dataOK]; omega))))
  iterate 16 (refine br_f rfl ?_; conv => whnf)
  (refine rq_s (by (rfl)) ?_; conv => whnf)
  (focus (refine sh_s ?_; (first | (simp_all [dataOK]; done) | (simp_all [dataOK]; omega) | (congr 1; rw [Bool.eq_iff_iff]; simp_all [dataOK]; done) | (congr 1; rw [Bool.eq_iff_iff]; simp_all [dataOK]; omega))))
  iterate 20 (refine br_f rfl ?_; conv => whnf)
  (refine rq_s (by (rfl)) ?_; conv => whnf)
  (focus (refine sh_s ?_; (first | (simp_all [dataOK]; done) | (simp_all [dataOK]; omega) | (congr 1; rw [Bool.eq_iff_iff]; simp_all [dataOK]; done) | (congr 1; rw [Bool.eq_iff_iff]; simp_all [dataOK]; omega))))
  iterate 24 (refine br_f rfl ?_; conv => whnf)
  (refine rq_s (by (rfl)) ?_; conv => whnf)
  (focus (refine sh_s ?_; (first | (simp_all [dataOK]; done) | (simp_all [dataOK]; omega) | (congr 1; rw [Bool.eq_iff_iff]; simp_all [dataOK]; done) | (congr 1; rw [Bool.eq_iff_iff]; simp_all [dataOK]; omega))))
  iterate 29 (refine br_f rfl ?_; conv => whnf)
  (refine rq_s (by (rfl)) ?_; conv => whnf)
  (focus (refine sh_s ?_; (first | (simp_all [dataOK]; done) | (simp_all [dataOK]; omega) | (congr 1; rw [Bool.eq_iff_iff]; simp_all [dataOK]; done) | (congr 1; rw [Bool.eq_iff_iff]; simp_all [dataOK]; omega))))
  iterate 34 (refine br_f rfl ?_; conv => whnf)
  (refine rq_s (by (rfl)) ?_; conv => whnf)
  (focus (refine sh_s ?_; (first | (simp_all [dataOK]; done) | (simp_all [dataOK]; omega) | (congr 1; rw [Bool.eq_iff_iff]; simp_all [dataOK]; done) | (congr 1; rw [Bool.eq_iff_iff]; simp_all [dataOK]; omega))))
theorem c49 (d : Dat) : Con Try.prog 49 [datV d] (undefs [datV d]) (.bool (dataOK d)) := by
  have e1 : ((d.st.length : Int) ≤ 32) = (d.st.length ≤ 32) := propext ⟨fun _ => by omega, fun _ => by omega⟩
  have e2 : ((d.bk.length : Int) ≤ 32) = (d.bk.length ≤ 32) := propext ⟨fun _ => by omega, fun _ => by omega⟩
  have e3 : ((d.ce.length : Int) ≤ 32) = (d.ce.length ≤ 32) := propext ⟨fun _ => by omega, fun _ => by omega⟩
  refine Con.ev 38 T_ok mix Try.func49 rfl rfl rfl rfl [.tmp 2] rfl ?_
  conv => whnf
  iterate 4 (refine rq_s (by (rfl)) ?_; conv => whnf)
  (refine lend_s ?_; conv => whnf)
  (refine rows_s (by (rfl)) ?_; conv => whnf)
  (refine call_s (c97 ..) ?_; conv => whnf)
  (refine br_s (fun hb => ?_) (fun hb => ?_) <;> (try simp only [beq_iff_eq, bne_iff_ne, ne_eq, decide_eq_true_eq, decide_eq_false_iff_not, Int.not_lt, Int.not_le, Bool.false_eq_true, if_false, if_true, beq_eq_false_iff_ne, bne_eq_false_iff_eq, Bool.not_eq_true', Bool.not_eq_false', Int.ofNat_lt, Int.ofNat_le, Int.ofNat_inj, List.length_map, List.length_nil, List.length_cons] at hb) <;> conv => whnf)
  (refine rq_s (by (rfl)) ?_; conv => whnf)
  iterate 2 (refine br_t rfl ?_; conv => whnf)
  iterate 2 (refine rq_s (by (rfl)) ?_; conv => whnf)
  (refine lend_s ?_; conv => whnf)
  (refine rows_s (by (rfl)) ?_; conv => whnf)
  (refine call_s (c97 ..) ?_; conv => whnf)
  (refine br_s (fun hb => ?_) (fun hb => ?_) <;> (try simp only [beq_iff_eq, bne_iff_ne, ne_eq, decide_eq_true_eq, decide_eq_false_iff_not, Int.not_lt, Int.not_le, Bool.false_eq_true, if_false, if_true, beq_eq_false_iff_ne, bne_eq_false_iff_eq, Bool.not_eq_true', Bool.not_eq_false', Int.ofNat_lt, Int.ofNat_le, Int.ofNat_inj, List.length_map, List.length_nil, List.length_cons] at hb) <;> conv => whnf)
  (refine rq_s (by (rfl)) ?_; conv => whnf)
  iterate 2 (refine br_t rfl ?_; conv => whnf)
  iterate 2 (refine rq_s (by (rfl)) ?_; conv => whnf)
  (refine lend_s ?_; conv => whnf)
  (refine rows_s (by (rfl)) ?_; conv => whnf)
  (refine call_s (c97 ..) ?_; conv => whnf)
  (refine br_s (fun hb => ?_) (fun hb => ?_) <;> (try simp only [beq_iff_eq, bne_iff_ne, ne_eq, decide_eq_true_eq, decide_eq_false_iff_not, Int.not_lt, Int.not_le, Bool.false_eq_true, if_false, if_true, beq_eq_false_iff_ne, bne_eq_false_iff_eq, Bool.not_eq_true', Bool.not_eq_false', Int.ofNat_lt, Int.ofNat_le, Int.ofNat_inj, List.length_map, List.length_nil, List.length_cons] at hb) <;> conv => whnf)
  (refine rq_s (by (rfl)) ?_; conv => whnf)
  iterate 3 (refine br_t rfl ?_; conv => whnf)
  (refine br_s (fun hb => ?_) (fun hb => ?_) <;> (try simp only [beq_iff_eq, bne_iff_ne, ne_eq, decide_eq_true_eq, decide_eq_false_iff_not, Int.not_lt, Int.not_le, Bool.false_eq_true, if_false, if_true, beq_eq_false_iff_ne, bne_eq_false_iff_eq, Bool.not_eq_true', Bool.not_eq_false', Int.ofNat_lt, Int.ofNat_le, Int.ofNat_inj, List.length_map, List.length_nil, List.length_cons] at hb) <;> conv => whnf)
  (refine rq_s (by (rfl)) ?_; conv => whnf)
  iterate 2 (refine br_t rfl ?_; conv => whnf)
  iterate 3 (refine rq_s (by (rfl)) ?_; conv => whnf)
  (refine lend_s ?_; conv => whnf)
  (refine call_s (c68 ..) ?_; conv => whnf)
  (refine br_s (fun hb => ?_) (fun hb => ?_) <;> (try simp only [beq_iff_eq, bne_iff_ne, ne_eq, decide_eq_true_eq, decide_eq_false_iff_not, Int.not_lt, Int.not_le, Bool.false_eq_true, if_false, if_true, beq_eq_false_iff_ne, bne_eq_false_iff_eq, Bool.not_eq_true', Bool.not_eq_false', Int.ofNat_lt, Int.ofNat_le, Int.ofNat_inj, List.length_map, List.length_nil, List.length_cons] at hb) <;> conv => whnf)
  (refine rq_s (by (rfl)) ?_; conv => whnf)
  iterate 2 (refine br_t rfl ?_; conv => whnf)
  (refine rq_s (by (rfl)) ?_; conv => whnf)
  (refine lend_s ?_; conv => whnf)
  (refine call_s (c101 ..) ?_; conv => whnf)
  (refine br_s (fun hb => ?_) (fun hb => ?_) <;> (try simp only [beq_iff_eq, bne_iff_ne, ne_eq, decide_eq_true_eq, decide_eq_false_iff_not, Int.not_lt, Int.not_le, Bool.false_eq_true, if_false, if_true, beq_eq_false_iff_ne, bne_eq_false_iff_eq, Bool.not_eq_true', Bool.not_eq_false', Int.ofNat_lt, Int.ofNat_le, Int.ofNat_inj, List.length_map, List.length_nil, List.length_cons] at hb) <;> conv => whnf)
  (refine rq_s (by (rfl)) ?_; conv => whnf)
  iterate 3 (refine br_t rfl ?_; conv => whnf)
  (refine rq_s (by (rfl)) ?_; conv => whnf)
  (focus (refine sh_s ?_; (first | (simp_all [dataOK]; done) | (simp_all [dataOK]; omega) | (congr 1; rw [Bool.eq_iff_iff]; simp_all [dataOK]; done) | (congr 1; rw [Bool.eq_iff_iff]; simp_all [dataOK]; omega))))
  iterate 4 (refine br_f rfl ?_; conv => whnf)
  (refine rq_s (by (rfl)) ?_; conv => whnf)
  (focus (refine sh_s ?_; (first | (simp_all [dataOK]; done) | (simp_all [dataOK]; omega) | (congr 1; rw [Bool.eq_iff_iff]; simp_all [dataOK]; done) | (congr 1; rw [Bool.eq_iff_iff]; simp_all [dataOK]; omega))))
  iterate 8 (refine br_f rfl ?_; conv => whnf)
  (refine rq_s (by (rfl)) ?_; conv => whnf)
  (focus (refine sh_s ?_; (first | (simp_all [dataOK]; done) | (simp_all [dataOK]; omega) | (congr 1; rw [Bool.eq_iff_iff]; simp_all [dataOK]; done) | (congr 1; rw [Bool.eq_iff_iff]; simp_all [dataOK]; omega))))
  iterate 12 (refine br_f rfl ?_; conv => whnf)
  (refine rq_s (by (rfl)) ?_; conv => whnf)
  (focus (refine sh_s ?_; (first | (simp_all [dataOK]; done) | (simp_all [dataOK]; omega) | (congr 1; rw [Bool.eq_iff_iff]; simp_all [dataOK]; done) | (congr 1; rw [Bool.eq_iff_iff]; simp_all [dataOK]; omega))))
  iterate 17 (refine br_f rfl ?_; conv => whnf)
  (refine rq_s (by (rfl)) ?_; conv => whnf)
  (focus (refine sh_s ?_; (first | (simp_all [dataOK]; done) | (simp_all [dataOK]; omega) | (congr 1; rw [Bool.eq_iff_iff]; simp_all [dataOK]; done) | (congr 1; rw [Bool.eq_iff_iff]; simp_all [dataOK]; omega))))
  iterate 21 (refine br_f rfl ?_; conv => whnf)
  (refine rq_s (by (rfl)) ?_; conv => whnf)
  (focus (refine sh_s ?_; (first | (simp_all [dataOK]; done) | (simp_all [dataOK]; omega) | (congr 1; rw [Bool.eq_iff_iff]; simp_all [dataOK]; done) | (congr 1; rw [Bool.eq_iff_iff]; simp_all [dataOK]; omega))))
  iterate 25 (refine br_f rfl ?_; conv => whnf)
  (refine rq_s (by (rfl)) ?_; conv => whnf)
  (focus (refine sh_s ?_; (first | (simp_all [dataOK]; done) | (simp_all [dataOK]; omega) | (congr 1; rw [Bool.eq_iff_iff]; simp_all [dataOK]; done) | (congr 1; rw [Bool.eq_iff_iff]; simp_all [dataOK]; omega))))
theorem own_sh {α : Type} {z : List AV} {f : α → List AV} {xs : List α} (h : xs.length = 0) : Sh .emp (.own 0 z (xs.map f)) := by
  have : xs = [] := List.length_eq_zero_iff.1 h
  subst this
  exact Sh.emp_own 0 z
theorem c113 (xs : List Bool) (h : xs.length ≤ 1048576) : Con Try.prog 113 [roB xs] (undefs [roB xs]) (ownB xs) := by
  refine Con.ev 8 T_ok mix Try.func113 rfl rfl rfl rfl [.tmp 2] rfl ?_
  conv => whnf
  (refine nil_s (fun hz => ?_) ?_ <;> conv => whnf)
  (refine br_t rfl ?_; conv => whnf)
  (refine rq_s (by (rfl)) ?_; conv => whnf)
  rotate_left
  (refine br_f rfl ?_; conv => whnf)
  iterate 3 (refine rq_s (by (rfl)) ?_; conv => whnf)
  (refine rq_s (by (((simp [maxBytes, AV.plain]; omega)))) ?_; conv => whnf)
  (refine app0_s ?_; conv => whnf)
  (refine rq_s (by ((simp only [decide_eq_true_eq, List.length_map, mkS_len]; done))) ?_; conv => whnf)
  (refine rq_s (by (rfl)) ?_; conv => whnf)
  (refine rows_s (by ((refine sub_all ?_; simp [List.length_map, mkS_len]; done))) ?_; conv => whnf)
  rotate_left
  · exact ⟨own_sh (by simpa using hz)⟩
  · exact ⟨Sh.flat_map (fun _ => rfl) _⟩
theorem c114 (xs : List Int) (h : xs.length ≤ 1048576) : Con Try.prog 114 [roI xs] (undefs [roI xs]) (ownI xs) := by
  refine Con.ev 8 T_ok mix Try.func114 rfl rfl rfl rfl [.tmp 2] rfl ?_
  conv => whnf
  (refine nil_s (fun hz => ?_) ?_ <;> conv => whnf)
  (refine br_t rfl ?_; conv => whnf)
  (refine rq_s (by (rfl)) ?_; conv => whnf)
  rotate_left
  (refine br_f rfl ?_; conv => whnf)
  iterate 3 (refine rq_s (by (rfl)) ?_; conv => whnf)
  (refine rq_s (by (((simp [maxBytes, AV.plain]; omega)))) ?_; conv => whnf)
  (refine app0_s ?_; conv => whnf)
  (refine rq_s (by ((simp only [decide_eq_true_eq, List.length_map, mkS_len]; done))) ?_; conv => whnf)
  (refine rq_s (by (rfl)) ?_; conv => whnf)
  (refine rows_s (by ((refine sub_all ?_; simp [List.length_map, mkS_len]; done))) ?_; conv => whnf)
  rotate_left
  · exact ⟨own_sh (by simpa using hz)⟩
  · exact ⟨Sh.flat_map (fun _ => rfl) _⟩
theorem c115 (xs : List Deal) (h : xs.length ≤ 1048576) : Con Try.prog 115 [roD xs] (undefs [roD xs]) (ownD xs) := by
  refine Con.ev 8 T_ok mix Try.func115 rfl rfl rfl rfl [.tmp 2] rfl ?_
  conv => whnf
  (refine nil_s (fun hz => ?_) ?_ <;> conv => whnf)
  (refine br_t rfl ?_; conv => whnf)
  (refine rq_s (by (rfl)) ?_; conv => whnf)
  rotate_left
  (refine br_f rfl ?_; conv => whnf)
  iterate 3 (refine rq_s (by (rfl)) ?_; conv => whnf)
  (refine rq_s (by (((simp [maxBytes, AV.plain]; omega)))) ?_; conv => whnf)
  (refine app0_s ?_; conv => whnf)
  (refine rq_s (by ((simp only [decide_eq_true_eq, List.length_map, mkS_len]; done))) ?_; conv => whnf)
  (refine rq_s (by (rfl)) ?_; conv => whnf)
  (refine rows_s (by ((refine sub_all ?_; simp [List.length_map, mkS_len]; done))) ?_; conv => whnf)
  rotate_left
  · exact ⟨own_sh (by simpa using hz)⟩
  · exact ⟨Sh.flat_map (fun _ => rfl) _⟩
theorem c60 (h : Hst) (hs : smallHost h) : Con Try.prog 60 [hstV h] (undefs [hstV h]) (hstO h) := by
  refine Con.ev 20 T_ok mix Try.func60 rfl rfl rfl rfl [.cell 2 27] rfl ?_
  conv => whnf
  (refine rq_s (by (rfl)) ?_; conv => whnf)
  (refine ChkS.mk (by kernel_rfl) ?_; conv => whnf)
  (refine rq_s (by (rfl)) ?_; conv => whnf)
  iterate 2 (refine ChkS.mk (by kernel_rfl) ?_; conv => whnf)
  (refine rq_s (by (rfl)) ?_; conv => whnf)
  (refine rows_s (by (rfl)) ?_; conv => whnf)
  (refine call_s (c113 _ hs.1) ?_; conv => whnf)
  (refine ChkS.mk (by kernel_rfl) ?_; conv => whnf)
  (refine rq_s (by (rfl)) ?_; conv => whnf)
  iterate 2 (refine ChkS.mk (by kernel_rfl) ?_; conv => whnf)
  (refine rq_s (by (rfl)) ?_; conv => whnf)
  (refine rows_s (by (rfl)) ?_; conv => whnf)
  (refine call_s (c114 _ hs.2.1) ?_; conv => whnf)
  (refine ChkS.mk (by kernel_rfl) ?_; conv => whnf)
  (refine rq_s (by (rfl)) ?_; conv => whnf)
  iterate 2 (refine ChkS.mk (by kernel_rfl) ?_; conv => whnf)
  (refine rq_s (by (rfl)) ?_; conv => whnf)
  (refine rows_s (by (rfl)) ?_; conv => whnf)
  (refine call_s (c114 _ hs.2.2.1) ?_; conv => whnf)
  (refine ChkS.mk (by kernel_rfl) ?_; conv => whnf)
  (refine rq_s (by (rfl)) ?_; conv => whnf)
  iterate 2 (refine ChkS.mk (by kernel_rfl) ?_; conv => whnf)
  (refine rq_s (by (rfl)) ?_; conv => whnf)
  (refine rows_s (by (rfl)) ?_; conv => whnf)
  (refine call_s (c115 _ hs.2.2.2) ?_; conv => whnf)
  (refine ChkS.mk (by kernel_rfl) ?_; conv => whnf)
  (refine rq_s (by (rfl)) ?_; conv => whnf)
  iterate 2 (refine ChkS.mk (by kernel_rfl) ?_; conv => whnf)
  (refine rq_s (by (rfl)) ?_; conv => whnf)
  iterate 2 (refine ChkS.mk (by kernel_rfl) ?_; conv => whnf)
  (refine rq_s (by (rfl)) ?_; conv => whnf)
  iterate 2 (refine ChkS.mk (by kernel_rfl) ?_; conv => whnf)
  (refine rq_s (by (rfl)) ?_; conv => whnf)
  iterate 2 (refine ChkS.mk (by kernel_rfl) ?_; conv => whnf)
  iterate 4 (refine fac_s (fun hf => ?_); conv => whnf)
  (refine rq_s (by (rfl)) ?_; conv => whnf)
  (refine rq_s (by ((simp only [decide_eq_true_eq, List.length_map, mkS_len]; done))) ?_; conv => whnf)
  (refine rq_s (by (rfl)) ?_; conv => whnf)
  (refine rq_s (by ((simp only [decide_eq_true_eq, List.length_map, mkS_len]; done))) ?_; conv => whnf)
  (refine rq_s (by (rfl)) ?_; conv => whnf)
  (refine rq_s (by ((simp only [decide_eq_true_eq, List.length_map, mkS_len]; done))) ?_; conv => whnf)
  iterate 2 (refine rq_s (by (rfl)) ?_; conv => whnf)
  (refine rq_s (by ((simp only [decide_eq_true_eq, List.length_map, mkS_len]; done))) ?_; conv => whnf)
  (refine rq_s (by (rfl)) ?_; conv => whnf)
  iterate 4 (refine rows_s (by ((refine sub_all ?_; simp [List.length_map, mkS_len]; done))) ?_; conv => whnf)
  (refine sh_s ?_; (rfl))
theorem c102 (d : Dat) (hs : smallData d) : Con Try.prog 102 [datV d] (undefs [datV d]) (datO d) := by
  refine Con.ev 16 T_ok mix Try.func102 rfl rfl rfl rfl [.cell 2 30] rfl ?_
  conv => whnf
  (refine rq_s (by (rfl)) ?_; conv => whnf)
  (refine ChkS.mk (by kernel_rfl) ?_; conv => whnf)
  (refine rq_s (by (rfl)) ?_; conv => whnf)
  iterate 2 (refine ChkS.mk (by kernel_rfl) ?_; conv => whnf)
  (refine rq_s (by (rfl)) ?_; conv => whnf)
  (refine rows_s (by (rfl)) ?_; conv => whnf)
  (refine call_s (c114 _ hs.1) ?_; conv => whnf)
  (refine ChkS.mk (by kernel_rfl) ?_; conv => whnf)
  (refine rq_s (by (rfl)) ?_; conv => whnf)
  iterate 2 (refine ChkS.mk (by kernel_rfl) ?_; conv => whnf)
  (refine rq_s (by (rfl)) ?_; conv => whnf)
  (refine rows_s (by (rfl)) ?_; conv => whnf)
  (refine call_s (c114 _ hs.2.1) ?_; conv => whnf)
  (refine ChkS.mk (by kernel_rfl) ?_; conv => whnf)
  (refine rq_s (by (rfl)) ?_; conv => whnf)
  iterate 2 (refine ChkS.mk (by kernel_rfl) ?_; conv => whnf)
  (refine rq_s (by (rfl)) ?_; conv => whnf)
  (refine rows_s (by (rfl)) ?_; conv => whnf)
  (refine call_s (c114 _ hs.2.2.1) ?_; conv => whnf)
  (refine ChkS.mk (by kernel_rfl) ?_; conv => whnf)
  (refine rq_s (by (rfl)) ?_; conv => whnf)
  iterate 2 (refine ChkS.mk (by kernel_rfl) ?_; conv => whnf)
  (refine rq_s (by (rfl)) ?_; conv => whnf)
  iterate 2 (refine ChkS.mk (by kernel_rfl) ?_; conv => whnf)
  (refine rq_s (by (rfl)) ?_; conv => whnf)
  iterate 2 (refine ChkS.mk (by kernel_rfl) ?_; conv => whnf)
  iterate 3 (refine fac_s (fun hf => ?_); conv => whnf)
  (refine rq_s (by (rfl)) ?_; conv => whnf)
  (refine rq_s (by ((simp only [decide_eq_true_eq, List.length_map, mkS_len]; done))) ?_; conv => whnf)
  (refine rq_s (by (rfl)) ?_; conv => whnf)
  (refine rq_s (by ((simp only [decide_eq_true_eq, List.length_map, mkS_len]; done))) ?_; conv => whnf)
  (refine rq_s (by (rfl)) ?_; conv => whnf)
  (refine rq_s (by ((simp only [decide_eq_true_eq, List.length_map, mkS_len]; done))) ?_; conv => whnf)
  iterate 4 (refine rq_s (by (rfl)) ?_; conv => whnf)
  iterate 3 (refine rows_s (by ((refine sub_all ?_; simp [List.length_map, mkS_len]; done))) ?_; conv => whnf)
  (refine sh_s ?_; (rfl))
theorem c56 (h : Hst) (hs : smallHost h) : Con Try.prog 56 [hstV h] (undefs [hstV h]) (hstO h) := by
  obtain ⟨h1, h2, h3, h4⟩ := hs
  refine Con.ev 24 T_ok mix Try.func56 rfl rfl rfl rfl [.cell 2 27] rfl ?_
  conv => whnf
  iterate 5 (refine rq_s (by (rfl)) ?_; conv => whnf)
  (refine rq_s (by (((simp [maxBytes, AV.plain]; omega)))) ?_; conv => whnf)
  (refine app0_s ?_; conv => whnf)
  iterate 5 (refine rq_s (by (rfl)) ?_; conv => whnf)
  (refine rq_s (by (((simp [maxBytes, AV.plain]; omega)))) ?_; conv => whnf)
  (refine app0_s ?_; conv => whnf)
  iterate 5 (refine rq_s (by (rfl)) ?_; conv => whnf)
  (refine rq_s (by (((simp [maxBytes, AV.plain]; omega)))) ?_; conv => whnf)
  (refine app0_s ?_; conv => whnf)
  iterate 5 (refine rq_s (by (rfl)) ?_; conv => whnf)
  (refine rq_s (by (((simp [maxBytes, AV.plain]; omega)))) ?_; conv => whnf)
  (refine app0_s ?_; conv => whnf)
  iterate 2 (refine rq_s (by (rfl)) ?_; conv => whnf)
  (refine rq_s (by ((simp only [decide_eq_true_eq, List.length_map, mkS_len]; done))) ?_; conv => whnf)
  (refine rq_s (by (rfl)) ?_; conv => whnf)
  (refine rq_s (by ((simp only [decide_eq_true_eq, List.length_map, mkS_len]; done))) ?_; conv => whnf)
  (refine rq_s (by (rfl)) ?_; conv => whnf)
  (refine rq_s (by ((simp only [decide_eq_true_eq, List.length_map, mkS_len]; done))) ?_; conv => whnf)
  iterate 2 (refine rq_s (by (rfl)) ?_; conv => whnf)
  (refine rq_s (by ((simp only [decide_eq_true_eq, List.length_map, mkS_len]; done))) ?_; conv => whnf)
  (refine rq_s (by (rfl)) ?_; conv => whnf)
  iterate 4 (refine rows_s (by ((refine sub_all ?_; simp [List.length_map, mkS_len]; done))) ?_; conv => whnf)
  rotate_left
  exact ⟨Sh.agg ⟨Sh.flat_map (fun _ => rfl) _, Sh.flat_map (fun _ => rfl) _, Sh.flat_map (fun _ => rfl) _, Sh.refl _, Sh.flat_map (fun _ => rfl) _, trivial⟩⟩
theorem c57 (d : Dat) (hs : smallData d) : Con Try.prog 57 [datV d] (undefs [datV d]) (datO d) := by
  obtain ⟨h1, h2, h3, h4⟩ := hs
  refine Con.ev 19 T_ok mix Try.func57 rfl rfl rfl rfl [.cell 2 30] rfl ?_
  conv => whnf
  iterate 5 (refine rq_s (by (rfl)) ?_; conv => whnf)
  (refine rq_s (by (((simp [maxBytes, AV.plain]; omega)))) ?_; conv => whnf)
  (refine app0_s ?_; conv => whnf)
  iterate 5 (refine rq_s (by (rfl)) ?_; conv => whnf)
  (refine rq_s (by (((simp [maxBytes, AV.plain]; omega)))) ?_; conv => whnf)
  (refine app0_s ?_; conv => whnf)
  iterate 5 (refine rq_s (by (rfl)) ?_; conv => whnf)
  (refine rq_s (by (((simp [maxBytes, AV.plain]; omega)))) ?_; conv => whnf)
  (refine app0_s ?_; conv => whnf)
  iterate 2 (refine rq_s (by (rfl)) ?_; conv => whnf)
  (refine rq_s (by ((simp only [decide_eq_true_eq, List.length_map, mkS_len]; done))) ?_; conv => whnf)
  (refine rq_s (by (rfl)) ?_; conv => whnf)
  (refine rq_s (by ((simp only [decide_eq_true_eq, List.length_map, mkS_len]; done))) ?_; conv => whnf)
  (refine rq_s (by (rfl)) ?_; conv => whnf)
  (refine rq_s (by ((simp only [decide_eq_true_eq, List.length_map, mkS_len]; done))) ?_; conv => whnf)
  iterate 4 (refine rq_s (by (rfl)) ?_; conv => whnf)
  iterate 3 (refine rows_s (by ((refine sub_all ?_; simp [List.length_map, mkS_len]; done))) ?_; conv => whnf)
  rotate_left
  exact ⟨Sh.agg ⟨Sh.flat_map (fun _ => rfl) _, Sh.flat_map (fun _ => rfl) _, Sh.flat_map (fun _ => rfl) _, Sh.refl _, Sh.refl _, Sh.refl _, trivial⟩⟩
