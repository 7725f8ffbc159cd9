import Derived.Test.YtdbjklhadnnbdaaGtV
import Derived.Test.YtdbjklhadnnbdaaAbsd
/- Cells, ranges, valid hosts and data, copies of them: contracts. -/
set_option linter.unusedVariables false
set_option linter.unusedSimpArgs false
set_option maxRecDepth 100000
open Go Go.Abs Go.Proofs V1
namespace H1

theorem c68 (n lo hi : Int) : Con Try.prog 68 [.int .i64 n, .int .i64 lo, .int .i64 hi] (undefs [.int .i64 n, .int .i64 lo, .int .i64 hi]) (.bool (inR n lo hi)) := by
  refine Con.ev 15 T_ok mix Try.func68 rfl rfl rfl rfl [.tmp 6] rfl ?_
  conv => whnf
  (refine br_s (fun hb => ?_) (fun hb => ?_) <;> (try simp only [beq_iff_eq, bne_iff_ne, ne_eq, decide_eq_true_eq, decide_eq_false_iff_not, Int.not_lt, Int.not_le, Bool.false_eq_true, if_false, if_true, beq_eq_false_iff_ne, bne_eq_false_iff_eq, Bool.not_eq_true', Bool.not_eq_false', Int.ofNat_lt, Int.ofNat_le, Int.ofNat_inj, List.length_map, List.length_nil, List.length_cons] at hb) <;> conv => whnf)
  iterate 2 (refine br_t rfl ?_; conv => whnf)
  (refine rq_s (by (rfl)) ?_; conv => whnf)
  (focus (refine sh_s ?_; (first | (simp_all [inR]; done) | (simp_all [inR]; omega))))
  iterate 3 (refine br_f rfl ?_; conv => whnf)
  (refine rq_s (by (rfl)) ?_; conv => whnf)
  (focus (refine sh_s ?_; (first | (simp_all [inR]; done) | (simp_all [inR]; omega))))
theorem c54 (n lo hi : Int) : Con Try.prog 54 [.int .i64 n, .int .i64 lo, .int .i64 hi] (undefs [.int .i64 n, .int .i64 lo, .int .i64 hi]) (.bool (inR n lo hi)) := by
  refine Con.ev 15 T_ok mix Try.func54 rfl rfl rfl rfl [.tmp 6] rfl ?_
  conv => whnf
  (refine br_s (fun hb => ?_) (fun hb => ?_) <;> (try simp only [beq_iff_eq, bne_iff_ne, ne_eq, decide_eq_true_eq, decide_eq_false_iff_not, Int.not_lt, Int.not_le, Bool.false_eq_true, if_false, if_true, beq_eq_false_iff_ne, bne_eq_false_iff_eq, Bool.not_eq_true', Bool.not_eq_false', Int.ofNat_lt, Int.ofNat_le, Int.ofNat_inj, List.length_map, List.length_nil, List.length_cons] at hb) <;> conv => whnf)
  iterate 2 (refine br_t rfl ?_; conv => whnf)
  (refine rq_s (by (rfl)) ?_; conv => whnf)
  (focus (refine sh_s ?_; (first | (simp_all [inR]; done) | (simp_all [inR]; omega))))
  iterate 3 (refine br_f rfl ?_; conv => whnf)
  (refine rq_s (by (rfl)) ?_; conv => whnf)
  (focus (refine sh_s ?_; (first | (simp_all [inR]; done) | (simp_all [inR]; omega))))
theorem c50 (n : Int) : Con Try.prog 50 [.int .i64 n] (undefs [.int .i64 n]) (.bool (inR n 0 3)) := by
  refine Con.ev 5 T_ok mix Try.func50 rfl rfl rfl rfl [.tmp 2] rfl ?_
  conv => whnf
  iterate 3 (refine rq_s (by (rfl)) ?_; conv => whnf)
  (refine lend_s ?_; conv => whnf)
  (refine call_s (c68 ..) ?_; conv => whnf)
  (refine rq_s (by (rfl)) ?_; conv => whnf)
  (refine sh_s ?_; (rfl))
theorem c101 (n : Int) : Con Try.prog 101 [.int .i64 n] (undefs [.int .i64 n]) (.bool (inR n 2 16)) := by
  refine Con.ev 5 T_ok mix Try.func101 rfl rfl rfl rfl [.tmp 2] rfl ?_
  conv => whnf
  iterate 3 (refine rq_s (by (rfl)) ?_; conv => whnf)
  (refine lend_s ?_; conv => whnf)
  (refine call_s (c68 ..) ?_; conv => whnf)
  (refine rq_s (by (rfl)) ?_; conv => whnf)
  (refine sh_s ?_; (rfl))
theorem c106 (n : Int) : Con Try.prog 106 [.int .i64 n] (undefs [.int .i64 n]) (.bool (inR n 2 16)) := by
  refine Con.ev 5 T_ok mix Try.func106 rfl rfl rfl rfl [.tmp 2] rfl ?_
  conv => whnf
  iterate 3 (refine rq_s (by (rfl)) ?_; conv => whnf)
  (refine lend_s ?_; conv => whnf)
  (refine call_s (c54 ..) ?_; conv => whnf)
  (refine rq_s (by (rfl)) ?_; conv => whnf)
  (refine sh_s ?_; (rfl))
theorem c142 (n : Int) : Con Try.prog 142 [.int .i64 n] (undefs [.int .i64 n]) (.bool (cell n)) := by
  refine Con.ev 5 T_ok mix Try.func142 rfl rfl rfl rfl [.tmp 2] rfl ?_
  conv => whnf
  iterate 3 (refine rq_s (by (rfl)) ?_; conv => whnf)
  (refine lend_s ?_; conv => whnf)
  (refine call_s (c54 ..) ?_; conv => whnf)
  (refine rq_s (by (rfl)) ?_; conv => whnf)
  (refine sh_s ?_; (rfl))
theorem c118 (n : Int) : Con Try.prog 118 [.int .i64 n] (undefs [.int .i64 n]) (.int .i64 (IntKind.i64.wrap (IntKind.i32.wrap n))) := by
  refine Con.ev 6 T_ok mix Try.func118 rfl rfl rfl rfl [.tmp 2] rfl ?_
  conv => whnf
  (refine rq_s (by (rfl)) ?_; conv => whnf)
  (refine sh_s ?_; (rfl))
theorem c62 (n : Int) : Con Try.prog 62 [.int .i64 n] (undefs [.int .i64 n]) (.bool (cell n)) := by
  refine Con.evF 7 T_ok mix Try.func62 rfl rfl rfl rfl [.tmp 2] rfl fun ⟨h, _⟩ => ?_
  have h := facts_int h
  conv => whnf
  (refine rq_s (by (rfl)) ?_; conv => whnf)
  (refine lend_s ?_; conv => whnf)
  (refine call_s (c118 ..) ?_; conv => whnf)
  (refine fac_s (fun hf => ?_); conv => whnf)
  (refine rq_s (by (rfl)) ?_; conv => whnf)
  (refine sh_s ?_; ((rw [← wrap_cell h.1 h.2])))
theorem c105 (d : Deal) : Con Try.prog 105 [dealV d] (undefs [dealV d]) (.bool (dealOK d)) := by
  refine Con.ev 21 T_ok mix Try.func105 rfl rfl rfl rfl [.tmp 2] rfl ?_
  conv => whnf
  iterate 5 (refine rq_s (by (rfl)) ?_; conv => whnf)
  (refine lend_s ?_; conv => whnf)
  (refine call_s (c54 ..) ?_; conv => whnf)
  (refine br_s (fun hb => ?_) (fun hb => ?_) <;> (try simp only [beq_iff_eq, bne_iff_ne, ne_eq, decide_eq_true_eq, decide_eq_false_iff_not, Int.not_lt, Int.not_le, Bool.false_eq_true, if_false, if_true, beq_eq_false_iff_ne, bne_eq_false_iff_eq, Bool.not_eq_true', Bool.not_eq_false', Int.ofNat_lt, Int.ofNat_le, Int.ofNat_inj, List.length_map, List.length_nil, List.length_cons] at hb) <;> conv => whnf)
  (refine rq_s (by (rfl)) ?_; conv => whnf)
  iterate 2 (refine br_t rfl ?_; conv => whnf)
  (refine rq_s (by (rfl)) ?_; conv => whnf)
  (refine lend_s ?_; conv => whnf)
  (refine call_s (c142 ..) ?_; conv => whnf)
  (refine br_s (fun hb => ?_) (fun hb => ?_) <;> (try simp only [beq_iff_eq, bne_iff_ne, ne_eq, decide_eq_true_eq, decide_eq_false_iff_not, Int.not_lt, Int.not_le, Bool.false_eq_true, if_false, if_true, beq_eq_false_iff_ne, bne_eq_false_iff_eq, Bool.not_eq_true', Bool.not_eq_false', Int.ofNat_lt, Int.ofNat_le, Int.ofNat_inj, List.length_map, List.length_nil, List.length_cons] at hb) <;> conv => whnf)
  (refine rq_s (by (rfl)) ?_; conv => whnf)
  iterate 2 (refine br_t rfl ?_; conv => whnf)
  (refine rq_s (by (rfl)) ?_; conv => whnf)
  (refine lend_s ?_; conv => whnf)
  (refine call_s (c142 ..) ?_; conv => whnf)
  (refine br_s (fun hb => ?_) (fun hb => ?_) <;> (try simp only [beq_iff_eq, bne_iff_ne, ne_eq, decide_eq_true_eq, decide_eq_false_iff_not, Int.not_lt, Int.not_le, Bool.false_eq_true, if_false, if_true, beq_eq_false_iff_ne, bne_eq_false_iff_eq, Bool.not_eq_true', Bool.not_eq_false', Int.ofNat_lt, Int.ofNat_le, Int.ofNat_inj, List.length_map, List.length_nil, List.length_cons] at hb) <;> conv => whnf)
  (refine rq_s (by (rfl)) ?_; conv => whnf)
  iterate 2 (refine br_t rfl ?_; conv => whnf)
  (refine rq_s (by (rfl)) ?_; conv => whnf)
  (refine lend_s ?_; conv => whnf)
  (refine call_s (c142 ..) ?_; conv => whnf)
  (refine rq_s (by (rfl)) ?_; conv => whnf)
  (focus (refine sh_s ?_; (first | (simp_all [dealOK]; done) | (simp_all [dealOK]; rfl))))
  iterate 3 (refine br_f rfl ?_; conv => whnf)
  (refine rq_s (by (rfl)) ?_; conv => whnf)
  (focus (refine sh_s ?_; (first | (simp_all [dealOK]; done) | (simp_all [dealOK]; rfl))))
  iterate 7 (refine br_f rfl ?_; conv => whnf)
  (refine rq_s (by (rfl)) ?_; conv => whnf)
  (focus (refine sh_s ?_; (first | (simp_all [dealOK]; done) | (simp_all [dealOK]; rfl))))
  iterate 11 (refine br_f rfl ?_; conv => whnf)
  (refine rq_s (by (rfl)) ?_; conv => whnf)
  (focus (refine sh_s ?_; (first | (simp_all [dealOK]; done) | (simp_all [dealOK]; rfl))))
theorem c100 (d : Deal) : Con Try.prog 100 [dealV d] (undefs [dealV d]) (.bool (dealOK d)) := by
  refine Con.ev 21 T_ok mix Try.func100 rfl rfl rfl rfl [.tmp 2] rfl ?_
  conv => whnf
  iterate 3 (refine rq_s (by (rfl)) ?_; conv => whnf)
  (refine lend_s ?_; conv => whnf)
  (refine call_s (c50 ..) ?_; conv => whnf)
  (refine br_s (fun hb => ?_) (fun hb => ?_) <;> (try simp only [beq_iff_eq, bne_iff_ne, ne_eq, decide_eq_true_eq, decide_eq_false_iff_not, Int.not_lt, Int.not_le, Bool.false_eq_true, if_false, if_true, beq_eq_false_iff_ne, bne_eq_false_iff_eq, Bool.not_eq_true', Bool.not_eq_false', Int.ofNat_lt, Int.ofNat_le, Int.ofNat_inj, List.length_map, List.length_nil, List.length_cons] at hb) <;> conv => whnf)
  (refine rq_s (by (rfl)) ?_; conv => whnf)
  iterate 2 (refine br_t rfl ?_; conv => whnf)
  (refine rq_s (by (rfl)) ?_; conv => whnf)
  (refine lend_s ?_; conv => whnf)
  (refine call_s (c62 ..) ?_; conv => whnf)
  (refine br_s (fun hb => ?_) (fun hb => ?_) <;> (try simp only [beq_iff_eq, bne_iff_ne, ne_eq, decide_eq_true_eq, decide_eq_false_iff_not, Int.not_lt, Int.not_le, Bool.false_eq_true, if_false, if_true, beq_eq_false_iff_ne, bne_eq_false_iff_eq, Bool.not_eq_true', Bool.not_eq_false', Int.ofNat_lt, Int.ofNat_le, Int.ofNat_inj, List.length_map, List.length_nil, List.length_cons] at hb) <;> conv => whnf)
  (refine rq_s (by (rfl)) ?_; conv => whnf)
  iterate 2 (refine br_t rfl ?_; conv => whnf)
  (refine rq_s (by (rfl)) ?_; conv => whnf)
  (refine lend_s ?_; conv => whnf)
  (refine call_s (c62 ..) ?_; conv => whnf)
  (refine br_s (fun hb => ?_) (fun hb => ?_) <;> (try simp only [beq_iff_eq, bne_iff_ne, ne_eq, decide_eq_true_eq, decide_eq_false_iff_not, Int.not_lt, Int.not_le, Bool.false_eq_true, if_false, if_true, beq_eq_false_iff_ne, bne_eq_false_iff_eq, Bool.not_eq_true', Bool.not_eq_false', Int.ofNat_lt, Int.ofNat_le, Int.ofNat_inj, List.length_map, List.length_nil, List.length_cons] at hb) <;> conv => whnf)
  (refine rq_s (by (rfl)) ?_; conv => whnf)
  iterate 2 (refine br_t rfl ?_; conv => whnf)
  (refine rq_s (by (rfl)) ?_; conv => whnf)
  (refine lend_s ?_; conv => whnf)
  (refine call_s (c62 ..) ?_; conv => whnf)
  (refine rq_s (by (rfl)) ?_; conv => whnf)
  (focus (refine sh_s ?_; (first | (simp_all [dealOK]; done) | (simp_all [dealOK]; rfl))))
  iterate 3 (refine br_f rfl ?_; conv => whnf)
  (refine rq_s (by (rfl)) ?_; conv => whnf)
  (focus (refine sh_s ?_; (first | (simp_all [dealOK]; done) | (simp_all [dealOK]; rfl))))
  iterate 7 (refine br_f rfl ?_; conv => whnf)
  (refine rq_s (by (rfl)) ?_; conv => whnf)
  (focus (refine sh_s ?_; (first | (simp_all [dealOK]; done) | (simp_all [dealOK]; rfl))))
  iterate 11 (refine br_f rfl ?_; conv => whnf)
  (refine rq_s (by (rfl)) ?_; conv => whnf)
  (focus (refine sh_s ?_; (first | (simp_all [dealOK]; done) | (simp_all [dealOK]; rfl))))
theorem c99 (d : Deal) : Con Try.prog 99 [dealV d] (undefs [dealV d]) (.bool (badDeal d)) := by
  refine Con.ev 6 T_ok mix Try.func99 rfl rfl rfl rfl [.tmp 2] rfl ?_
  conv => whnf
  iterate 5 (refine rq_s (by (rfl)) ?_; conv => whnf)
  (refine lend_s ?_; conv => whnf)
  (refine call_s (c100 ..) ?_; conv => whnf)
  (refine rq_s (by (rfl)) ?_; conv => whnf)
  (refine sh_s ?_; (rfl))
theorem c138 (n : Int) : Con Try.prog 138 [.int .i64 n] (undefs [.int .i64 n]) (.bool (badCell n)) := by
  refine Con.ev 6 T_ok mix Try.func138 rfl rfl rfl rfl [.tmp 2] rfl ?_
  conv => whnf
  (refine rq_s (by (rfl)) ?_; conv => whnf)
  (refine lend_s ?_; conv => whnf)
  (refine call_s (c62 ..) ?_; conv => whnf)
  (refine rq_s (by (rfl)) ?_; conv => whnf)
  (refine sh_s ?_; (rfl))

theorem c139 (rs : List (Deal)) : Con Try.prog 139 [roD rs, .fn 99 []] (undefs [roD rs, .fn 99 []]) (.int .i64 (findI badDeal rs)) := by
  refine Con.evF 19 T_ok mix Try.func139 rfl rfl rfl rfl [.tmp 4] rfl fun ⟨hx, _⟩ => ?_
  have hx := facts_len hx
  conv => whnf
  rotate_left
  refine LoopG.rounds (α := Nat) T_ok mix [0, 1, 7, 8] [] (fun i => [(0, roD rs), (1, .fn 99 []), (7, .int .i64 rs.length), (8, .int .i64 i)]) (fun _ => []) (fun i => i ≤ rs.length ∧ ∀ j, j < i → badDeal (rs.getD j default) = false) (fun i => rs.length - i) ?_ ?_
  · conv => whnf
    exact head_s 0 ⟨by simp, fun j hj => by omega⟩ (by simp [roD]) rfl
  · rintro i ⟨h1, h2⟩ - -
    conv => whnf
    (refine br_s (fun hb => ?_) (fun hb => ?_) <;> (try simp only [beq_iff_eq, bne_iff_ne, ne_eq, decide_eq_true_eq, decide_eq_false_iff_not, Int.not_lt, Int.not_le, Bool.false_eq_true, if_false, if_true, beq_eq_false_iff_ne, bne_eq_false_iff_eq, Bool.not_eq_true', Bool.not_eq_false', Int.ofNat_lt, Int.ofNat_le, Int.ofNat_inj, List.length_map, List.length_nil, List.length_cons] at hb) <;> conv => whnf)
    (refine rq_s (by (rfl)) ?_; conv => whnf)
    (refine rq_s (by ((refine and_s rfl ?_; simp only [decide_eq_true_eq, List.length_map]; omega))) ?_; conv => whnf)
    (refine row_s (by ((try simp only [Int.toNat_natCast]); exact row_map dealR _ _ _ default (by first | omega | (simp; omega)))) ?_; conv => whnf)
    iterate 4 (refine rq_s (by (rfl)) ?_; conv => whnf)
    (refine lend_s ?_; conv => whnf)
    (refine call_s (c99 ..) ?_; conv => whnf)
    (refine br_s (fun hb => ?_) (fun hb => ?_) <;> (try simp only [beq_iff_eq, bne_iff_ne, ne_eq, decide_eq_true_eq, decide_eq_false_iff_not, Int.not_lt, Int.not_le, Bool.false_eq_true, if_false, if_true, beq_eq_false_iff_ne, bne_eq_false_iff_eq, Bool.not_eq_true', Bool.not_eq_false', Int.ofNat_lt, Int.ofNat_le, Int.ofNat_inj, List.length_map, List.length_nil, List.length_cons] at hb) <;> conv => whnf)
    (refine rq_s (by (rfl)) ?_; conv => whnf)
    iterate 2 (rotate_left)
    (refine rq_s (by (rfl)) ?_; conv => whnf)
    rotate_left
    · refine sh_s ?_
      rw [findI_hit default (by assumption) hb h2]
    · refine head_s (i + 1) ⟨⟨by omega, fun j hj => ?_⟩, by omega⟩ (by rw [wrap64 (by omega) (by omega)]; rfl) rfl
      by_cases hji : j = i
      · subst hji; exact hb
      · exact h2 j (by omega)
    · refine sh_s ?_
      rw [findI_none default fun j hj => h2 j (by omega)]
theorem c98 (rs : List (Deal)) : Con Try.prog 98 [roD rs, .fn 99 []] (undefs [roD rs, .fn 99 []]) (.bool (rs.any badDeal)) := by
  refine Con.ev 9 T_ok mix Try.func98 rfl rfl rfl rfl [.tmp 4] rfl ?_
  conv => whnf
  iterate 2 (refine rq_s (by (rfl)) ?_; conv => whnf)
  (refine lend_s ?_; conv => whnf)
  (refine rows_s (by (rfl)) ?_; conv => whnf)
  (refine call_s (c139 ..) ?_; conv => whnf)
  (refine fac_s (fun hf => ?_); conv => whnf)
  (refine rq_s (by (rfl)) ?_; conv => whnf)
  (refine sh_s ?_; ((rw [← findI_any])))

theorem c155 (rs : List (Int)) : Con Try.prog 155 [roI rs, .fn 138 []] (undefs [roI rs, .fn 138 []]) (.int .i64 (findI badCell rs)) := by
  refine Con.evF 19 T_ok mix Try.func155 rfl rfl rfl rfl [.tmp 4] rfl fun ⟨hx, _⟩ => ?_
  have hx := facts_len hx
  conv => whnf
  rotate_left
  refine LoopG.rounds (α := Nat) T_ok mix [0, 1, 7, 8] [] (fun i => [(0, roI rs), (1, .fn 138 []), (7, .int .i64 rs.length), (8, .int .i64 i)]) (fun _ => []) (fun i => i ≤ rs.length ∧ ∀ j, j < i → badCell (rs.getD j default) = false) (fun i => rs.length - i) ?_ ?_
  · conv => whnf
    exact head_s 0 ⟨by simp, fun j hj => by omega⟩ (by simp [roI]) rfl
  · rintro i ⟨h1, h2⟩ - -
    conv => whnf
    (refine br_s (fun hb => ?_) (fun hb => ?_) <;> (try simp only [beq_iff_eq, bne_iff_ne, ne_eq, decide_eq_true_eq, decide_eq_false_iff_not, Int.not_lt, Int.not_le, Bool.false_eq_true, if_false, if_true, beq_eq_false_iff_ne, bne_eq_false_iff_eq, Bool.not_eq_true', Bool.not_eq_false', Int.ofNat_lt, Int.ofNat_le, Int.ofNat_inj, List.length_map, List.length_nil, List.length_cons] at hb) <;> conv => whnf)
    (refine rq_s (by (rfl)) ?_; conv => whnf)
    (refine rq_s (by ((refine and_s rfl ?_; simp only [decide_eq_true_eq, List.length_map]; omega))) ?_; conv => whnf)
    (refine row_s (by ((try simp only [Int.toNat_natCast]); exact row_map intR _ _ _ default (by first | omega | (simp; omega)))) ?_; conv => whnf)
    (refine rq_s (by (rfl)) ?_; conv => whnf)
    (refine lend_s ?_; conv => whnf)
    (refine call_s (c138 ..) ?_; conv => whnf)
    (refine br_s (fun hb => ?_) (fun hb => ?_) <;> (try simp only [beq_iff_eq, bne_iff_ne, ne_eq, decide_eq_true_eq, decide_eq_false_iff_not, Int.not_lt, Int.not_le, Bool.false_eq_true, if_false, if_true, beq_eq_false_iff_ne, bne_eq_false_iff_eq, Bool.not_eq_true', Bool.not_eq_false', Int.ofNat_lt, Int.ofNat_le, Int.ofNat_inj, List.length_map, List.length_nil, List.length_cons] at hb) <;> conv => whnf)
    (refine rq_s (by (rfl)) ?_; conv => whnf)
    iterate 2 (rotate_left)
    (refine rq_s (by (rfl)) ?_; conv => whnf)
    rotate_left
    · refine sh_s ?_
      rw [findI_hit default (by assumption) hb h2]
    · refine head_s (i + 1) ⟨⟨by omega, fun j hj => ?_⟩, by omega⟩ (by rw [wrap64 (by omega) (by omega)]; rfl) rfl
      by_cases hji : j = i
      · subst hji; exact hb
      · exact h2 j (by omega)
    · refine sh_s ?_
      rw [findI_none default fun j hj => h2 j (by omega)]
theorem c137 (rs : List (Int)) : Con Try.prog 137 [roI rs, .fn 138 []] (undefs [roI rs, .fn 138 []]) (.bool (rs.any badCell)) := by
  refine Con.ev 9 T_ok mix Try.func137 rfl rfl rfl rfl [.tmp 4] rfl ?_
  conv => whnf
  iterate 2 (refine rq_s (by (rfl)) ?_; conv => whnf)
  (refine lend_s ?_; conv => whnf)
  (refine rows_s (by (rfl)) ?_; conv => whnf)
  (refine call_s (c155 ..) ?_; conv => whnf)
  (refine fac_s (fun hf => ?_); conv => whnf)
  (refine rq_s (by (rfl)) ?_; conv => whnf)
  (refine sh_s ?_; ((rw [← findI_any])))
theorem cellsBad (xs : List Int) : Con Try.prog 137 [roI xs, .fn 138 []] (undefs [roI xs, .fn 138 []]) (.bool (!cellsOK xs)) := cells_any xs ▸ c137 xs
theorem dealsBad (xs : List Deal) : Con Try.prog 98 [roD xs, .fn 99 []] (undefs [roD xs, .fn 99 []]) (.bool (!dealsOK xs)) := deals_any xs ▸ c98 xs
theorem c97 (xs : List Int) (n : Int) : Con Try.prog 97 [roI xs, .int .i64 n] (undefs [roI xs, .int .i64 n]) (.bool (decide ((xs.length : Int) ≤ n) && cellsOK xs)) := by
  refine Con.ev 14 T_ok mix Try.func97 rfl rfl rfl rfl [.tmp 4] rfl ?_
  conv => whnf
  (refine br_s (fun hb => ?_) (fun hb => ?_) <;> (try simp only [beq_iff_eq, bne_iff_ne, ne_eq, decide_eq_true_eq, decide_eq_false_iff_not, Int.not_lt, Int.not_le, Bool.false_eq_true, if_false, if_true, beq_eq_false_iff_ne, bne_eq_false_iff_eq, Bool.not_eq_true', Bool.not_eq_false', Int.ofNat_lt, Int.ofNat_le, Int.ofNat_inj, List.length_map, List.length_nil, List.length_cons] at hb) <;> conv => whnf)
  (refine br_t rfl ?_; conv => whnf)
  iterate 2 (refine rq_s (by (rfl)) ?_; conv => whnf)
  (refine lend_s ?_; conv => whnf)
  (refine rows_s (by (rfl)) ?_; conv => whnf)
  (refine call_s (cellsBad ..) ?_; conv => whnf)
  (refine br_t rfl ?_; conv => whnf)
  (refine rq_s (by (rfl)) ?_; conv => whnf)
  (focus (refine sh_s ?_; (first | (simp_all; done) | (simp_all; omega))))
  iterate 3 (refine br_f rfl ?_; conv => whnf)
  (refine rq_s (by (rfl)) ?_; conv => whnf)
  (focus (refine sh_s ?_; (first | (simp_all; done) | (simp_all; omega))))
theorem c96 (xs : List Int) : Con Try.prog 96 [roI xs] (undefs [roI xs]) (.bool (decide (xs.length = 8) && cellsOK xs)) := by
  refine Con.ev 10 T_ok mix Try.func96 rfl rfl rfl rfl [.tmp 2] rfl ?_
  conv => whnf
  (refine br_s (fun hb => ?_) (fun hb => ?_) <;> (try simp only [beq_iff_eq, bne_iff_ne, ne_eq, decide_eq_true_eq, decide_eq_false_iff_not, Int.not_lt, Int.not_le, Bool.false_eq_true, if_false, if_true, beq_eq_false_iff_ne, bne_eq_false_iff_eq, Bool.not_eq_true', Bool.not_eq_false', Int.ofNat_lt, Int.ofNat_le, Int.ofNat_inj, List.length_map, List.length_nil, List.length_cons] at hb) <;> conv => whnf)
  (refine br_t rfl ?_; conv => whnf)
  iterate 2 (refine rq_s (by (rfl)) ?_; conv => whnf)
  (refine lend_s ?_; conv => whnf)
  (refine rows_s (by (rfl)) ?_; conv => whnf)
  (refine call_s (c97 ..) ?_; conv => whnf)
  (refine rq_s (by (rfl)) ?_; conv => whnf)
  (focus (refine sh_s ?_; (first | (simp_all; done) | (simp_all; omega))))
  iterate 2 (refine br_f rfl ?_; conv => whnf)
  (refine rq_s (by (rfl)) ?_; conv => whnf)
  (focus (refine sh_s ?_; (first | (simp_all; done) | (simp_all; omega))))
theorem c104 (xs : List Int) : Con Try.prog 104 [roI xs] (undefs [roI xs]) (.bool (cellsOK xs)) := by
  refine Con.evF 16 T_ok mix Try.func104 rfl rfl rfl rfl [.tmp 2] rfl fun ⟨hx, _⟩ => ?_
  have hx := facts_len hx
  conv => whnf
  rotate_left
  refine LoopG.rounds (α := Nat) T_ok mix [0, 3] [] (fun i => [(0, roI xs), (3, .int .i64 i)]) (fun _ => []) (fun i => i ≤ xs.length ∧ ∀ j, j < i → cell (xs.getD j default) = true) (fun i => xs.length - i) ?_ ?_
  · conv => whnf
    exact head_s 0 ⟨by simp, fun j hj => by omega⟩ (by first | rfl | simp [roI]) rfl
  · rintro i ⟨h1, h2⟩ - -
    conv => whnf
    (refine br_s (fun hb => ?_) (fun hb => ?_) <;> (try simp only [beq_iff_eq, bne_iff_ne, ne_eq, decide_eq_true_eq, decide_eq_false_iff_not, Int.not_lt, Int.not_le, Bool.false_eq_true, if_false, if_true, beq_eq_false_iff_ne, bne_eq_false_iff_eq, Bool.not_eq_true', Bool.not_eq_false', Int.ofNat_lt, Int.ofNat_le, Int.ofNat_inj, List.length_map, List.length_nil, List.length_cons] at hb) <;> conv => whnf)
    (refine rq_s (by (rfl)) ?_; conv => whnf)
    (refine rq_s (by ((refine and_s rfl ?_; simp only [decide_eq_true_eq, List.length_map]; omega))) ?_; conv => whnf)
    (refine row_s (by ((try simp only [Int.toNat_natCast]); exact row_map intR _ _ _ default (by first | omega | (simp; omega)))) ?_; conv => whnf)
    (refine rq_s (by (rfl)) ?_; conv => whnf)
    (refine lend_s ?_; conv => whnf)
    (refine call_s (c142 ..) ?_; conv => whnf)
    (refine br_s (fun hb => ?_) (fun hb => ?_) <;> (try simp only [beq_iff_eq, bne_iff_ne, ne_eq, decide_eq_true_eq, decide_eq_false_iff_not, Int.not_lt, Int.not_le, Bool.false_eq_true, if_false, if_true, beq_eq_false_iff_ne, bne_eq_false_iff_eq, Bool.not_eq_true', Bool.not_eq_false', Int.ofNat_lt, Int.ofNat_le, Int.ofNat_inj, List.length_map, List.length_nil, List.length_cons] at hb) <;> conv => whnf)
    (refine rq_s (by (rfl)) ?_; conv => whnf)
    iterate 2 (rotate_left)
    (refine rq_s (by (rfl)) ?_; conv => whnf)
    rotate_left
    · exact sh_s (by rw [cellsOK, all_bad (by assumption) hb])
    · refine head_s (i + 1) ⟨⟨by omega, fun j hj => ?_⟩, by omega⟩ (by rw [wrap64 (by omega) (by omega)]; rfl) rfl
      by_cases hji : j = i
      · subst hji; exact hb
      · exact h2 j (by omega)
    · exact sh_s (by rw [cellsOK, all_good fun j hj => h2 j (by omega)])
theorem c48 (h : Hst) : Con Try.prog 48 [hstV h] (undefs [hstV h]) (.bool (hostOK h)) := by
  have e : ((h.q.length : Int) ≤ 20) = (h.q.length ≤ 20) := propext ⟨fun _ => by omega, fun _ => by omega⟩
  refine Con.ev 34 T_ok mix Try.func48 rfl rfl rfl rfl [.tmp 2] rfl ?_
  conv => whnf
  iterate 2 (refine rq_s (by (rfl)) ?_; conv => whnf)
  (refine br_s (fun hb => ?_) (fun hb => ?_) <;> (try simp only [beq_iff_eq, bne_iff_ne, ne_eq, decide_eq_true_eq, decide_eq_false_iff_not, Int.not_lt, Int.not_le, Bool.false_eq_true, if_false, if_true, beq_eq_false_iff_ne, bne_eq_false_iff_eq, Bool.not_eq_true', Bool.not_eq_false', Int.ofNat_lt, Int.ofNat_le, Int.ofNat_inj, List.length_map, List.length_nil, List.length_cons] at hb) <;> conv => whnf)
  (refine rq_s (by (rfl)) ?_; conv => whnf)
  iterate 2 (refine br_t rfl ?_; conv => whnf)
  (refine rq_s (by (rfl)) ?_; conv => whnf)
  (refine lend_s ?_; conv => whnf)
  (refine rows_s (by (rfl)) ?_; conv => whnf)
  (refine call_s (c96 ..) ?_; conv => whnf)
  (refine br_s (fun hb => ?_) (fun hb => ?_) <;> (try simp only [beq_iff_eq, bne_iff_ne, ne_eq, decide_eq_true_eq, decide_eq_false_iff_not, Int.not_lt, Int.not_le, Bool.false_eq_true, if_false, if_true, beq_eq_false_iff_ne, bne_eq_false_iff_eq, Bool.not_eq_true', Bool.not_eq_false', Int.ofNat_lt, Int.ofNat_le, Int.ofNat_inj, List.length_map, List.length_nil, List.length_cons] at hb) <;> conv => whnf)
  (refine rq_s (by (rfl)) ?_; conv => whnf)
  iterate 2 (refine br_t rfl ?_; conv => whnf)
  iterate 2 (refine rq_s (by (rfl)) ?_; conv => whnf)
  (refine lend_s ?_; conv => whnf)
  (refine rows_s (by (rfl)) ?_; conv => whnf)
  (refine call_s (c97 ..) ?_; conv => whnf)
  (refine br_s (fun hb => ?_) (fun hb => ?_) <;> (try simp only [beq_iff_eq, bne_iff_ne, ne_eq, decide_eq_true_eq, decide_eq_false_iff_not, Int.not_lt, Int.not_le, Bool.false_eq_true, if_false, if_true, beq_eq_false_iff_ne, bne_eq_false_iff_eq, Bool.not_eq_true', Bool.not_eq_false', Int.ofNat_lt, Int.ofNat_le, Int.ofNat_inj, List.length_map, List.length_nil, List.length_cons] at hb) <;> conv => whnf)
  (refine rq_s (by (rfl)) ?_; conv => whnf)
  iterate 2 (refine br_t rfl ?_; conv => whnf)
  iterate 3 (refine rq_s (by (rfl)) ?_; conv => whnf)
  (refine lend_s ?_; conv => whnf)
  (refine call_s (c68 ..) ?_; conv => whnf)
  (refine br_s (fun hb => ?_) (fun hb => ?_) <;> (try simp only [beq_iff_eq, bne_iff_ne, ne_eq, decide_eq_true_eq, decide_eq_false_iff_not, Int.not_lt, Int.not_le, Bool.false_eq_true, if_false, if_true, beq_eq_false_iff_ne, bne_eq_false_iff_eq, Bool.not_eq_true', Bool.not_eq_false', Int.ofNat_lt, Int.ofNat_le, Int.ofNat_inj, List.length_map, List.length_nil, List.length_cons] at hb) <;> conv => whnf)
  (refine rq_s (by (rfl)) ?_; conv => whnf)
  iterate 3 (refine br_t rfl ?_; conv => whnf)
  (refine br_s (fun hb => ?_) (fun hb => ?_) <;> (try simp only [beq_iff_eq, bne_iff_ne, ne_eq, decide_eq_true_eq, decide_eq_false_iff_not, Int.not_lt, Int.not_le, Bool.false_eq_true, if_false, if_true, beq_eq_false_iff_ne, bne_eq_false_iff_eq, Bool.not_eq_true', Bool.not_eq_false', Int.ofNat_lt, Int.ofNat_le, Int.ofNat_inj, List.length_map, List.length_nil, List.length_cons] at hb) <;> conv => whnf)
  (refine rq_s (by (rfl)) ?_; conv => whnf)
  iterate 2 (refine br_t rfl ?_; conv => whnf)
  iterate 2 (refine rq_s (by (rfl)) ?_; conv => whnf)
  (refine lend_s ?_; conv => whnf)
  (refine rows_s (by (rfl)) ?_; conv => whnf)
  (refine call_s (dealsBad ..) ?_; conv => whnf)
  (refine br_t rfl ?_; conv => whnf)
  (refine rq_s (by (rfl)) ?_; conv => whnf)
  (focus (refine sh_s ?_; (first | (simp_all [hostOK]; done) | (simp_all [hostOK]; omega) | (congr 1; rw [Bool.eq_iff_iff]; simp_all [hostOK]; done) | (congr 1; rw [Bool.eq_iff_iff]; simp_all [hostOK]; omega))))
  iterate 4 (refine br_f rfl ?_; conv => whnf)
  (refine rq_s (by (rfl)) ?_; conv => whnf)
  (focus (refine sh_s ?_; (first | (simp_all [hostOK]; done) | (simp_all [hostOK]; omega) | (congr 1; rw [Bool.eq_iff_iff]; simp_all [hostOK]; done) | (congr 1; rw [Bool.eq_iff_iff]; simp_all [hostOK]; omega))))
  iterate 9 (refine br_f rfl ?_; conv => whnf)
  (refine rq_s (by (rfl)) ?_; conv => whnf)
  (focus (refine sh_s ?_; (first | (simp_all [hostOK]; done) | (simp_all [hostOK]; omega) | (congr 1; rw [Bool.eq_iff_iff]; simp_all [hostOK]; done) | (congr 1; rw [Bool.eq_iff_iff]; simp_all [hostOK]; omega))))
  iterate 13 (refine br_f rfl ?_; conv => whnf)
  (refine rq_s (by (rfl)) ?_; conv => whnf)
  (focus (refine sh_s ?_; (first | (simp_all [hostOK]; done) | (simp_all [hostOK]; omega) | (congr 1; rw [Bool.eq_iff_iff]; simp_all [hostOK]; done) | (congr 1; rw [Bool.eq_iff_iff]; simp_all [hostOK]; omega))))
  iterate 17 (refine br_f rfl ?_; conv => whnf)
  (refine rq_s (by (rfl)) ?_; conv => whnf)
  (focus (refine sh_s ?_; (first | (simp_all [hostOK]; done) | (simp_all [hostOK]; omega) | (congr 1; rw [Bool.eq_iff_iff]; simp_all [hostOK]; done) | (congr 1; rw [Bool.eq_iff_iff]; simp_all [hostOK]; omega))))
  iterate 21 (refine br_f rfl ?_; conv => whnf)
  (refine rq_s (by (rfl)) ?_; conv => whnf)
  (focus (refine sh_s ?_; (first | (simp_all [hostOK]; done) | (simp_all [hostOK]; omega) | (congr 1; rw [Bool.eq_iff_iff]; simp_all [hostOK]; done) | (congr 1; rw [Bool.eq_iff_iff]; simp_all [hostOK]; omega))))

theorem c52 (h : Hst) : Con Try.prog 52 [hstV h] (undefs [hstV h]) (.bool (hostOK h)) := by
  refine Con.evF 58 T_ok mix Try.func52 rfl rfl rfl rfl [.tmp 2] rfl fun ⟨hx, _⟩ => ?_
  have hx := facts_len (fun d => hx (d + 1) (roD h.ds) (by simp [hstR]))
  conv => whnf
  iterate 2 (refine rq_s (by (rfl)) ?_; conv => whnf)
  (refine br_s (fun hb => ?_) (fun hb => ?_) <;> (try simp only [beq_iff_eq, bne_iff_ne, ne_eq, decide_eq_true_eq, decide_eq_false_iff_not, Int.not_lt, Int.not_le, Bool.false_eq_true, if_false, if_true, beq_eq_false_iff_ne, bne_eq_false_iff_eq, Bool.not_eq_true', Bool.not_eq_false', Int.ofNat_lt, Int.ofNat_le, Int.ofNat_inj, List.length_map, List.length_nil, List.length_cons] at hb) <;> conv => whnf)
  iterate 30 (refine br_t rfl ?_; conv => whnf)
  (refine rq_s (by (rfl)) ?_; conv => whnf)
  (focus (refine sh_s ?_; (first | (simp_all [hostOK]; done) | (simp_all [hostOK]; omega))))
  (refine rq_s (by (rfl)) ?_; conv => whnf)
  iterate 3 (refine br_f rfl ?_; conv => whnf)
  (refine br_s (fun hb => ?_) (fun hb => ?_) <;> (try simp only [beq_iff_eq, bne_iff_ne, ne_eq, decide_eq_true_eq, decide_eq_false_iff_not, Int.not_lt, Int.not_le, Bool.false_eq_true, if_false, if_true, beq_eq_false_iff_ne, bne_eq_false_iff_eq, Bool.not_eq_true', Bool.not_eq_false', Int.ofNat_lt, Int.ofNat_le, Int.ofNat_inj, List.length_map, List.length_nil, List.length_cons] at hb) <;> conv => whnf)
  iterate 25 (refine br_t rfl ?_; conv => whnf)
  (refine rq_s (by (rfl)) ?_; conv => whnf)
  (focus (refine sh_s ?_; (first | (simp_all [hostOK]; done) | (simp_all [hostOK]; omega))))
  (refine rq_s (by (rfl)) ?_; conv => whnf)
  iterate 3 (refine br_f rfl ?_; conv => whnf)
  (refine br_s (fun hb => ?_) (fun hb => ?_) <;> (try simp only [beq_iff_eq, bne_iff_ne, ne_eq, decide_eq_true_eq, decide_eq_false_iff_not, Int.not_lt, Int.not_le, Bool.false_eq_true, if_false, if_true, beq_eq_false_iff_ne, bne_eq_false_iff_eq, Bool.not_eq_true', Bool.not_eq_false', Int.ofNat_lt, Int.ofNat_le, Int.ofNat_inj, List.length_map, List.length_nil, List.length_cons] at hb) <;> conv => whnf)
  iterate 20 (refine br_t rfl ?_; conv => whnf)
  (refine rq_s (by (rfl)) ?_; conv => whnf)
  (focus (refine sh_s ?_; (first | (simp_all [hostOK]; done) | (simp_all [hostOK]; omega))))
  (refine rq_s (by (rfl)) ?_; conv => whnf)
  iterate 3 (refine br_f rfl ?_; conv => whnf)
  (refine br_s (fun hb => ?_) (fun hb => ?_) <;> (try simp only [beq_iff_eq, bne_iff_ne, ne_eq, decide_eq_true_eq, decide_eq_false_iff_not, Int.not_lt, Int.not_le, Bool.false_eq_true, if_false, if_true, beq_eq_false_iff_ne, bne_eq_false_iff_eq, Bool.not_eq_true', Bool.not_eq_false', Int.ofNat_lt, Int.ofNat_le, Int.ofNat_inj, List.length_map, List.length_nil, List.length_cons] at hb) <;> conv => whnf)
  iterate 15 (refine br_t rfl ?_; conv => whnf)
  (refine rq_s (by (rfl)) ?_; conv => whnf)
  (focus (refine sh_s ?_; (first | (simp_all [hostOK]; done) | (simp_all [hostOK]; omega))))
  (refine rq_s (by (rfl)) ?_; conv => whnf)
  iterate 2 (refine br_f rfl ?_; conv => whnf)
  (refine rq_s (by (rfl)) ?_; conv => whnf)
  (refine lend_s ?_; conv => whnf)
  (refine rows_s (by (rfl)) ?_; conv => whnf)
  (refine call_s (c104 ..) ?_; conv => whnf)
  (refine br_f rfl ?_; conv => whnf)
  (refine br_s (fun hb => ?_) (fun hb => ?_) <;> (try simp only [beq_iff_eq, bne_iff_ne, ne_eq, decide_eq_true_eq, decide_eq_false_iff_not, Int.not_lt, Int.not_le, Bool.false_eq_true, if_false, if_true, beq_eq_false_iff_ne, bne_eq_false_iff_eq, Bool.not_eq_true', Bool.not_eq_false', Int.ofNat_lt, Int.ofNat_le, Int.ofNat_inj, List.length_map, List.length_nil, List.length_cons] at hb) <;> conv => whnf)
  iterate 10 (refine br_t rfl ?_; conv => whnf)
  (refine rq_s (by (rfl)) ?_; conv => whnf)
  (focus (refine sh_s ?_; (first | (simp_all [hostOK]; done) | (simp_all [hostOK]; omega))))
  (refine rq_s (by (rfl)) ?_; conv => whnf)
  iterate 2 (refine br_f rfl ?_; conv => whnf)
  (refine rq_s (by (rfl)) ?_; conv => whnf)
  (refine lend_s ?_; conv => whnf)
  (refine rows_s (by (rfl)) ?_; conv => whnf)
  (refine call_s (c104 ..) ?_; conv => whnf)
  (refine br_f rfl ?_; conv => whnf)
  (refine br_s (fun hb => ?_) (fun hb => ?_) <;> (try simp only [beq_iff_eq, bne_iff_ne, ne_eq, decide_eq_true_eq, decide_eq_false_iff_not, Int.not_lt, Int.not_le, Bool.false_eq_true, if_false, if_true, beq_eq_false_iff_ne, bne_eq_false_iff_eq, Bool.not_eq_true', Bool.not_eq_false', Int.ofNat_lt, Int.ofNat_le, Int.ofNat_inj, List.length_map, List.length_nil, List.length_cons] at hb) <;> conv => whnf)
  iterate 5 (refine br_t rfl ?_; conv => whnf)
  (refine rq_s (by (rfl)) ?_; conv => whnf)
  (focus (refine sh_s ?_; (first | (simp_all [hostOK]; done) | (simp_all [hostOK]; omega))))
  (refine rq_s (by (rfl)) ?_; conv => whnf)
  iterate 2 (refine br_f rfl ?_; conv => whnf)
  iterate 3 (refine rq_s (by (rfl)) ?_; conv => whnf)
  (refine lend_s ?_; conv => whnf)
  (refine call_s (c54 ..) ?_; conv => whnf)
  (refine br_f rfl ?_; conv => whnf)
  (refine br_s (fun hb => ?_) (fun hb => ?_) <;> (try simp only [beq_iff_eq, bne_iff_ne, ne_eq, decide_eq_true_eq, decide_eq_false_iff_not, Int.not_lt, Int.not_le, Bool.false_eq_true, if_false, if_true, beq_eq_false_iff_ne, bne_eq_false_iff_eq, Bool.not_eq_true', Bool.not_eq_false', Int.ofNat_lt, Int.ofNat_le, Int.ofNat_inj, List.length_map, List.length_nil, List.length_cons] at hb) <;> conv => whnf)
  (refine rq_s (by (rfl)) ?_; conv => whnf)
  (focus (refine sh_s ?_; (first | (simp_all [hostOK]; done) | (simp_all [hostOK]; omega))))
  rotate_left
  have g1 : h.gr.length = 4 := by omega
  have g2 : h.st.length = 8 := by omega
  have g3 : h.q.length ≤ 20 := by omega
  have g4 : h.ds.length ≤ 40 := by omega
  have g5 : cellsOK h.st = true := by assumption
  have g6 : cellsOK h.q = true := by assumption
  have g7 : inR h.tk 0 2147483647 = true := hb
  have fin : hostOK h = dealsOK h.ds := by simp [hostOK, g1, g2, g3, g4, g5, g6, g7]
  rw [fin]
  refine LoopG.rounds (α := Nat) T_ok mix [3, 1] [(1, 1)] (fun i => [(3, .int .i64 i), (1, .ptr 1 0 0)]) (fun _ => [(1, .live ⟨false, 0, [roB h.gr, roI h.st, roI h.q, .int .i64 h.tk, roD h.ds], [[roB h.gr, roI h.st, roI h.q, .int .i64 h.tk, roD h.ds]]⟩)]) (fun i => i ≤ h.ds.length ∧ ∀ j, j < i → dealOK (h.ds.getD j default) = true) (fun i => h.ds.length - i) ?_ ?_
  · conv => whnf
    exact head_s 0 ⟨by simp, fun j hj => by omega⟩ rfl rfl
  · rintro i ⟨h1, h2⟩ - -
    conv => whnf
    (refine rq_s (by (rfl)) ?_; conv => whnf)
    (refine br_s (fun hb => ?_) (fun hb => ?_) <;> (try simp only [beq_iff_eq, bne_iff_ne, ne_eq, decide_eq_true_eq, decide_eq_false_iff_not, Int.not_lt, Int.not_le, Bool.false_eq_true, if_false, if_true, beq_eq_false_iff_ne, bne_eq_false_iff_eq, Bool.not_eq_true', Bool.not_eq_false', Int.ofNat_lt, Int.ofNat_le, Int.ofNat_inj, List.length_map, List.length_nil, List.length_cons] at hb) <;> conv => whnf)
    iterate 2 (refine rq_s (by (rfl)) ?_; conv => whnf)
    (refine rq_s (by ((refine and_s rfl ?_; simp only [decide_eq_true_eq, List.length_map]; omega))) ?_; conv => whnf)
    (refine row_s (by ((try simp only [Int.toNat_natCast]); exact row_map dealR _ _ _ default (by first | omega | (simp; omega)))) ?_; conv => whnf)
    iterate 4 (refine rq_s (by (rfl)) ?_; conv => whnf)
    (refine lend_s ?_; conv => whnf)
    (refine call_s (c105 ..) ?_; conv => whnf)
    (refine br_s (fun hb => ?_) (fun hb => ?_) <;> (try simp only [beq_iff_eq, bne_iff_ne, ne_eq, decide_eq_true_eq, decide_eq_false_iff_not, Int.not_lt, Int.not_le, Bool.false_eq_true, if_false, if_true, beq_eq_false_iff_ne, bne_eq_false_iff_eq, Bool.not_eq_true', Bool.not_eq_false', Int.ofNat_lt, Int.ofNat_le, Int.ofNat_inj, List.length_map, List.length_nil, List.length_cons] at hb) <;> conv => whnf)
    (refine rq_s (by (rfl)) ?_; conv => whnf)
    iterate 2 (rotate_left)
    (refine rq_s (by (rfl)) ?_; conv => whnf)
    rotate_left
    · exact sh_s (by rw [dealsOK, all_bad (by assumption) hb])
    · refine head_s (i + 1) ⟨⟨by omega, fun j hj => ?_⟩, by omega⟩ (by rw [wrap64 (by omega) (by omega)]; rfl) rfl
      by_cases hji : j = i
      · subst hji; exact hb
      · exact h2 j (by omega)
    · exact sh_s (by rw [dealsOK, all_good fun j hj => h2 j (by omega)])
theorem c53 (d : Dat) : Con Try.prog 53 [datV d] (undefs [datV d]) (.bool (dataOK d)) := by
  refine Con.ev 50 T_ok mix Try.func53 rfl rfl rfl rfl [.tmp 2] rfl ?_
  conv => whnf
  iterate 2 (refine rq_s (by (rfl)) ?_; conv => whnf)
  (refine br_s (fun hb => ?_) (fun hb => ?_) <;> (try simp only [beq_iff_eq, bne_iff_ne, ne_eq, decide_eq_true_eq, decide_eq_false_iff_not, Int.not_lt, Int.not_le, Bool.false_eq_true, if_false, if_true, beq_eq_false_iff_ne, bne_eq_false_iff_eq, Bool.not_eq_true', Bool.not_eq_false', Int.ofNat_lt, Int.ofNat_le, Int.ofNat_inj, List.length_map, List.length_nil, List.length_cons] at hb) <;> conv => whnf)
  (refine rq_s (by (rfl)) ?_; conv => whnf)
  iterate 3 (refine br_t rfl ?_; conv => whnf)
  (refine br_s (fun hb => ?_) (fun hb => ?_) <;> (try simp only [beq_iff_eq, bne_iff_ne, ne_eq, decide_eq_true_eq, decide_eq_false_iff_not, Int.not_lt, Int.not_le, Bool.false_eq_true, if_false, if_true, beq_eq_false_iff_ne, bne_eq_false_iff_eq, Bool.not_eq_true', Bool.not_eq_false', Int.ofNat_lt, Int.ofNat_le, Int.ofNat_inj, List.length_map, List.length_nil, List.length_cons] at hb) <;> conv => whnf)
  (refine rq_s (by (rfl)) ?_; conv => whnf)
  iterate 3 (refine br_t rfl ?_; conv => whnf)
  (refine br_s (fun hb => ?_) (fun hb => ?_) <;> (try simp only [beq_iff_eq, bne_iff_ne, ne_eq, decide_eq_true_eq, decide_eq_false_iff_not, Int.not_lt, Int.not_le, Bool.false_eq_true, if_false, if_true, beq_eq_false_iff_ne, bne_eq_false_iff_eq, Bool.not_eq_true', Bool.not_eq_false', Int.ofNat_lt, Int.ofNat_le, Int.ofNat_inj, List.length_map, List.length_nil, List.length_cons] at hb) <;> conv => whnf)
  (refine rq_s (by (rfl)) ?_; conv => whnf)
  iterate 2 (refine br_t rfl ?_; conv => whnf)
  (refine rq_s (by (rfl)) ?_; conv => whnf)
  (refine lend_s ?_; conv => whnf)
  (refine rows_s (by (rfl)) ?_; conv => whnf)
  (refine call_s (c104 ..) ?_; conv => whnf)
  (refine br_s (fun hb => ?_) (fun hb => ?_) <;> (try simp only [beq_iff_eq, bne_iff_ne, ne_eq, decide_eq_true_eq, decide_eq_false_iff_not, Int.not_lt, Int.not_le, Bool.false_eq_true, if_false, if_true, beq_eq_false_iff_ne, bne_eq_false_iff_eq, Bool.not_eq_true', Bool.not_eq_false', Int.ofNat_lt, Int.ofNat_le, Int.ofNat_inj, List.length_map, List.length_nil, List.length_cons] at hb) <;> conv => whnf)
  (refine rq_s (by (rfl)) ?_; conv => whnf)
  iterate 2 (refine br_t rfl ?_; conv => whnf)
  (refine rq_s (by (rfl)) ?_; conv => whnf)
  (refine lend_s ?_; conv => whnf)
  (refine rows_s (by (rfl)) ?_; conv => whnf)
  (refine call_s (c104 ..) ?_; conv => whnf)
  (refine br_s (fun hb => ?_) (fun hb => ?_) <;> (try simp only [beq_iff_eq, bne_iff_ne, ne_eq, decide_eq_true_eq, decide_eq_false_iff_not, Int.not_lt, Int.not_le, Bool.false_eq_true, if_false, if_true, beq_eq_false_iff_ne, bne_eq_false_iff_eq, Bool.not_eq_true', Bool.not_eq_false', Int.ofNat_lt, Int.ofNat_le, Int.ofNat_inj, List.length_map, List.length_nil, List.length_cons] at hb) <;> conv => whnf)
  (refine rq_s (by (rfl)) ?_; conv => whnf)
  iterate 2 (refine br_t rfl ?_; conv => whnf)
  (refine rq_s (by (rfl)) ?_; conv => whnf)
  (refine lend_s ?_; conv => whnf)
  (refine rows_s (by (rfl)) ?_; conv => whnf)
  (refine call_s (c104 ..) ?_; conv => whnf)
  (refine br_s (fun hb => ?_) (fun hb => ?_) <;> (try simp only [beq_iff_eq, bne_iff_ne, ne_eq, decide_eq_true_eq, decide_eq_false_iff_not, Int.not_lt, Int.not_le, Bool.false_eq_true, if_false, if_true, beq_eq_false_iff_ne, bne_eq_false_iff_eq, Bool.not_eq_true', Bool.not_eq_false', Int.ofNat_lt, Int.ofNat_le, Int.ofNat_inj, List.length_map, List.length_nil, List.length_cons] at hb) <;> conv => whnf)
  (refine rq_s (by (rfl)) ?_; conv => whnf)
  iterate 2 (refine br_t rfl ?_; conv => whnf)
  iterate 3 (refine rq_s (by (rfl)) ?_; conv => whnf)
  (refine lend_s ?_; conv => whnf)
  (refine call_s (c54 ..) ?_; conv => whnf)
  (refine br_s (fun hb => ?_) (fun hb => ?_) <;> (try simp only [beq_iff_eq, bne_iff_ne, ne_eq, decide_eq_true_eq, decide_eq_false_iff_not, Int.not_lt, Int.not_le, Bool.false_eq_true, if_false, if_true, beq_eq_false_iff_ne, bne_eq_false_iff_eq, Bool.not_eq_true', Bool.not_eq_false', Int.ofNat_lt, Int.ofNat_le, Int.ofNat_inj, List.length_map, List.length_nil, List.length_cons] at hb) <;> conv => whnf)
  (refine rq_s (by (rfl)) ?_; conv => whnf)
  iterate 2 (refine br_t rfl ?_; conv => whnf)
  (refine rq_s (by (rfl)) ?_; conv => whnf)
  (refine lend_s ?_; conv => whnf)
  (refine call_s (c106 ..) ?_; conv => whnf)
  (refine br_s (fun hb => ?_) (fun hb => ?_) <;> (try simp only [beq_iff_eq, bne_iff_ne, ne_eq, decide_eq_true_eq, decide_eq_false_iff_not, Int.not_lt, Int.not_le, Bool.false_eq_true, if_false, if_true, beq_eq_false_iff_ne, bne_eq_false_iff_eq, Bool.not_eq_true', Bool.not_eq_false', Int.ofNat_lt, Int.ofNat_le, Int.ofNat_inj, List.length_map, List.length_nil, List.length_cons] at hb) <;> conv => whnf)
  (refine rq_s (by (rfl)) ?_; conv => whnf)
  iterate 3 (refine br_t rfl ?_; conv => whnf)
  (refine rq_s (by (rfl)) ?_; conv => whnf)
  (focus (refine sh_s ?_; (first | (simp_all [dataOK]; done) | (simp_all [dataOK]; omega) | (congr 1; rw [Bool.eq_iff_iff]; simp_all [dataOK]; done) | (congr 1; rw [Bool.eq_iff_iff]; simp_all [dataOK]; omega))))
  iterate 4 (refine br_f rfl ?_; conv => whnf)
  (refine rq_s (by (rfl)) ?_; conv => whnf)
  (focus (refine sh_s ?_; (first | (simp_all [dataOK]; done) | (simp_all [dataOK]; omega) | (congr 1; rw [Bool.eq_iff_iff]; simp_all [dataOK]; done) | (congr 1; rw [Bool.eq_iff_iff]; simp_all [dataOK]; omega))))
  iterate 8 (refine br_f rfl ?_; conv => whnf)
  (refine rq_s (by (rfl)) ?_; conv => whnf)
  (focus (refine sh_s ?_; (first | (simp_all [dataOK]; done) | (simp_all [dataOK]; omega) | (congr 1; rw [Bool.eq_iff_iff]; simp_all [dataOK]; done) | (congr 1; rw [Bool.eq_iff_iff]; simp_all [dataOK]; omega))))
  iterate 12 (refine br_f rfl ?_; conv => whnf)
  (refine rq_s (by (rfl)) ?_; conv => whnf)
  (focus (refine sh_s ?_; (first | (simp_all [dataOK]; done) | (simp_all [dataOK]; omega) | (congr 1; rw [Bool.eq_iff_iff]; simp_all [dataOK]; done) | (congr 1; rw [Bool.eq_iff_iff]; simp_all [dataOK]; omega))))
  iterate 16 (refine br_f rfl ?_; conv => whnf)
  (refine rq_s (by (rfl)) ?_; conv => whnf)
  (focus (refine sh_s ?_; (first | (simp_all [dataOK]; done) | (simp_all [dataOK]; omega) | (congr 1; rw [Bool.eq_iff_iff]; simp_all [dataOK]; done) | (congr 1; rw [Bool.eq_iff_iff]; simp_all [dataOK]; omega))))
  iterate 20 (refine br_f rfl ?_; conv => whnf)
  (refine rq_s (by (rfl)) ?_; conv => whnf)
  (focus (refine sh_s ?_; (first | (simp_all [dataOK]; done) | (simp_all [dataOK]; omega) | (congr 1; rw [Bool.eq_iff_iff]; simp_all [dataOK]; done) | (congr 1; rw [Bool.eq_iff_iff]; simp_all [dataOK]; omega))))
  iterate 24 (refine br_f rfl ?_; conv => whnf)
  (refine rq_s (by (rfl)) ?_; conv => whnf)
  (focus (refine sh_s ?_; (first | (simp_all [dataOK]; done) | (simp_all [dataOK]; omega) | (congr 1; rw [Bool.eq_iff_iff]; simp_all [dataOK]; done) | (congr 1; rw [Bool.eq_iff_iff]; simp_all [dataOK]; omega))))
  iterate 29 (refine br_f rfl ?_; conv => whnf)
  (refine rq_s (by (rfl)) ?_; conv => whnf)
  (focus (refine sh_s ?_; (first | (simp_all [dataOK]; done) | (simp_all [dataOK]; omega) | (congr 1; rw [Bool.eq_iff_iff]; simp_all [dataOK]; done) | (congr 1; rw [Bool.eq_iff_iff]; simp_all [dataOK]; omega))))
  iterate 34 (refine br_f rfl ?_; conv => whnf)
  (refine rq_s (by (rfl)) ?_; conv => whnf)
  (focus (refine sh_s ?_; (first | (simp_all [dataOK]; done) | (simp_all [dataOK]; omega) | (congr 1; rw [Bool.eq_iff_iff]; simp_all [dataOK]; done) | (congr 1; rw [Bool.eq_iff_iff]; simp_all [dataOK]; omega))))
theorem c49 (d : Dat) : Con Try.prog 49 [datV d] (undefs [datV d]) (.bool (dataOK d)) := by
  have e1 : ((d.st.length : Int) ≤ 32) = (d.st.length ≤ 32) := propext ⟨fun _ => by omega, fun _ => by omega⟩
  have e2 : ((d.bk.length : Int) ≤ 32) = (d.bk.length ≤ 32) := propext ⟨fun _ => by omega, fun _ => by omega⟩
  have e3 : ((d.ce.length : Int) ≤ 32) = (d.ce.length ≤ 32) := propext ⟨fun _ => by omega, fun _ => by omega⟩
  refine Con.ev 38 T_ok mix Try.func49 rfl rfl rfl rfl [.tmp 2] rfl ?_
  conv => whnf
  iterate 4 (refine rq_s (by (rfl)) ?_; conv => whnf)
  (refine lend_s ?_; conv => whnf)
  (refine rows_s (by (rfl)) ?_; conv => whnf)
  (refine call_s (c97 ..) ?_; conv => whnf)
  (refine br_s (fun hb => ?_) (fun hb => ?_) <;> (try simp only [beq_iff_eq, bne_iff_ne, ne_eq, decide_eq_true_eq, decide_eq_false_iff_not, Int.not_lt, Int.not_le, Bool.false_eq_true, if_false, if_true, beq_eq_false_iff_ne, bne_eq_false_iff_eq, Bool.not_eq_true', Bool.not_eq_false', Int.ofNat_lt, Int.ofNat_le, Int.ofNat_inj, List.length_map, List.length_nil, List.length_cons] at hb) <;> conv => whnf)
  (refine rq_s (by (rfl)) ?_; conv => whnf)
  iterate 2 (refine br_t rfl ?_; conv => whnf)
  iterate 2 (refine rq_s (by (rfl)) ?_; conv => whnf)
  (refine lend_s ?_; conv => whnf)
  (refine rows_s (by (rfl)) ?_; conv => whnf)
  (refine call_s (c97 ..) ?_; conv => whnf)
  (refine br_s (fun hb => ?_) (fun hb => ?_) <;> (try simp only [beq_iff_eq, bne_iff_ne, ne_eq, decide_eq_true_eq, decide_eq_false_iff_not, Int.not_lt, Int.not_le, Bool.false_eq_true, if_false, if_true, beq_eq_false_iff_ne, bne_eq_false_iff_eq, Bool.not_eq_true', Bool.not_eq_false', Int.ofNat_lt, Int.ofNat_le, Int.ofNat_inj, List.length_map, List.length_nil, List.length_cons] at hb) <;> conv => whnf)
  (refine rq_s (by (rfl)) ?_; conv => whnf)
  iterate 2 (refine br_t rfl ?_; conv => whnf)
  iterate 2 (refine rq_s (by (rfl)) ?_; conv => whnf)
  (refine lend_s ?_; conv => whnf)
  (refine rows_s (by (rfl)) ?_; conv => whnf)
  (refine call_s (c97 ..) ?_; conv => whnf)
  (refine br_s (fun hb => ?_) (fun hb => ?_) <;> (try simp only [beq_iff_eq, bne_iff_ne, ne_eq, decide_eq_true_eq, decide_eq_false_iff_not, Int.not_lt, Int.not_le, Bool.false_eq_true, if_false, if_true, beq_eq_false_iff_ne, bne_eq_false_iff_eq, Bool.not_eq_true', Bool.not_eq_false', Int.ofNat_lt, Int.ofNat_le, Int.ofNat_inj, List.length_map, List.length_nil, List.length_cons] at hb) <;> conv => whnf)
  (refine rq_s (by (rfl)) ?_; conv => whnf)
  iterate 3 (refine br_t rfl ?_; conv => whnf)
  (refine br_s (fun hb => ?_) (fun hb => ?_) <;> (try simp only [beq_iff_eq, bne_iff_ne, ne_eq, decide_eq_true_eq, decide_eq_false_iff_not, Int.not_lt, Int.not_le, Bool.false_eq_true, if_false, if_true, beq_eq_false_iff_ne, bne_eq_false_iff_eq, Bool.not_eq_true', Bool.not_eq_false', Int.ofNat_lt, Int.ofNat_le, Int.ofNat_inj, List.length_map, List.length_nil, List.length_cons] at hb) <;> conv => whnf)
  (refine rq_s (by (rfl)) ?_; conv => whnf)
  iterate 2 (refine br_t rfl ?_; conv => whnf)
  iterate 3 (refine rq_s (by (rfl)) ?_; conv => whnf)
  (refine lend_s ?_; conv => whnf)
  (refine call_s (c68 ..) ?_; conv => whnf)
  (refine br_s (fun hb => ?_) (fun hb => ?_) <;> (try simp only [beq_iff_eq, bne_iff_ne, ne_eq, decide_eq_true_eq, decide_eq_false_iff_not, Int.not_lt, Int.not_le, Bool.false_eq_true, if_false, if_true, beq_eq_false_iff_ne, bne_eq_false_iff_eq, Bool.not_eq_true', Bool.not_eq_false', Int.ofNat_lt, Int.ofNat_le, Int.ofNat_inj, List.length_map, List.length_nil, List.length_cons] at hb) <;> conv => whnf)
  (refine rq_s (by (rfl)) ?_; conv => whnf)
  iterate 2 (refine br_t rfl ?_; conv => whnf)
  (refine rq_s (by (rfl)) ?_; conv => whnf)
  (refine lend_s ?_; conv => whnf)
  (refine call_s (c101 ..) ?_; conv => whnf)
  (refine br_s (fun hb => ?_) (fun hb => ?_) <;> (try simp only [beq_iff_eq, bne_iff_ne, ne_eq, decide_eq_true_eq, decide_eq_false_iff_not, Int.not_lt, Int.not_le, Bool.false_eq_true, if_false, if_true, beq_eq_false_iff_ne, bne_eq_false_iff_eq, Bool.not_eq_true', Bool.not_eq_false', Int.ofNat_lt, Int.ofNat_le, Int.ofNat_inj, List.length_map, List.length_nil, List.length_cons] at hb) <;> conv => whnf)
  (refine rq_s (by (rfl)) ?_; conv => whnf)
  iterate 3 (refine br_t rfl ?_; conv => whnf)
  (refine rq_s (by (rfl)) ?_; conv => whnf)
  (focus (refine sh_s ?_; (first | (simp_all [dataOK]; done) | (simp_all [dataOK]; omega) | (congr 1; rw [Bool.eq_iff_iff]; simp_all [dataOK]; done) | (congr 1; rw [Bool.eq_iff_iff]; simp_all [dataOK]; omega))))
  iterate 4 (refine br_f rfl ?_; conv => whnf)
  (refine rq_s (by (rfl)) ?_; conv => whnf)
  (focus (refine sh_s ?_; (first | (simp_all [dataOK]; done) | (simp_all [dataOK]; omega) | (congr 1; rw [Bool.eq_iff_iff]; simp_all [dataOK]; done) | (congr 1; rw [Bool.eq_iff_iff]; simp_all [dataOK]; omega))))
  iterate 8 (refine br_f rfl ?_; conv => whnf)
  (refine rq_s (by (rfl)) ?_; conv => whnf)
  (focus (refine sh_s ?_; (first | (simp_all [dataOK]; done) | (simp_all [dataOK]; omega) | (congr 1; rw [Bool.eq_iff_iff]; simp_all [dataOK]; done) | (congr 1; rw [Bool.eq_iff_iff]; simp_all [dataOK]; omega))))
  iterate 12 (refine br_f rfl ?_; conv => whnf)
  (refine rq_s (by (rfl)) ?_; conv => whnf)
  (focus (refine sh_s ?_; (first | (simp_all [dataOK]; done) | (simp_all [dataOK]; omega) | (congr 1; rw [Bool.eq_iff_iff]; simp_all [dataOK]; done) | (congr 1; rw [Bool.eq_iff_iff]; simp_all [dataOK]; omega))))
  iterate 17 (refine br_f rfl ?_; conv => whnf)
  (refine rq_s (by (rfl)) ?_; conv => whnf)
  (focus (refine sh_s ?_; (first | (simp_all [dataOK]; done) | (simp_all [dataOK]; omega) | (congr 1; rw [Bool.eq_iff_iff]; simp_all [dataOK]; done) | (congr 1; rw [Bool.eq_iff_iff]; simp_all [dataOK]; omega))))
  iterate 21 (refine br_f rfl ?_; conv => whnf)
  (refine rq_s (by (rfl)) ?_; conv => whnf)
  (focus (refine sh_s ?_; (first | (simp_all [dataOK]; done) | (simp_all [dataOK]; omega) | (congr 1; rw [Bool.eq_iff_iff]; simp_all [dataOK]; done) | (congr 1; rw [Bool.eq_iff_iff]; simp_all [dataOK]; omega))))
  iterate 25 (refine br_f rfl ?_; conv => whnf)
  (refine rq_s (by (rfl)) ?_; conv => whnf)
  (focus (refine sh_s ?_; (first | (simp_all [dataOK]; done) | (simp_all [dataOK]; omega) | (congr 1; rw [Bool.eq_iff_iff]; simp_all [dataOK]; done) | (congr 1; rw [Bool.eq_iff_iff]; simp_all [dataOK]; omega))))
theorem own_sh {α : Type} {z : List AV} {f : α → List AV} {xs : List α} (h : xs.length = 0) : Sh .emp (.own 0 z (xs.map f)) := by
  have : xs = [] := List.length_eq_zero_iff.1 h
  subst this
  exact Sh.emp_own 0 z
theorem c113 (xs : List Bool) (h : xs.length ≤ 1048576) : Con Try.prog 113 [roB xs] (undefs [roB xs]) (ownB xs) := by
  refine Con.ev 8 T_ok mix Try.func113 rfl rfl rfl rfl [.tmp 2] rfl ?_
  conv => whnf
  (refine nil_s (fun hz => ?_) ?_ <;> conv => whnf)
  (refine br_t rfl ?_; conv => whnf)
  (refine rq_s (by (rfl)) ?_; conv => whnf)
  rotate_left
  (refine br_f rfl ?_; conv => whnf)
  iterate 3 (refine rq_s (by (rfl)) ?_; conv => whnf)
  (refine rq_s (by (((simp [maxBytes, AV.plain]; omega)))) ?_; conv => whnf)
  (refine app0_s ?_; conv => whnf)
  (refine rq_s (by ((simp only [decide_eq_true_eq, List.length_map, mkS_len]; done))) ?_; conv => whnf)
  (refine rq_s (by (rfl)) ?_; conv => whnf)
  (refine rows_s (by ((refine sub_all ?_; simp [List.length_map, mkS_len]; done))) ?_; conv => whnf)
  rotate_left
  · exact ⟨own_sh (by simpa using hz)⟩
  · exact ⟨Sh.flat_map (fun _ => rfl) _⟩
theorem c114 (xs : List Int) (h : xs.length ≤ 1048576) : Con Try.prog 114 [roI xs] (undefs [roI xs]) (ownI xs) := by
  refine Con.ev 8 T_ok mix Try.func114 rfl rfl rfl rfl [.tmp 2] rfl ?_
  conv => whnf
  (refine nil_s (fun hz => ?_) ?_ <;> conv => whnf)
  (refine br_t rfl ?_; conv => whnf)
  (refine rq_s (by (rfl)) ?_; conv => whnf)
  rotate_left
  (refine br_f rfl ?_; conv => whnf)
  iterate 3 (refine rq_s (by (rfl)) ?_; conv => whnf)
  (refine rq_s (by (((simp [maxBytes, AV.plain]; omega)))) ?_; conv => whnf)
  (refine app0_s ?_; conv => whnf)
  (refine rq_s (by ((simp only [decide_eq_true_eq, List.length_map, mkS_len]; done))) ?_; conv => whnf)
  (refine rq_s (by (rfl)) ?_; conv => whnf)
  (refine rows_s (by ((refine sub_all ?_; simp [List.length_map, mkS_len]; done))) ?_; conv => whnf)
  rotate_left
  · exact ⟨own_sh (by simpa using hz)⟩
  · exact ⟨Sh.flat_map (fun _ => rfl) _⟩
theorem c115 (xs : List Deal) (h : xs.length ≤ 1048576) : Con Try.prog 115 [roD xs] (undefs [roD xs]) (ownD xs) := by
  refine Con.ev 8 T_ok mix Try.func115 rfl rfl rfl rfl [.tmp 2] rfl ?_
  conv => whnf
  (refine nil_s (fun hz => ?_) ?_ <;> conv => whnf)
  (refine br_t rfl ?_; conv => whnf)
  (refine rq_s (by (rfl)) ?_; conv => whnf)
  rotate_left
  (refine br_f rfl ?_; conv => whnf)
  iterate 3 (refine rq_s (by (rfl)) ?_; conv => whnf)
  (refine rq_s (by (((simp [maxBytes, AV.plain]; omega)))) ?_; conv => whnf)
  (refine app0_s ?_; conv => whnf)
  (refine rq_s (by ((simp only [decide_eq_true_eq, List.length_map, mkS_len]; done))) ?_; conv => whnf)
  (refine rq_s (by (rfl)) ?_; conv => whnf)
  (refine rows_s (by ((refine sub_all ?_; simp [List.length_map, mkS_len]; done))) ?_; conv => whnf)
  rotate_left
  · exact ⟨own_sh (by simpa using hz)⟩
  · exact ⟨Sh.flat_map (fun _ => rfl) _⟩
theorem c60 (h : Hst) (hs : smallHost h) : Con Try.prog 60 [hstV h] (undefs [hstV h]) (hstO h) := by
  refine Con.ev 20 T_ok mix Try.func60 rfl rfl rfl rfl [.cell 2 27] rfl ?_
  conv => whnf
  (refine rq_s (by (rfl)) ?_; conv => whnf)
  (refine ChkS.mk (by kernel_rfl) ?_; conv => whnf)
  (refine rq_s (by (rfl)) ?_; conv => whnf)
  iterate 2 (refine ChkS.mk (by kernel_rfl) ?_; conv => whnf)
  (refine rq_s (by (rfl)) ?_; conv => whnf)
  (refine rows_s (by (rfl)) ?_; conv => whnf)
  (refine call_s (c113 _ hs.1) ?_; conv => whnf)
  (refine ChkS.mk (by kernel_rfl) ?_; conv => whnf)
  (refine rq_s (by (rfl)) ?_; conv => whnf)
  iterate 2 (refine ChkS.mk (by kernel_rfl) ?_; conv => whnf)
  (refine rq_s (by (rfl)) ?_; conv => whnf)
  (refine rows_s (by (rfl)) ?_; conv => whnf)
  (refine call_s (c114 _ hs.2.1) ?_; conv => whnf)
  (refine ChkS.mk (by kernel_rfl) ?_; conv => whnf)
  (refine rq_s (by (rfl)) ?_; conv => whnf)
  iterate 2 (refine ChkS.mk (by kernel_rfl) ?_; conv => whnf)
  (refine rq_s (by (rfl)) ?_; conv => whnf)
  (refine rows_s (by (rfl)) ?_; conv => whnf)
  (refine call_s (c114 _ hs.2.2.1) ?_; conv => whnf)
  (refine ChkS.mk (by kernel_rfl) ?_; conv => whnf)
  (refine rq_s (by (rfl)) ?_; conv => whnf)
  iterate 2 (refine ChkS.mk (by kernel_rfl) ?_; conv => whnf)
  (refine rq_s (by (rfl)) ?_; conv => whnf)
  (refine rows_s (by (rfl)) ?_; conv => whnf)
  (refine call_s (c115 _ hs.2.2.2) ?_; conv => whnf)
  (refine ChkS.mk (by kernel_rfl) ?_; conv => whnf)
  (refine rq_s (by (rfl)) ?_; conv => whnf)
  iterate 2 (refine ChkS.mk (by kernel_rfl) ?_; conv => whnf)
  (refine rq_s (by (rfl)) ?_; conv => whnf)
  iterate 2 (refine ChkS.mk (by kernel_rfl) ?_; conv => whnf)
  (refine rq_s (by (rfl)) ?_; conv => whnf)
  iterate 2 (refine ChkS.mk (by kernel_rfl) ?_; conv => whnf)
  (refine rq_s (by (rfl)) ?_; conv => whnf)
  iterate 2 (refine ChkS.mk (by kernel_rfl) ?_; conv => whnf)
  iterate 4 (refine fac_s (fun hf => ?_); conv => whnf)
  (refine rq_s (by (rfl)) ?_; conv => whnf)
  (refine rq_s (by ((simp only [decide_eq_true_eq, List.length_map, mkS_len]; done))) ?_; conv => whnf)
  (refine rq_s (by (rfl)) ?_; conv => whnf)
  (refine rq_s (by ((simp only [decide_eq_true_eq, List.length_map, mkS_len]; done))) ?_; conv => whnf)
  (refine rq_s (by (rfl)) ?_; conv => whnf)
  (refine rq_s (by ((simp only [decide_eq_true_eq, List.length_map, mkS_len]; done))) ?_; conv => whnf)
  iterate 2 (refine rq_s (by (rfl)) ?_; conv => whnf)
  (refine rq_s (by ((simp only [decide_eq_true_eq, List.length_map, mkS_len]; done))) ?_; conv => whnf)
  (refine rq_s (by (rfl)) ?_; conv => whnf)
  iterate 4 (refine rows_s (by ((refine sub_all ?_; simp [List.length_map, mkS_len]; done))) ?_; conv => whnf)
  (refine sh_s ?_; (rfl))
theorem c102 (d : Dat) (hs : smallData d) : Con Try.prog 102 [datV d] (undefs [datV d]) (datO d) := by
  refine Con.ev 16 T_ok mix Try.func102 rfl rfl rfl rfl [.cell 2 30] rfl ?_
  conv => whnf
  (refine rq_s (by (rfl)) ?_; conv => whnf)
  (refine ChkS.mk (by kernel_rfl) ?_; conv => whnf)
  (refine rq_s (by (rfl)) ?_; conv => whnf)
  iterate 2 (refine ChkS.mk (by kernel_rfl) ?_; conv => whnf)
  (refine rq_s (by (rfl)) ?_; conv => whnf)
  (refine rows_s (by (rfl)) ?_; conv => whnf)
  (refine call_s (c114 _ hs.1) ?_; conv => whnf)
  (refine ChkS.mk (by kernel_rfl) ?_; conv => whnf)
  (refine rq_s (by (rfl)) ?_; conv => whnf)
  iterate 2 (refine ChkS.mk (by kernel_rfl) ?_; conv => whnf)
  (refine rq_s (by (rfl)) ?_; conv => whnf)
  (refine rows_s (by (rfl)) ?_; conv => whnf)
  (refine call_s (c114 _ hs.2.1) ?_; conv => whnf)
  (refine ChkS.mk (by kernel_rfl) ?_; conv => whnf)
  (refine rq_s (by (rfl)) ?_; conv => whnf)
  iterate 2 (refine ChkS.mk (by kernel_rfl) ?_; conv => whnf)
  (refine rq_s (by (rfl)) ?_; conv => whnf)
  (refine rows_s (by (rfl)) ?_; conv => whnf)
  (refine call_s (c114 _ hs.2.2.1) ?_; conv => whnf)
  (refine ChkS.mk (by kernel_rfl) ?_; conv => whnf)
  (refine rq_s (by (rfl)) ?_; conv => whnf)
  iterate 2 (refine ChkS.mk (by kernel_rfl) ?_; conv => whnf)
  (refine rq_s (by (rfl)) ?_; conv => whnf)
  iterate 2 (refine ChkS.mk (by kernel_rfl) ?_; conv => whnf)
  (refine rq_s (by (rfl)) ?_; conv => whnf)
  iterate 2 (refine ChkS.mk (by kernel_rfl) ?_; conv => whnf)
  iterate 3 (refine fac_s (fun hf => ?_); conv => whnf)
  (refine rq_s (by (rfl)) ?_; conv => whnf)
  (refine rq_s (by ((simp only [decide_eq_true_eq, List.length_map, mkS_len]; done))) ?_; conv => whnf)
  (refine rq_s (by (rfl)) ?_; conv => whnf)
  (refine rq_s (by ((simp only [decide_eq_true_eq, List.length_map, mkS_len]; done))) ?_; conv => whnf)
  (refine rq_s (by (rfl)) ?_; conv => whnf)
  (refine rq_s (by ((simp only [decide_eq_true_eq, List.length_map, mkS_len]; done))) ?_; conv => whnf)
  iterate 4 (refine rq_s (by (rfl)) ?_; conv => whnf)
  iterate 3 (refine rows_s (by ((refine sub_all ?_; simp [List.length_map, mkS_len]; done))) ?_; conv => whnf)
  (refine sh_s ?_; (rfl))
theorem c56 (h : Hst) (hs : smallHost h) : Con Try.prog 56 [hstV h] (undefs [hstV h]) (hstO h) := by
  obtain ⟨h1, h2, h3, h4⟩ := hs
  refine Con.ev 24 T_ok mix Try.func56 rfl rfl rfl rfl [.cell 2 27] rfl ?_
  conv => whnf
  iterate 5 (refine rq_s (by (rfl)) ?_; conv => whnf)
  (refine rq_s (by (((simp [maxBytes, AV.plain]; omega)))) ?_; conv => whnf)
  (refine app0_s ?_; conv => whnf)
  iterate 5 (refine rq_s (by (rfl)) ?_; conv => whnf)
  (refine rq_s (by (((simp [maxBytes, AV.plain]; omega)))) ?_; conv => whnf)
  (refine app0_s ?_; conv => whnf)
  iterate 5 (refine rq_s (by (rfl)) ?_; conv => whnf)
  (refine rq_s (by (((simp [maxBytes, AV.plain]; omega)))) ?_; conv => whnf)
  (refine app0_s ?_; conv => whnf)
  iterate 5 (refine rq_s (by (rfl)) ?_; conv => whnf)
  (refine rq_s (by (((simp [maxBytes, AV.plain]; omega)))) ?_; conv => whnf)
  (refine app0_s ?_; conv => whnf)
  iterate 2 (refine rq_s (by (rfl)) ?_; conv => whnf)
  (refine rq_s (by ((simp only [decide_eq_true_eq, List.length_map, mkS_len]; done))) ?_; conv => whnf)
  (refine rq_s (by (rfl)) ?_; conv => whnf)
  (refine rq_s (by ((simp only [decide_eq_true_eq, List.length_map, mkS_len]; done))) ?_; conv => whnf)
  (refine rq_s (by (rfl)) ?_; conv => whnf)
  (refine rq_s (by ((simp only [decide_eq_true_eq, List.length_map, mkS_len]; done))) ?_; conv => whnf)
  iterate 2 (refine rq_s (by (rfl)) ?_; conv => whnf)
  (refine rq_s (by ((simp only [decide_eq_true_eq, List.length_map, mkS_len]; done))) ?_; conv => whnf)
  (refine rq_s (by (rfl)) ?_; conv => whnf)
  iterate 4 (refine rows_s (by ((refine sub_all ?_; simp [List.length_map, mkS_len]; done))) ?_; conv => whnf)
  rotate_left
  exact ⟨Sh.agg ⟨Sh.flat_map (fun _ => rfl) _, Sh.flat_map (fun _ => rfl) _, Sh.flat_map (fun _ => rfl) _, Sh.refl _, Sh.flat_map (fun _ => rfl) _, trivial⟩⟩
theorem c57 (d : Dat) (hs : smallData d) : Con Try.prog 57 [datV d] (undefs [datV d]) (datO d) := by
  obtain ⟨h1, h2, h3, h4⟩ := hs
  refine Con.ev 19 T_ok mix Try.func57 rfl rfl rfl rfl [.cell 2 30] rfl ?_
  conv => whnf
  iterate 5 (refine rq_s (by (rfl)) ?_; conv => whnf)
  (refine rq_s (by (((simp [maxBytes, AV.plain]; omega)))) ?_; conv => whnf)
  (refine app0_s ?_; conv => whnf)
  iterate 5 (refine rq_s (by (rfl)) ?_; conv => whnf)
  (refine rq_s (by (((simp [maxBytes, AV.plain]; omega)))) ?_; conv => whnf)
  (refine app0_s ?_; conv => whnf)
  iterate 5 (refine rq_s (by (rfl)) ?_; conv => whnf)
  (refine rq_s (by (((simp [maxBytes, AV.plain]; omega)))) ?_; conv => whnf)
  (refine app0_s ?_; conv => whnf)
  iterate 2 (refine rq_s (by (rfl)) ?_; conv => whnf)
  (refine rq_s (by ((simp only [decide_eq_true_eq, List.length_map, mkS_len]; done))) ?_; conv => whnf)
  (refine rq_s (by (rfl)) ?_; conv => whnf)
  (refine rq_s (by ((simp only [decide_eq_true_eq, List.length_map, mkS_len]; done))) ?_; conv => whnf)
  (refine rq_s (by (rfl)) ?_; conv => whnf)
  (refine rq_s (by ((simp only [decide_eq_true_eq, List.length_map, mkS_len]; done))) ?_; conv => whnf)
  iterate 4 (refine rq_s (by (rfl)) ?_; conv => whnf)
  iterate 3 (refine rows_s (by ((refine sub_all ?_; simp [List.length_map, mkS_len]; done))) ?_; conv => whnf)
  rotate_left
  exact ⟨Sh.agg ⟨Sh.flat_map (fun _ => rfl) _, Sh.flat_map (fun _ => rfl) _, Sh.flat_map (fun _ => rfl) _, Sh.refl _, Sh.refl _, Sh.refl _, trivial⟩⟩
end H1

/- Calls of the host, by the program: contracts. -/
set_option linter.unusedVariables false
set_option linter.unusedSimpArgs false
set_option maxRecDepth 100000
open Go Go.Abs Go.Proofs V1 H1
namespace H2


theorem c141 (d : Dat) (n : Int) (h : d.st.length ≤ 1000) : Con Try.prog 141 [.obj (datC d), .int .i64 n] [.obj (datC (pushF d n).1), .undef] (.int .i64 (pushF d n).2) := by
  refine Con.evP 21 [500000] rfl T_ok mix Try.func141 rfl rfl rfl rfl [.tmp 4] rfl ?_
  conv => whnf
  (refine rq_s (by (rfl)) ?_; conv => whnf)
  (refine br_s (fun hb => ?_) (fun hb => ?_) <;> (try simp only [beq_iff_eq, bne_iff_ne, ne_eq, decide_eq_true_eq, decide_eq_false_iff_not, Int.not_lt, Int.not_le, Bool.false_eq_true, if_false, if_true, beq_eq_false_iff_ne, bne_eq_false_iff_eq, Bool.not_eq_true', Bool.not_eq_false', Int.ofNat_lt, Int.ofNat_le, Int.ofNat_inj, List.length_map, List.length_nil, List.length_cons] at hb) <;> conv => whnf)
  (refine rq_s (by (rfl)) ?_; conv => whnf)
  (focus (refine aftp_s (by ((rw [pushF_t (by omega)]; first | done | rfl | (simp [datC, ownI, intR, subA, List.take_of_length_le]; done)))) ?_; conv => whnf))
  iterate 3 (refine rows_s (by ((refine sub_all ?_; simp [List.length_map, mkS_len, setRow_len]; done))) ?_; conv => whnf)
  (focus (refine aftp_s (by ((rw [pushF_t (by omega)]; first | done | rfl | (simp [datC, ownI, intR, subA, List.take_of_length_le]; done)))) ?_; conv => whnf))
  exact True.intro
  iterate 2 (refine rq_s (by (rfl)) ?_; conv => whnf)
  (refine rq_s (by ((simp only [decide_eq_true_eq, List.length_map, mkS_len, setRow_len]; done))) ?_; conv => whnf)
  iterate 2 (refine rq_s (by (rfl)) ?_; conv => whnf)
  (refine rq_s (by ((simp only [decide_eq_true_eq, List.length_map, mkS_len, setRow_len]; done))) ?_; conv => whnf)
  (refine rq_s (by (((simp [maxBytes, subA]; omega)))) ?_; conv => whnf)
  (refine app0_s ?_; conv => whnf)
  iterate 2 (refine rq_s (by (rfl)) ?_; conv => whnf)
  (focus (refine aftp_s (by ((rw [pushF_f (by omega)]; first | done | rfl | (simp [datC, ownI, intR, subA, List.take_of_length_le]; done)))) ?_; conv => whnf))
  (refine rows_s (by (rfl)) ?_; conv => whnf)
  iterate 2 (refine rows_s (by ((refine sub_all ?_; simp [List.length_map, mkS_len, setRow_len]; done))) ?_; conv => whnf)
  (focus (refine aftp_s (by ((rw [pushF_f (by omega)]; first | done | rfl | (simp [datC, ownI, intR, subA, List.take_of_length_le]; done)))) ?_; conv => whnf))
  exact True.intro
theorem c140 (d : Dat) (h : d.st.length ≤ 1000) : Con Try.prog 140 [.obj (datC d)] [.obj (datC (popF d).1)] (.tup [.int .i64 (popF d).2.1, .int .i64 (popF d).2.2]) := by
  have w1 : IntKind.i64.wrap ((d.st.length : Int) - 1) = (d.st.length : Int) - 1 := wrap64 (by omega) (by omega)
  have w2 : (IntKind.i64.wrap ((d.st.length : Int) - 1)).toNat = d.st.length - 1 := by omega
  refine Con.evP 31 [500000] rfl T_ok mix Try.func140 rfl rfl rfl rfl [.tmp 2, .tmp 3] rfl ?_
  conv => whnf
  (refine rq_s (by (rfl)) ?_; conv => whnf)
  (refine br_s (fun hb => ?_) (fun hb => ?_) <;> (try simp only [beq_iff_eq, bne_iff_ne, ne_eq, decide_eq_true_eq, decide_eq_false_iff_not, Int.not_lt, Int.not_le, Bool.false_eq_true, if_false, if_true, beq_eq_false_iff_ne, bne_eq_false_iff_eq, Bool.not_eq_true', Bool.not_eq_false', Int.ofNat_lt, Int.ofNat_le, Int.ofNat_inj, List.length_map, List.length_nil, List.length_cons] at hb) <;> conv => whnf)
  iterate 2 (refine rq_s (by (rfl)) ?_; conv => whnf)
  (focus (refine aftp_s (by ((rw [popF_t (by omega)]; first | done | rfl | (simp [w2, datC, ownI, intR, subA, List.map_take]; done)))) ?_; conv => whnf))
  iterate 3 (refine rows_s (by ((refine sub_all ?_; simp [List.length_map, mkS_len, setRow_len]; done))) ?_; conv => whnf)
  (focus (refine aftp_s (by ((rw [popF_t (by omega)]; first | done | rfl | (simp [w2, datC, ownI, intR, subA, List.map_take]; done)))) ?_; conv => whnf))
  exact True.intro
  (refine rq_s (by (rfl)) ?_; conv => whnf)
  (refine rq_s (by ((simp only [Bool.and_eq_true, decide_eq_true_eq, List.length_map]; omega))) ?_; conv => whnf)
  (refine rq_s (by ((simp only [decide_eq_true_eq, List.length_map, mkS_len, setRow_len]; done))) ?_; conv => whnf)
  (refine rq_s (by ((refine and_s rfl ?_; simp only [decide_eq_true_eq, List.length_map]; omega))) ?_; conv => whnf)
  (refine row_s (by ((try simp only [Int.toNat_natCast]); exact row_map intR _ _ _ default (by first | omega | (simp; omega)))) ?_; conv => whnf)
  (refine rq_s (by (rfl)) ?_; conv => whnf)
  (refine rq_s (by ((simp only [Bool.and_eq_true, decide_eq_true_eq, List.length_map]; omega))) ?_; conv => whnf)
  (refine rq_s (by ((refine and_s rfl ?_; simp only [decide_eq_true_eq, List.length_map]; omega))) ?_; conv => whnf)
  (refine rq_s (by ((simp only [decide_eq_true_eq, List.length_map, mkS_len, setRow_len]; done))) ?_; conv => whnf)
  iterate 4 (refine rq_s (by (rfl)) ?_; conv => whnf)
  (focus (refine aftp_s (by ((rw [popF_f (by omega)]; first | done | rfl | (simp [w2, datC, ownI, intR, subA, List.map_take]; done)))) ?_; conv => whnf))
  (refine rows_s (by (exact sub_map _ _ _ _)) ?_; conv => whnf)
  iterate 2 (refine rows_s (by ((refine sub_all ?_; simp [List.length_map, mkS_len, setRow_len]; done))) ?_; conv => whnf)
  (focus (refine aftp_s (by ((rw [popF_f (by omega)]; first | done | rfl | (simp [w2, datC, ownI, intR, subA, List.map_take]; done)))) ?_; conv => whnf))
  exact True.intro
theorem pop_f (d : Dat) (h : d.st.length ≤ 1000) (h0 : ¬ d.st.length = 0) : Con Try.prog 140 [.obj (datC d)] [.obj (datC { d with st := d.st.take (d.st.length - 1) })] (.tup [.int .i64 (topF d), .int .i64 0]) := by
  have e := popF_f h0
  have := c140 d h
  rw [e] at this
  exact this
theorem push_f (d : Dat) (n : Int) (h : d.st.length ≤ 1000) (h0 : ¬ d.st.length = 32) : Con Try.prog 141 [.obj (datC d), .int .i64 n] [.obj (datC { d with st := d.st ++ [n] }), .undef] (.int .i64 0) := by
  have e := pushF_f (n := n) h0
  have := c141 d n h
  rw [e] at this
  exact this

set_option maxHeartbeats 2000000 in
theorem call0 (h : Hst) (d : Dat) (hg : h.gr.length = 4) (hs : h.st.length = 8) (hq : h.q.length ≤ 20) (hd : h.ds.length ≤ 40) (h1 : d.st.length ≤ 32) : Con Try.prog 103 [.obj (hstC h), .obj (datC d), .int .i64 0] [.obj (hstC (callI h d 0).1), .obj (datC (callI h d 0).2.1), .undef] (.int .i64 (callI h d 0).2.2) := by
  refine Con.evP 134 [500000, 500100] rfl T_ok mix Try.func103 rfl rfl rfl rfl [.tmp 6] rfl ?_
  conv => whnf
  iterate 2 (refine rq_s (by (rfl)) ?_; conv => whnf)
  (refine rq_s (by ((simp only [decide_eq_true_eq, List.length_map, mkS_len, setRow_len]; done))) ?_; conv => whnf)
  (refine rq_s (by ((refine and_s rfl ?_; simp only [decide_eq_true_eq, List.length_map]; omega))) ?_; conv => whnf)
  (refine row_s (by ((try simp only [Int.toNat_natCast]); exact row_map boolR _ _ _ default (by first | omega | (simp; omega)))) ?_; conv => whnf)
  (refine br_s (fun hb => ?_) (fun hb => ?_) <;> (try simp only [beq_iff_eq, bne_iff_ne, ne_eq, decide_eq_true_eq, decide_eq_false_iff_not, Int.not_lt, Int.not_le, Bool.false_eq_true, if_false, if_true, beq_eq_false_iff_ne, bne_eq_false_iff_eq, Bool.not_eq_true', Bool.not_eq_false', Int.ofNat_lt, Int.ofNat_le, Int.ofNat_inj, List.length_map, List.length_nil, List.length_cons] at hb) <;> conv => whnf)
  (refine rq_s (by (rfl)) ?_; conv => whnf)
  (focus (refine aftp_s (by ((rw [call_1 (by assumption)]; first | done | rfl | (simp [hstC, datC, ownI, ownD, ownB, intR, dealR, subA, List.take_of_length_le]; done)))) ?_; conv => whnf))
  iterate 4 (refine rows_s (by ((refine sub_all ?_; simp [List.length_map, mkS_len, setRow_len]; done))) ?_; conv => whnf)
  (focus (refine aftp_s (by ((rw [call_1 (by assumption)]; first | done | rfl | (simp [hstC, datC, ownI, ownD, ownB, intR, dealR, subA, List.take_of_length_le]; done)))) ?_; conv => whnf))
  iterate 3 (refine rows_s (by ((refine sub_all ?_; simp [List.length_map, mkS_len, setRow_len]; done))) ?_; conv => whnf)
  (focus (refine aftp_s (by ((rw [call_1 (by assumption)]; first | done | rfl | (simp [hstC, datC, ownI, ownD, ownB, intR, dealR, subA, List.take_of_length_le]; done)))) ?_; conv => whnf))
  exact True.intro
  (refine rq_s (by (rfl)) ?_; conv => whnf)
  (refine br_s (fun hb => ?_) (fun hb => ?_) <;> (try simp only [beq_iff_eq, bne_iff_ne, ne_eq, decide_eq_true_eq, decide_eq_false_iff_not, Int.not_lt, Int.not_le, Bool.false_eq_true, if_false, if_true, beq_eq_false_iff_ne, bne_eq_false_iff_eq, Bool.not_eq_true', Bool.not_eq_false', Int.ofNat_lt, Int.ofNat_le, Int.ofNat_inj, List.length_map, List.length_nil, List.length_cons] at hb) <;> conv => whnf)
  (refine rq_s (by (rfl)) ?_; conv => whnf)
  (focus (refine aftp_s (by ((rw [call_2 (by assumption) (by omega)]; first | done | rfl | (simp [hstC, datC, ownI, ownD, ownB, intR, dealR, subA, List.take_of_length_le]; done)))) ?_; conv => whnf))
  iterate 4 (refine rows_s (by ((refine sub_all ?_; simp [List.length_map, mkS_len, setRow_len]; done))) ?_; conv => whnf)
  (focus (refine aftp_s (by ((rw [call_2 (by assumption) (by omega)]; first | done | rfl | (simp [hstC, datC, ownI, ownD, ownB, intR, dealR, subA, List.take_of_length_le]; done)))) ?_; conv => whnf))
  iterate 3 (refine rows_s (by ((refine sub_all ?_; simp [List.length_map, mkS_len, setRow_len]; done))) ?_; conv => whnf)
  (focus (refine aftp_s (by ((rw [call_2 (by assumption) (by omega)]; first | done | rfl | (simp [hstC, datC, ownI, ownD, ownB, intR, dealR, subA, List.take_of_length_le]; done)))) ?_; conv => whnf))
  exact True.intro
  iterate 3 (refine ChkS.mk (by kernel_rfl) ?_; conv => whnf)
  (refine rq_s (by (rfl)) ?_; conv => whnf)
  iterate 3 (refine ChkS.mk (by kernel_rfl) ?_; conv => whnf)
  (refine rq_s (by (rfl)) ?_; conv => whnf)
  iterate 2 (refine ChkS.mk (by kernel_rfl) ?_; conv => whnf)
  (refine rq_s (by (rfl)) ?_; conv => whnf)
  (refine rq_s (by ((simp only [decide_eq_true_eq, List.length_map, mkS_len, setRow_len]; done))) ?_; conv => whnf)
  (refine rq_s (by (rfl)) ?_; conv => whnf)
  (refine ChkS.mk (by kernel_rfl) ?_; conv => whnf)
  (refine row_s (by (rfl)) ?_; conv => whnf)
  iterate 3 (refine ChkS.mk (by kernel_rfl) ?_; conv => whnf)
  (refine br_s (fun hb => ?_) (fun hb => ?_) <;> (try simp only [beq_iff_eq, bne_iff_ne, ne_eq, decide_eq_true_eq, decide_eq_false_iff_not, Int.not_lt, Int.not_le, Bool.false_eq_true, if_false, if_true, beq_eq_false_iff_ne, bne_eq_false_iff_eq, Bool.not_eq_true', Bool.not_eq_false', Int.ofNat_lt, Int.ofNat_le, Int.ofNat_inj, List.length_map, List.length_nil, List.length_cons] at hb) <;> conv => whnf)
  (refine rq_s (by (rfl)) ?_; conv => whnf)
  (focus (refine aftp_s (by ((rw [call0_4 (by assumption) (by omega) (by omega)]; first | done | rfl | (simp [hstC, datC, ownI, ownD, ownB, intR, dealR, subA, List.take_of_length_le]; done)))) ?_; conv => whnf))
  iterate 4 (refine rows_s (by ((refine sub_all ?_; simp [List.length_map, mkS_len, setRow_len]; done))) ?_; conv => whnf)
  (focus (refine aftp_s (by ((rw [call0_4 (by assumption) (by omega) (by omega)]; first | done | rfl | (simp [hstC, datC, ownI, ownD, ownB, intR, dealR, subA, List.take_of_length_le]; done)))) ?_; conv => whnf))
  iterate 3 (refine rows_s (by ((refine sub_all ?_; simp [List.length_map, mkS_len, setRow_len]; done))) ?_; conv => whnf)
  (focus (refine aftp_s (by ((rw [call0_4 (by assumption) (by omega) (by omega)]; first | done | rfl | (simp [hstC, datC, ownI, ownD, ownB, intR, dealR, subA, List.take_of_length_le]; done)))) ?_; conv => whnf))
  exact True.intro
  iterate 8 (refine br_f rfl ?_; conv => whnf)
  (refine rq_s (by (rfl)) ?_; conv => whnf)
  (refine br_t rfl ?_; conv => whnf)
  (refine handp_s 140 [some 6] ?_; conv => whnf)
  (refine rq_s (by (rfl)) ?_; conv => whnf)
  (focus (apply callpe_s (f := 140); (· repeat' (first | (refine sub_all ?_; simp [List.length_map, mkS_len, setRow_len]; done) | exact sub_map _ _ _ _ | apply cons_eq | apply obj_eq | apply agg_eq | apply own_eq | apply ro_eq | apply rp_eq | apply fnc_eq | rfl)); refine callp_s (f := 140) rfl (pop_f ⟨_, _, _, _, _, _⟩ (by first | omega | (dsimp only; omega) | (simp; omega)) (by first | omega | (dsimp only; omega) | (simp; omega))) ?_; conv => whnf))
  (refine rq_s (by (rfl)) ?_; conv => whnf)
  iterate 2 (refine fac_s (fun hf => ?_); conv => whnf)
  iterate 2 (refine br_t rfl ?_; conv => whnf)
  iterate 4 (refine rq_s (by (rfl)) ?_; conv => whnf)
  (refine lend_s ?_; conv => whnf)
  (refine call_s (c68 ..) ?_; conv => whnf)
  (refine br_s (fun hb => ?_) (fun hb => ?_) <;> (try simp only [beq_iff_eq, bne_iff_ne, ne_eq, decide_eq_true_eq, decide_eq_false_iff_not, Int.not_lt, Int.not_le, Bool.false_eq_true, if_false, if_true, beq_eq_false_iff_ne, bne_eq_false_iff_eq, Bool.not_eq_true', Bool.not_eq_false', Int.ofNat_lt, Int.ofNat_le, Int.ofNat_inj, List.length_map, List.length_nil, List.length_cons] at hb) <;> conv => whnf)
  (refine rq_s (by (rfl)) ?_; conv => whnf)
  (focus (refine aftp_s (by ((rw [call0_9 (by assumption) (by omega) (by omega) (by assumption)]; first | done | rfl | (simp [hstC, datC, ownI, ownD, ownB, intR, dealR, subA, List.take_of_length_le]; done)))) ?_; conv => whnf))
  iterate 4 (refine rows_s (by ((refine sub_all ?_; simp [List.length_map, mkS_len, setRow_len]; done))) ?_; conv => whnf)
  (focus (refine aftp_s (by ((rw [call0_9 (by assumption) (by omega) (by omega) (by assumption)]; first | done | rfl | (simp [hstC, datC, ownI, ownD, ownB, intR, dealR, subA, List.take_of_length_le]; done)))) ?_; conv => whnf))
  iterate 3 (refine rows_s (by ((refine sub_all ?_; simp [List.length_map, mkS_len, setRow_len]; done))) ?_; conv => whnf)
  (focus (refine aftp_s (by ((rw [call0_9 (by assumption) (by omega) (by omega) (by assumption)]; first | done | rfl | (simp [hstC, datC, ownI, ownD, ownB, intR, dealR, subA, List.take_of_length_le]; done)))) ?_; conv => whnf))
  exact True.intro
  (refine br_f rfl ?_; conv => whnf)
  iterate 3 (refine ChkS.mk (by kernel_rfl) ?_; conv => whnf)
  (refine rq_s (by (rfl)) ?_; conv => whnf)
  iterate 2 (refine ChkS.mk (by kernel_rfl) ?_; conv => whnf)
  (refine rq_s (by (rfl)) ?_; conv => whnf)
  iterate 2 (refine ChkS.mk (by kernel_rfl) ?_; conv => whnf)
  (refine rq_s (by ((first | (simp [maxBytes, subA]; omega) | (have i1 := inR_t (by assumption); first | (simp only [decide_eq_true_eq]; omega) | (refine and_s rfl ?_; simp only [decide_eq_true_eq, List.length_map]; omega))))) ?_; conv => whnf)
  (refine rq_s (by ((simp only [decide_eq_true_eq, List.length_map, mkS_len, setRow_len]; done))) ?_; conv => whnf)
  (refine rq_s (by ((first | (simp [maxBytes, subA]; omega) | (have i1 := inR_t (by assumption); first | (simp only [decide_eq_true_eq]; omega) | (refine and_s rfl ?_; simp only [decide_eq_true_eq, List.length_map]; omega))))) ?_; conv => whnf)
  (refine ChkS.mk (by kernel_rfl) ?_; conv => whnf)
  (refine row_s (by ((try simp only [Int.toNat_natCast]); exact row_map intR _ _ _ default (by first | omega | (simp; omega) | (have i1 := inR_t (by assumption); omega)))) ?_; conv => whnf)
  (refine ChkS.mk (by kernel_rfl) ?_; conv => whnf)
  (refine rq_s (by (rfl)) ?_; conv => whnf)
  iterate 6 (refine ChkS.mk (by kernel_rfl) ?_; conv => whnf)
  (refine rq_s (by (rfl)) ?_; conv => whnf)
  iterate 3 (refine ChkS.mk (by kernel_rfl) ?_; conv => whnf)
  (refine rq_s (by (rfl)) ?_; conv => whnf)
  (refine ChkS.mk (by kernel_rfl) ?_; conv => whnf)
  (refine rq_s (by ((simp only [decide_eq_true_eq, List.length_map, mkS_len, setRow_len]; done))) ?_; conv => whnf)
  iterate 2 (refine rq_s (by (rfl)) ?_; conv => whnf)
  (refine rq_s (by ((simp only [decide_eq_true_eq, List.length_map, mkS_len, setRow_len]; done))) ?_; conv => whnf)
  (refine rq_s (by ((first | (simp [maxBytes, subA]; omega) | (have i1 := inR_t (by assumption); first | (simp only [decide_eq_true_eq]; omega) | (refine and_s rfl ?_; simp only [decide_eq_true_eq, List.length_map]; omega))))) ?_; conv => whnf)
  (refine app0_s ?_; conv => whnf)
  iterate 2 (refine ChkS.mk (by kernel_rfl) ?_; conv => whnf)
  (refine rq_s (by (rfl)) ?_; conv => whnf)
  iterate 2 (refine ChkS.mk (by kernel_rfl) ?_; conv => whnf)
  (refine br_f rfl ?_; conv => whnf)
  (refine rq_s (by (rfl)) ?_; conv => whnf)
  (refine handp_s 141 [some 6, none] ?_; conv => whnf)
  iterate 2 (refine rq_s (by (rfl)) ?_; conv => whnf)
  (focus (apply callpe_s (f := 141); (· repeat' (first | (refine sub_all ?_; simp [List.length_map, mkS_len, setRow_len]; done) | exact sub_map _ _ _ _ | apply cons_eq | apply obj_eq | apply agg_eq | apply own_eq | apply ro_eq | apply rp_eq | apply fnc_eq | rfl)); refine callp_s (f := 141) rfl (push_f ⟨_, _, _, _, _, _⟩ _ (by first | omega | (dsimp only; omega) | (simp; omega)) (by first | omega | (dsimp only; omega) | (simp; omega))) ?_; conv => whnf))
  (refine fac_s (fun hf => ?_); conv => whnf)
  (refine rq_s (by (rfl)) ?_; conv => whnf)
  (focus (refine aftp_s (by ((rw [call0_0 (by assumption) (by omega) (by omega) (by assumption)]; first | done | rfl | (simp [hstC, datC, ownI, ownD, ownB, intR, dealR, subA, List.take_of_length_le]; done)))) ?_; conv => whnf))
  iterate 3 (refine rows_s (by ((refine sub_all ?_; simp [List.length_map, mkS_len, setRow_len]; done))) ?_; conv => whnf)
  (refine rows_s (by (rfl)) ?_; conv => whnf)
  (focus (refine aftp_s (by ((rw [call0_0 (by assumption) (by omega) (by omega) (by assumption)]; first | done | rfl | (simp [hstC, datC, ownI, ownD, ownB, intR, dealR, subA, List.take_of_length_le]; done)))) ?_; conv => whnf))
  iterate 3 (refine rows_s (by ((refine sub_all ?_; simp [List.length_map, mkS_len, setRow_len]; done))) ?_; conv => whnf)
  (focus (refine aftp_s (by ((rw [call0_0 (by assumption) (by omega) (by omega) (by assumption)]; first | done | rfl | (simp [hstC, datC, ownI, ownD, ownB, intR, dealR, subA, List.take_of_length_le]; done)))) ?_; conv => whnf))
  exact True.intro
set_option maxHeartbeats 2000000 in
theorem call1 (h : Hst) (d : Dat) (hg : h.gr.length = 4) (hs : h.st.length = 8) (hq : h.q.length ≤ 20) (hd : h.ds.length ≤ 40) (h1 : d.st.length ≤ 32) : Con Try.prog 103 [.obj (hstC h), .obj (datC d), .int .i64 1] [.obj (hstC (callI h d 1).1), .obj (datC (callI h d 1).2.1), .undef] (.int .i64 (callI h d 1).2.2) := by
  have m1 : inR (topF d) 0 7 = true → setRow (h.st.map intR) (topF d).toNat 0 [.int .i64 0] [.int .i64 (secF d)] = (h.st.map intR).set (topF d).toNat [.int .i64 (secF d)] := fun e => by
    have e := inR_t e
    rw [setRow_int _ _ _ _ (by omega), List.map_set]
    rfl
  have m2 : 2 ≤ d.st.length → topF { d with st := d.st.take (d.st.length - 1) } = secF d := top_take
  have m3 : d.st.length - 1 - 1 = d.st.length - 2 := by omega
  have m4 : min (d.st.length - 2) (d.st.length - 1) = d.st.length - 2 := by omega
  refine Con.evP 134 [500000, 500100] rfl T_ok mix Try.func103 rfl rfl rfl rfl [.tmp 6] rfl ?_
  conv => whnf
  iterate 2 (refine rq_s (by (rfl)) ?_; conv => whnf)
  (refine rq_s (by ((simp only [decide_eq_true_eq, List.length_map, mkS_len, setRow_len]; done))) ?_; conv => whnf)
  (refine rq_s (by ((refine and_s rfl ?_; simp only [decide_eq_true_eq, List.length_map]; omega))) ?_; conv => whnf)
  (refine row_s (by ((try simp only [Int.toNat_natCast]); exact row_map boolR _ _ _ default (by first | omega | (simp; omega)))) ?_; conv => whnf)
  (refine br_s (fun hb => ?_) (fun hb => ?_) <;> (try simp only [beq_iff_eq, bne_iff_ne, ne_eq, decide_eq_true_eq, decide_eq_false_iff_not, Int.not_lt, Int.not_le, Bool.false_eq_true, if_false, if_true, beq_eq_false_iff_ne, bne_eq_false_iff_eq, Bool.not_eq_true', Bool.not_eq_false', Int.ofNat_lt, Int.ofNat_le, Int.ofNat_inj, List.length_map, List.length_nil, List.length_cons] at hb) <;> conv => whnf)
  (refine rq_s (by (rfl)) ?_; conv => whnf)
  (focus (refine aftp_s (by ((rw [call_1 (by assumption)]; first | done | rfl | (simp [hstC, datC, ownI, ownD, ownB, intR, dealR, subA, List.take_of_length_le, m1 (by assumption), m2 (by omega), m3, m4, List.map_set, List.map_take, List.take_take]; done)))) ?_; conv => whnf))
  iterate 4 (refine rows_s (by ((refine sub_all ?_; simp [List.length_map, mkS_len, setRow_len]; done))) ?_; conv => whnf)
  (focus (refine aftp_s (by ((rw [call_1 (by assumption)]; first | done | rfl | (simp [hstC, datC, ownI, ownD, ownB, intR, dealR, subA, List.take_of_length_le, m1 (by assumption), m2 (by omega), m3, m4, List.map_set, List.map_take, List.take_take]; done)))) ?_; conv => whnf))
  iterate 3 (refine rows_s (by ((refine sub_all ?_; simp [List.length_map, mkS_len, setRow_len]; done))) ?_; conv => whnf)
  (focus (refine aftp_s (by ((rw [call_1 (by assumption)]; first | done | rfl | (simp [hstC, datC, ownI, ownD, ownB, intR, dealR, subA, List.take_of_length_le, m1 (by assumption), m2 (by omega), m3, m4, List.map_set, List.map_take, List.take_take]; done)))) ?_; conv => whnf))
  exact True.intro
  (refine rq_s (by (rfl)) ?_; conv => whnf)
  (refine br_s (fun hb => ?_) (fun hb => ?_) <;> (try simp only [beq_iff_eq, bne_iff_ne, ne_eq, decide_eq_true_eq, decide_eq_false_iff_not, Int.not_lt, Int.not_le, Bool.false_eq_true, if_false, if_true, beq_eq_false_iff_ne, bne_eq_false_iff_eq, Bool.not_eq_true', Bool.not_eq_false', Int.ofNat_lt, Int.ofNat_le, Int.ofNat_inj, List.length_map, List.length_nil, List.length_cons] at hb) <;> conv => whnf)
  (refine rq_s (by (rfl)) ?_; conv => whnf)
  (focus (refine aftp_s (by ((rw [call_2 (by assumption) (by omega)]; first | done | rfl | (simp [hstC, datC, ownI, ownD, ownB, intR, dealR, subA, List.take_of_length_le, m1 (by assumption), m2 (by omega), m3, m4, List.map_set, List.map_take, List.take_take]; done)))) ?_; conv => whnf))
  iterate 4 (refine rows_s (by ((refine sub_all ?_; simp [List.length_map, mkS_len, setRow_len]; done))) ?_; conv => whnf)
  (focus (refine aftp_s (by ((rw [call_2 (by assumption) (by omega)]; first | done | rfl | (simp [hstC, datC, ownI, ownD, ownB, intR, dealR, subA, List.take_of_length_le, m1 (by assumption), m2 (by omega), m3, m4, List.map_set, List.map_take, List.take_take]; done)))) ?_; conv => whnf))
  iterate 3 (refine rows_s (by ((refine sub_all ?_; simp [List.length_map, mkS_len, setRow_len]; done))) ?_; conv => whnf)
  (focus (refine aftp_s (by ((rw [call_2 (by assumption) (by omega)]; first | done | rfl | (simp [hstC, datC, ownI, ownD, ownB, intR, dealR, subA, List.take_of_length_le, m1 (by assumption), m2 (by omega), m3, m4, List.map_set, List.map_take, List.take_take]; done)))) ?_; conv => whnf))
  exact True.intro
  iterate 3 (refine ChkS.mk (by kernel_rfl) ?_; conv => whnf)
  (refine rq_s (by (rfl)) ?_; conv => whnf)
  iterate 3 (refine ChkS.mk (by kernel_rfl) ?_; conv => whnf)
  (refine rq_s (by (rfl)) ?_; conv => whnf)
  iterate 2 (refine ChkS.mk (by kernel_rfl) ?_; conv => whnf)
  (refine rq_s (by (rfl)) ?_; conv => whnf)
  (refine rq_s (by ((simp only [decide_eq_true_eq, List.length_map, mkS_len, setRow_len]; done))) ?_; conv => whnf)
  (refine rq_s (by (rfl)) ?_; conv => whnf)
  (refine ChkS.mk (by kernel_rfl) ?_; conv => whnf)
  (refine row_s (by (rfl)) ?_; conv => whnf)
  iterate 3 (refine ChkS.mk (by kernel_rfl) ?_; conv => whnf)
  (refine br_s (fun hb => ?_) (fun hb => ?_) <;> (try simp only [beq_iff_eq, bne_iff_ne, ne_eq, decide_eq_true_eq, decide_eq_false_iff_not, Int.not_lt, Int.not_le, Bool.false_eq_true, if_false, if_true, beq_eq_false_iff_ne, bne_eq_false_iff_eq, Bool.not_eq_true', Bool.not_eq_false', Int.ofNat_lt, Int.ofNat_le, Int.ofNat_inj, List.length_map, List.length_nil, List.length_cons] at hb) <;> conv => whnf)
  (refine rq_s (by (rfl)) ?_; conv => whnf)
  (focus (refine aftp_s (by ((rw [call1_4 (by assumption) (by omega) (by omega)]; first | done | rfl | (simp [hstC, datC, ownI, ownD, ownB, intR, dealR, subA, List.take_of_length_le, m1 (by assumption), m2 (by omega), m3, m4, List.map_set, List.map_take, List.take_take]; done)))) ?_; conv => whnf))
  iterate 4 (refine rows_s (by ((refine sub_all ?_; simp [List.length_map, mkS_len, setRow_len]; done))) ?_; conv => whnf)
  (focus (refine aftp_s (by ((rw [call1_4 (by assumption) (by omega) (by omega)]; first | done | rfl | (simp [hstC, datC, ownI, ownD, ownB, intR, dealR, subA, List.take_of_length_le, m1 (by assumption), m2 (by omega), m3, m4, List.map_set, List.map_take, List.take_take]; done)))) ?_; conv => whnf))
  iterate 3 (refine rows_s (by ((refine sub_all ?_; simp [List.length_map, mkS_len, setRow_len]; done))) ?_; conv => whnf)
  (focus (refine aftp_s (by ((rw [call1_4 (by assumption) (by omega) (by omega)]; first | done | rfl | (simp [hstC, datC, ownI, ownD, ownB, intR, dealR, subA, List.take_of_length_le, m1 (by assumption), m2 (by omega), m3, m4, List.map_set, List.map_take, List.take_take]; done)))) ?_; conv => whnf))
  exact True.intro
  iterate 8 (refine br_f rfl ?_; conv => whnf)
  (refine rq_s (by (rfl)) ?_; conv => whnf)
  (refine br_t rfl ?_; conv => whnf)
  (refine handp_s 140 [some 6] ?_; conv => whnf)
  (refine rq_s (by (rfl)) ?_; conv => whnf)
  (focus (apply callpe_s (f := 140); (· repeat' (first | (refine sub_all ?_; simp [List.length_map, mkS_len, setRow_len]; done) | exact sub_map _ _ _ _ | apply cons_eq | apply obj_eq | apply agg_eq | apply own_eq | apply ro_eq | apply rp_eq | apply fnc_eq | rfl)); refine callp_s (f := 140) rfl (pop_f ⟨_, _, _, _, _, _⟩ (by first | omega | (dsimp only; omega) | (simp; omega)) (by first | omega | (dsimp only; omega) | (simp; omega))) ?_; conv => whnf))
  (refine rq_s (by (rfl)) ?_; conv => whnf)
  iterate 2 (refine fac_s (fun hf => ?_); conv => whnf)
  (refine br_f rfl ?_; conv => whnf)
  (refine br_t rfl ?_; conv => whnf)
  iterate 4 (refine rq_s (by (rfl)) ?_; conv => whnf)
  (refine lend_s ?_; conv => whnf)
  (refine call_s (c68 ..) ?_; conv => whnf)
  (refine br_s (fun hb => ?_) (fun hb => ?_) <;> (try simp only [beq_iff_eq, bne_iff_ne, ne_eq, decide_eq_true_eq, decide_eq_false_iff_not, Int.not_lt, Int.not_le, Bool.false_eq_true, if_false, if_true, beq_eq_false_iff_ne, bne_eq_false_iff_eq, Bool.not_eq_true', Bool.not_eq_false', Int.ofNat_lt, Int.ofNat_le, Int.ofNat_inj, List.length_map, List.length_nil, List.length_cons] at hb) <;> conv => whnf)
  (refine rq_s (by (rfl)) ?_; conv => whnf)
  (focus (refine aftp_s (by ((rw [call1_9 (by assumption) (by omega) (by omega) (by assumption)]; first | done | rfl | (simp [hstC, datC, ownI, ownD, ownB, intR, dealR, subA, List.take_of_length_le, m1 (by assumption), m2 (by omega), m3, m4, List.map_set, List.map_take, List.take_take]; done)))) ?_; conv => whnf))
  iterate 4 (refine rows_s (by ((refine sub_all ?_; simp [List.length_map, mkS_len, setRow_len]; done))) ?_; conv => whnf)
  (focus (refine aftp_s (by ((rw [call1_9 (by assumption) (by omega) (by omega) (by assumption)]; first | done | rfl | (simp [hstC, datC, ownI, ownD, ownB, intR, dealR, subA, List.take_of_length_le, m1 (by assumption), m2 (by omega), m3, m4, List.map_set, List.map_take, List.take_take]; done)))) ?_; conv => whnf))
  iterate 3 (refine rows_s (by ((refine sub_all ?_; simp [List.length_map, mkS_len, setRow_len]; done))) ?_; conv => whnf)
  (focus (refine aftp_s (by ((rw [call1_9 (by assumption) (by omega) (by omega) (by assumption)]; first | done | rfl | (simp [hstC, datC, ownI, ownD, ownB, intR, dealR, subA, List.take_of_length_le, m1 (by assumption), m2 (by omega), m3, m4, List.map_set, List.map_take, List.take_take]; done)))) ?_; conv => whnf))
  exact True.intro
  (refine br_t rfl ?_; conv => whnf)
  (refine handp_s 140 [some 6] ?_; conv => whnf)
  (refine rq_s (by (rfl)) ?_; conv => whnf)
  (focus (apply callpe_s (f := 140); (· repeat' (first | (refine sub_all ?_; simp [List.length_map, mkS_len, setRow_len]; done) | exact sub_map _ _ _ _ | apply cons_eq | apply obj_eq | apply agg_eq | apply own_eq | apply ro_eq | apply rp_eq | apply fnc_eq | rfl)); refine callp_s (f := 140) rfl (pop_f ⟨_, _, _, _, _, _⟩ (by first | omega | (dsimp only; omega) | (simp; omega)) (by first | omega | (dsimp only; omega) | (simp; omega))) ?_; conv => whnf))
  (refine rq_s (by (rfl)) ?_; conv => whnf)
  iterate 2 (refine fac_s (fun hf => ?_); conv => whnf)
  iterate 3 (refine ChkS.mk (by kernel_rfl) ?_; conv => whnf)
  (refine rq_s (by (rfl)) ?_; conv => whnf)
  iterate 2 (refine ChkS.mk (by kernel_rfl) ?_; conv => whnf)
  (refine rq_s (by (rfl)) ?_; conv => whnf)
  iterate 2 (refine ChkS.mk (by kernel_rfl) ?_; conv => whnf)
  (refine rq_s (by (rfl)) ?_; conv => whnf)
  iterate 2 (refine ChkS.mk (by kernel_rfl) ?_; conv => whnf)
  (refine rq_s (by ((first | (simp [maxBytes, subA]; omega) | (have i1 := inR_t (by assumption); first | (simp only [decide_eq_true_eq]; omega) | (refine and_s rfl ?_; simp only [decide_eq_true_eq, List.length_map]; omega))))) ?_; conv => whnf)
  (refine rq_s (by ((simp only [decide_eq_true_eq, List.length_map, mkS_len, setRow_len]; done))) ?_; conv => whnf)
  (refine rq_s (by ((first | (simp [maxBytes, subA]; omega) | (have i1 := inR_t (by assumption); first | (simp only [decide_eq_true_eq]; omega) | (refine and_s rfl ?_; simp only [decide_eq_true_eq, List.length_map]; omega))))) ?_; conv => whnf)
  (refine ChkS.mk (by kernel_rfl) ?_; conv => whnf)
  (refine rows_s (by (rfl)) ?_; conv => whnf)
  iterate 5 (refine ChkS.mk (by kernel_rfl) ?_; conv => whnf)
  (refine rq_s (by (rfl)) ?_; conv => whnf)
  iterate 3 (refine ChkS.mk (by kernel_rfl) ?_; conv => whnf)
  (refine rq_s (by (rfl)) ?_; conv => whnf)
  (refine ChkS.mk (by kernel_rfl) ?_; conv => whnf)
  (refine rq_s (by ((simp only [decide_eq_true_eq, List.length_map, mkS_len, setRow_len]; done))) ?_; conv => whnf)
  iterate 2 (refine rq_s (by (rfl)) ?_; conv => whnf)
  (refine rq_s (by ((simp only [decide_eq_true_eq, List.length_map, mkS_len, setRow_len]; done))) ?_; conv => whnf)
  (refine rq_s (by ((first | (simp [maxBytes, subA]; omega) | (have i1 := inR_t (by assumption); first | (simp only [decide_eq_true_eq]; omega) | (refine and_s rfl ?_; simp only [decide_eq_true_eq, List.length_map]; omega))))) ?_; conv => whnf)
  (refine app0_s ?_; conv => whnf)
  iterate 2 (refine ChkS.mk (by kernel_rfl) ?_; conv => whnf)
  (refine rq_s (by (rfl)) ?_; conv => whnf)
  iterate 2 (refine ChkS.mk (by kernel_rfl) ?_; conv => whnf)
  (refine br_t rfl ?_; conv => whnf)
  (refine rq_s (by (rfl)) ?_; conv => whnf)
  (focus (refine aftp_s (by ((rw [call1_0 (by assumption) (by omega) (by omega) (by assumption)]; first | done | rfl | (simp [hstC, datC, ownI, ownD, ownB, intR, dealR, subA, List.take_of_length_le, m1 (by assumption), m2 (by omega), m3, m4, List.map_set, List.map_take, List.take_take]; done)))) ?_; conv => whnf))
  iterate 3 (refine rows_s (by ((refine sub_all ?_; simp [List.length_map, mkS_len, setRow_len]; done))) ?_; conv => whnf)
  (refine rows_s (by (rfl)) ?_; conv => whnf)
  (focus (refine aftp_s (by ((rw [call1_0 (by assumption) (by omega) (by omega) (by assumption)]; first | done | rfl | (simp [hstC, datC, ownI, ownD, ownB, intR, dealR, subA, List.take_of_length_le, m1 (by assumption), m2 (by omega), m3, m4, List.map_set, List.map_take, List.take_take]; done)))) ?_; conv => whnf))
  iterate 3 (refine rows_s (by ((refine sub_all ?_; simp [List.length_map, mkS_len, setRow_len]; done))) ?_; conv => whnf)
  (focus (refine aftp_s (by ((rw [call1_0 (by assumption) (by omega) (by omega) (by assumption)]; first | done | rfl | (simp [hstC, datC, ownI, ownD, ownB, intR, dealR, subA, List.take_of_length_le, m1 (by assumption), m2 (by omega), m3, m4, List.map_set, List.map_take, List.take_take]; done)))) ?_; conv => whnf))
  exact True.intro
set_option maxHeartbeats 2000000 in
theorem call2 (h : Hst) (d : Dat) (hg : h.gr.length = 4) (hs : h.st.length = 8) (hq : h.q.length ≤ 20) (hd : h.ds.length ≤ 40) (h1 : d.st.length ≤ 32) : Con Try.prog 103 [.obj (hstC h), .obj (datC d), .int .i64 2] [.obj (hstC (callI h d 2).1), .obj (datC (callI h d 2).2.1), .undef] (.int .i64 (callI h d 2).2.2) := by
  refine Con.evP 134 [500000, 500100] rfl T_ok mix Try.func103 rfl rfl rfl rfl [.tmp 6] rfl ?_
  conv => whnf
  iterate 2 (refine rq_s (by (rfl)) ?_; conv => whnf)
  (refine rq_s (by ((simp only [decide_eq_true_eq, List.length_map, mkS_len, setRow_len]; done))) ?_; conv => whnf)
  (refine rq_s (by ((refine and_s rfl ?_; simp only [decide_eq_true_eq, List.length_map]; omega))) ?_; conv => whnf)
  (refine row_s (by ((try simp only [Int.toNat_natCast]); exact row_map boolR _ _ _ default (by first | omega | (simp; omega)))) ?_; conv => whnf)
  (refine br_s (fun hb => ?_) (fun hb => ?_) <;> (try simp only [beq_iff_eq, bne_iff_ne, ne_eq, decide_eq_true_eq, decide_eq_false_iff_not, Int.not_lt, Int.not_le, Bool.false_eq_true, if_false, if_true, beq_eq_false_iff_ne, bne_eq_false_iff_eq, Bool.not_eq_true', Bool.not_eq_false', Int.ofNat_lt, Int.ofNat_le, Int.ofNat_inj, List.length_map, List.length_nil, List.length_cons] at hb) <;> conv => whnf)
  (refine rq_s (by (rfl)) ?_; conv => whnf)
  (focus (refine aftp_s (by ((rw [call_1 (by assumption)]; first | done | rfl | (simp [hstC, datC, ownI, ownD, ownB, intR, dealR, subA, List.take_of_length_le]; done)))) ?_; conv => whnf))
  iterate 4 (refine rows_s (by ((refine sub_all ?_; simp [List.length_map, mkS_len, setRow_len]; done))) ?_; conv => whnf)
  (focus (refine aftp_s (by ((rw [call_1 (by assumption)]; first | done | rfl | (simp [hstC, datC, ownI, ownD, ownB, intR, dealR, subA, List.take_of_length_le]; done)))) ?_; conv => whnf))
  iterate 3 (refine rows_s (by ((refine sub_all ?_; simp [List.length_map, mkS_len, setRow_len]; done))) ?_; conv => whnf)
  (focus (refine aftp_s (by ((rw [call_1 (by assumption)]; first | done | rfl | (simp [hstC, datC, ownI, ownD, ownB, intR, dealR, subA, List.take_of_length_le]; done)))) ?_; conv => whnf))
  exact True.intro
  (refine rq_s (by (rfl)) ?_; conv => whnf)
  (refine br_s (fun hb => ?_) (fun hb => ?_) <;> (try simp only [beq_iff_eq, bne_iff_ne, ne_eq, decide_eq_true_eq, decide_eq_false_iff_not, Int.not_lt, Int.not_le, Bool.false_eq_true, if_false, if_true, beq_eq_false_iff_ne, bne_eq_false_iff_eq, Bool.not_eq_true', Bool.not_eq_false', Int.ofNat_lt, Int.ofNat_le, Int.ofNat_inj, List.length_map, List.length_nil, List.length_cons] at hb) <;> conv => whnf)
  (refine rq_s (by (rfl)) ?_; conv => whnf)
  (focus (refine aftp_s (by ((rw [call_2 (by assumption) (by omega)]; first | done | rfl | (simp [hstC, datC, ownI, ownD, ownB, intR, dealR, subA, List.take_of_length_le]; done)))) ?_; conv => whnf))
  iterate 4 (refine rows_s (by ((refine sub_all ?_; simp [List.length_map, mkS_len, setRow_len]; done))) ?_; conv => whnf)
  (focus (refine aftp_s (by ((rw [call_2 (by assumption) (by omega)]; first | done | rfl | (simp [hstC, datC, ownI, ownD, ownB, intR, dealR, subA, List.take_of_length_le]; done)))) ?_; conv => whnf))
  iterate 3 (refine rows_s (by ((refine sub_all ?_; simp [List.length_map, mkS_len, setRow_len]; done))) ?_; conv => whnf)
  (focus (refine aftp_s (by ((rw [call_2 (by assumption) (by omega)]; first | done | rfl | (simp [hstC, datC, ownI, ownD, ownB, intR, dealR, subA, List.take_of_length_le]; done)))) ?_; conv => whnf))
  exact True.intro
  iterate 3 (refine ChkS.mk (by kernel_rfl) ?_; conv => whnf)
  (refine rq_s (by (rfl)) ?_; conv => whnf)
  iterate 3 (refine ChkS.mk (by kernel_rfl) ?_; conv => whnf)
  (refine rq_s (by (rfl)) ?_; conv => whnf)
  iterate 2 (refine ChkS.mk (by kernel_rfl) ?_; conv => whnf)
  (refine rq_s (by (rfl)) ?_; conv => whnf)
  (refine rq_s (by ((simp only [decide_eq_true_eq, List.length_map, mkS_len, setRow_len]; done))) ?_; conv => whnf)
  (refine rq_s (by (rfl)) ?_; conv => whnf)
  (refine ChkS.mk (by kernel_rfl) ?_; conv => whnf)
  (refine row_s (by (rfl)) ?_; conv => whnf)
  iterate 3 (refine ChkS.mk (by kernel_rfl) ?_; conv => whnf)
  (refine br_s (fun hb => ?_) (fun hb => ?_) <;> (try simp only [beq_iff_eq, bne_iff_ne, ne_eq, decide_eq_true_eq, decide_eq_false_iff_not, Int.not_lt, Int.not_le, Bool.false_eq_true, if_false, if_true, beq_eq_false_iff_ne, bne_eq_false_iff_eq, Bool.not_eq_true', Bool.not_eq_false', Int.ofNat_lt, Int.ofNat_le, Int.ofNat_inj, List.length_map, List.length_nil, List.length_cons] at hb) <;> conv => whnf)
  (refine rq_s (by (rfl)) ?_; conv => whnf)
  (focus (refine aftp_s (by ((rw [call2_4 (by assumption) (by omega) (by omega)]; first | done | rfl | (simp [hstC, datC, ownI, ownD, ownB, intR, dealR, subA, List.take_of_length_le]; done)))) ?_; conv => whnf))
  iterate 4 (refine rows_s (by ((refine sub_all ?_; simp [List.length_map, mkS_len, setRow_len]; done))) ?_; conv => whnf)
  (focus (refine aftp_s (by ((rw [call2_4 (by assumption) (by omega) (by omega)]; first | done | rfl | (simp [hstC, datC, ownI, ownD, ownB, intR, dealR, subA, List.take_of_length_le]; done)))) ?_; conv => whnf))
  iterate 3 (refine rows_s (by ((refine sub_all ?_; simp [List.length_map, mkS_len, setRow_len]; done))) ?_; conv => whnf)
  (focus (refine aftp_s (by ((rw [call2_4 (by assumption) (by omega) (by omega)]; first | done | rfl | (simp [hstC, datC, ownI, ownD, ownB, intR, dealR, subA, List.take_of_length_le]; done)))) ?_; conv => whnf))
  exact True.intro
  iterate 8 (refine br_f rfl ?_; conv => whnf)
  (refine rq_s (by (rfl)) ?_; conv => whnf)
  (refine br_t rfl ?_; conv => whnf)
  (refine handp_s 140 [some 6] ?_; conv => whnf)
  (refine rq_s (by (rfl)) ?_; conv => whnf)
  (focus (apply callpe_s (f := 140); (· repeat' (first | (refine sub_all ?_; simp [List.length_map, mkS_len, setRow_len]; done) | exact sub_map _ _ _ _ | apply cons_eq | apply obj_eq | apply agg_eq | apply own_eq | apply ro_eq | apply rp_eq | apply fnc_eq | rfl)); refine callp_s (f := 140) rfl (pop_f ⟨_, _, _, _, _, _⟩ (by first | omega | (dsimp only; omega) | (simp; omega)) (by first | omega | (dsimp only; omega) | (simp; omega))) ?_; conv => whnf))
  (refine rq_s (by (rfl)) ?_; conv => whnf)
  iterate 2 (refine fac_s (fun hf => ?_); conv => whnf)
  iterate 2 (refine br_f rfl ?_; conv => whnf)
  (refine br_t rfl ?_; conv => whnf)
  (refine rq_s (by (rfl)) ?_; conv => whnf)
  (refine br_s (fun hb => ?_) (fun hb => ?_) <;> (try simp only [beq_iff_eq, bne_iff_ne, ne_eq, decide_eq_true_eq, decide_eq_false_iff_not, Int.not_lt, Int.not_le, Bool.false_eq_true, if_false, if_true, beq_eq_false_iff_ne, bne_eq_false_iff_eq, Bool.not_eq_true', Bool.not_eq_false', Int.ofNat_lt, Int.ofNat_le, Int.ofNat_inj, List.length_map, List.length_nil, List.length_cons] at hb) <;> conv => whnf)
  iterate 4 (refine ChkS.mk (by kernel_rfl) ?_; conv => whnf)
  (refine rq_s (by (rfl)) ?_; conv => whnf)
  iterate 2 (refine ChkS.mk (by kernel_rfl) ?_; conv => whnf)
  (refine rq_s (by (rfl)) ?_; conv => whnf)
  (refine rq_s (by ((simp only [decide_eq_true_eq, List.length_map, mkS_len, setRow_len]; done))) ?_; conv => whnf)
  (refine rq_s (by ((refine and_s rfl ?_; simp only [decide_eq_true_eq, List.length_map]; omega))) ?_; conv => whnf)
  (refine ChkS.mk (by kernel_rfl) ?_; conv => whnf)
  (refine row_s (by ((try simp only [Int.toNat_natCast]); exact row_map intR _ _ _ default (by first | omega | (simp; omega) | (have i1 := inR_t (by assumption); omega)))) ?_; conv => whnf)
  iterate 3 (refine ChkS.mk (by kernel_rfl) ?_; conv => whnf)
  (refine rq_s (by (rfl)) ?_; conv => whnf)
  iterate 2 (refine ChkS.mk (by kernel_rfl) ?_; conv => whnf)
  (refine rq_s (by (rfl)) ?_; conv => whnf)
  (refine rq_s (by ((simp only [Bool.and_eq_true, decide_eq_true_eq, List.length_map]; omega))) ?_; conv => whnf)
  (refine rq_s (by ((simp only [decide_eq_true_eq, List.length_map, mkS_len, setRow_len]; done))) ?_; conv => whnf)
  (refine rq_s (by (rfl)) ?_; conv => whnf)
  (refine ChkS.mk (by kernel_rfl) ?_; conv => whnf)
  (refine rq_s (by (rfl)) ?_; conv => whnf)
  iterate 3 (refine ChkS.mk (by kernel_rfl) ?_; conv => whnf)
  (refine rq_s (by (rfl)) ?_; conv => whnf)
  iterate 6 (refine ChkS.mk (by kernel_rfl) ?_; conv => whnf)
  (refine rq_s (by (rfl)) ?_; conv => whnf)
  iterate 3 (refine ChkS.mk (by kernel_rfl) ?_; conv => whnf)
  (refine rq_s (by (rfl)) ?_; conv => whnf)
  (refine ChkS.mk (by kernel_rfl) ?_; conv => whnf)
  (refine rq_s (by ((simp only [decide_eq_true_eq, List.length_map, mkS_len, setRow_len]; done))) ?_; conv => whnf)
  iterate 2 (refine rq_s (by (rfl)) ?_; conv => whnf)
  (refine rq_s (by ((simp only [decide_eq_true_eq, List.length_map, mkS_len, setRow_len]; done))) ?_; conv => whnf)
  (refine rq_s (by ((first | (simp [maxBytes, subA]; omega) | (have i1 := inR_t (by assumption); first | (simp only [decide_eq_true_eq]; omega) | (refine and_s rfl ?_; simp only [decide_eq_true_eq, List.length_map]; omega))))) ?_; conv => whnf)
  (refine app0_s ?_; conv => whnf)
  iterate 2 (refine ChkS.mk (by kernel_rfl) ?_; conv => whnf)
  (refine rq_s (by (rfl)) ?_; conv => whnf)
  iterate 2 (refine ChkS.mk (by kernel_rfl) ?_; conv => whnf)
  (refine br_f rfl ?_; conv => whnf)
  (refine rq_s (by (rfl)) ?_; conv => whnf)
  (refine handp_s 141 [some 6, none] ?_; conv => whnf)
  iterate 2 (refine rq_s (by (rfl)) ?_; conv => whnf)
  (focus (apply callpe_s (f := 141); (· repeat' (first | (refine sub_all ?_; simp [List.length_map, mkS_len, setRow_len]; done) | exact sub_map _ _ _ _ | apply cons_eq | apply obj_eq | apply agg_eq | apply own_eq | apply ro_eq | apply rp_eq | apply fnc_eq | rfl)); refine callp_s (f := 141) rfl (push_f ⟨_, _, _, _, _, _⟩ _ (by first | omega | (dsimp only; omega) | (simp; omega)) (by first | omega | (dsimp only; omega) | (simp; omega))) ?_; conv => whnf))
  (refine fac_s (fun hf => ?_); conv => whnf)
  (refine rq_s (by (rfl)) ?_; conv => whnf)
  (focus (refine aftp_s (by ((rw [call2_0 (by assumption) (by omega) (by omega)]; first | done | rfl | (simp [hstC, datC, ownI, ownD, ownB, intR, dealR, subA, List.take_of_length_le]; done)))) ?_; conv => whnf))
  iterate 3 (refine rows_s (by ((refine sub_all ?_; simp [List.length_map, mkS_len, setRow_len]; done))) ?_; conv => whnf)
  (refine rows_s (by (rfl)) ?_; conv => whnf)
  (focus (refine aftp_s (by ((rw [call2_0 (by assumption) (by omega) (by omega)]; first | done | rfl | (simp [hstC, datC, ownI, ownD, ownB, intR, dealR, subA, List.take_of_length_le]; done)))) ?_; conv => whnf))
  iterate 3 (refine rows_s (by ((refine sub_all ?_; simp [List.length_map, mkS_len, setRow_len]; done))) ?_; conv => whnf)
  (focus (refine aftp_s (by ((rw [call2_0 (by assumption) (by omega) (by omega)]; first | done | rfl | (simp [hstC, datC, ownI, ownD, ownB, intR, dealR, subA, List.take_of_length_le]; done)))) ?_; conv => whnf))
  exact True.intro
  iterate 4 (refine ChkS.mk (by kernel_rfl) ?_; conv => whnf)
  (refine rq_s (by (rfl)) ?_; conv => whnf)
  iterate 3 (refine ChkS.mk (by kernel_rfl) ?_; conv => whnf)
  (refine rq_s (by (rfl)) ?_; conv => whnf)
  (refine ChkS.mk (by kernel_rfl) ?_; conv => whnf)
  (refine rq_s (by ((simp only [decide_eq_true_eq, List.length_map, mkS_len, setRow_len]; done))) ?_; conv => whnf)
  iterate 2 (refine rq_s (by (rfl)) ?_; conv => whnf)
  (refine rq_s (by ((simp only [decide_eq_true_eq, List.length_map, mkS_len, setRow_len]; done))) ?_; conv => whnf)
  (refine rq_s (by ((first | (simp [maxBytes, subA]; omega) | (have i1 := inR_t (by assumption); first | (simp only [decide_eq_true_eq]; omega) | (refine and_s rfl ?_; simp only [decide_eq_true_eq, List.length_map]; omega))))) ?_; conv => whnf)
  (refine app0_s ?_; conv => whnf)
  iterate 2 (refine ChkS.mk (by kernel_rfl) ?_; conv => whnf)
  (refine rq_s (by (rfl)) ?_; conv => whnf)
  iterate 2 (refine ChkS.mk (by kernel_rfl) ?_; conv => whnf)
  (refine br_f rfl ?_; conv => whnf)
  (refine rq_s (by (rfl)) ?_; conv => whnf)
  (refine handp_s 141 [some 6, none] ?_; conv => whnf)
  iterate 2 (refine rq_s (by (rfl)) ?_; conv => whnf)
  (focus (apply callpe_s (f := 141); (· repeat' (first | (refine sub_all ?_; simp [List.length_map, mkS_len, setRow_len]; done) | exact sub_map _ _ _ _ | apply cons_eq | apply obj_eq | apply agg_eq | apply own_eq | apply ro_eq | apply rp_eq | apply fnc_eq | rfl)); refine callp_s (f := 141) rfl (push_f ⟨_, _, _, _, _, _⟩ _ (by first | omega | (dsimp only; omega) | (simp; omega)) (by first | omega | (dsimp only; omega) | (simp; omega))) ?_; conv => whnf))
  (refine fac_s (fun hf => ?_); conv => whnf)
  (refine rq_s (by (rfl)) ?_; conv => whnf)
  (focus (refine aftp_s (by ((rw [call2_e (by assumption) (by omega) (by omega) (by omega)]; first | done | rfl | (simp [hstC, datC, ownI, ownD, ownB, intR, dealR, subA, List.take_of_length_le]; done)))) ?_; conv => whnf))
  iterate 3 (refine rows_s (by ((refine sub_all ?_; simp [List.length_map, mkS_len, setRow_len]; done))) ?_; conv => whnf)
  (refine rows_s (by (rfl)) ?_; conv => whnf)
  (focus (refine aftp_s (by ((rw [call2_e (by assumption) (by omega) (by omega) (by omega)]; first | done | rfl | (simp [hstC, datC, ownI, ownD, ownB, intR, dealR, subA, List.take_of_length_le]; done)))) ?_; conv => whnf))
  iterate 3 (refine rows_s (by ((refine sub_all ?_; simp [List.length_map, mkS_len, setRow_len]; done))) ?_; conv => whnf)
  (focus (refine aftp_s (by ((rw [call2_e (by assumption) (by omega) (by omega) (by omega)]; first | done | rfl | (simp [hstC, datC, ownI, ownD, ownB, intR, dealR, subA, List.take_of_length_le]; done)))) ?_; conv => whnf))
  exact True.intro
set_option maxHeartbeats 2000000 in
theorem call3 (h : Hst) (d : Dat) (hg : h.gr.length = 4) (hs : h.st.length = 8) (hq : h.q.length ≤ 20) (hd : h.ds.length ≤ 40) (h1 : d.st.length ≤ 32) : Con Try.prog 103 [.obj (hstC h), .obj (datC d), .int .i64 3] [.obj (hstC (callI h d 3).1), .obj (datC (callI h d 3).2.1), .undef] (.int .i64 (callI h d 3).2.2) := by
  refine Con.evP 134 [500000, 500100] rfl T_ok mix Try.func103 rfl rfl rfl rfl [.tmp 6] rfl ?_
  conv => whnf
  iterate 2 (refine rq_s (by (rfl)) ?_; conv => whnf)
  (refine rq_s (by ((simp only [decide_eq_true_eq, List.length_map, mkS_len, setRow_len]; done))) ?_; conv => whnf)
  (refine rq_s (by ((refine and_s rfl ?_; simp only [decide_eq_true_eq, List.length_map]; omega))) ?_; conv => whnf)
  (refine row_s (by ((try simp only [Int.toNat_natCast]); exact row_map boolR _ _ _ default (by first | omega | (simp; omega)))) ?_; conv => whnf)
  (refine br_s (fun hb => ?_) (fun hb => ?_) <;> (try simp only [beq_iff_eq, bne_iff_ne, ne_eq, decide_eq_true_eq, decide_eq_false_iff_not, Int.not_lt, Int.not_le, Bool.false_eq_true, if_false, if_true, beq_eq_false_iff_ne, bne_eq_false_iff_eq, Bool.not_eq_true', Bool.not_eq_false', Int.ofNat_lt, Int.ofNat_le, Int.ofNat_inj, List.length_map, List.length_nil, List.length_cons] at hb) <;> conv => whnf)
  (refine rq_s (by (rfl)) ?_; conv => whnf)
  (focus (refine aftp_s (by ((rw [call_1 (by assumption)]; first | done | rfl | (simp [hstC, datC, ownI, ownD, ownB, intR, dealR, subA, List.take_of_length_le]; done)))) ?_; conv => whnf))
  iterate 4 (refine rows_s (by ((refine sub_all ?_; simp [List.length_map, mkS_len, setRow_len]; done))) ?_; conv => whnf)
  (focus (refine aftp_s (by ((rw [call_1 (by assumption)]; first | done | rfl | (simp [hstC, datC, ownI, ownD, ownB, intR, dealR, subA, List.take_of_length_le]; done)))) ?_; conv => whnf))
  iterate 3 (refine rows_s (by ((refine sub_all ?_; simp [List.length_map, mkS_len, setRow_len]; done))) ?_; conv => whnf)
  (focus (refine aftp_s (by ((rw [call_1 (by assumption)]; first | done | rfl | (simp [hstC, datC, ownI, ownD, ownB, intR, dealR, subA, List.take_of_length_le]; done)))) ?_; conv => whnf))
  exact True.intro
  (refine rq_s (by (rfl)) ?_; conv => whnf)
  (refine br_s (fun hb => ?_) (fun hb => ?_) <;> (try simp only [beq_iff_eq, bne_iff_ne, ne_eq, decide_eq_true_eq, decide_eq_false_iff_not, Int.not_lt, Int.not_le, Bool.false_eq_true, if_false, if_true, beq_eq_false_iff_ne, bne_eq_false_iff_eq, Bool.not_eq_true', Bool.not_eq_false', Int.ofNat_lt, Int.ofNat_le, Int.ofNat_inj, List.length_map, List.length_nil, List.length_cons] at hb) <;> conv => whnf)
  (refine rq_s (by (rfl)) ?_; conv => whnf)
  (focus (refine aftp_s (by ((rw [call_2 (by assumption) (by omega)]; first | done | rfl | (simp [hstC, datC, ownI, ownD, ownB, intR, dealR, subA, List.take_of_length_le]; done)))) ?_; conv => whnf))
  iterate 4 (refine rows_s (by ((refine sub_all ?_; simp [List.length_map, mkS_len, setRow_len]; done))) ?_; conv => whnf)
  (focus (refine aftp_s (by ((rw [call_2 (by assumption) (by omega)]; first | done | rfl | (simp [hstC, datC, ownI, ownD, ownB, intR, dealR, subA, List.take_of_length_le]; done)))) ?_; conv => whnf))
  iterate 3 (refine rows_s (by ((refine sub_all ?_; simp [List.length_map, mkS_len, setRow_len]; done))) ?_; conv => whnf)
  (focus (refine aftp_s (by ((rw [call_2 (by assumption) (by omega)]; first | done | rfl | (simp [hstC, datC, ownI, ownD, ownB, intR, dealR, subA, List.take_of_length_le]; done)))) ?_; conv => whnf))
  exact True.intro
  iterate 3 (refine ChkS.mk (by kernel_rfl) ?_; conv => whnf)
  (refine rq_s (by (rfl)) ?_; conv => whnf)
  iterate 3 (refine ChkS.mk (by kernel_rfl) ?_; conv => whnf)
  (refine rq_s (by (rfl)) ?_; conv => whnf)
  iterate 2 (refine ChkS.mk (by kernel_rfl) ?_; conv => whnf)
  (refine rq_s (by (rfl)) ?_; conv => whnf)
  (refine rq_s (by ((simp only [decide_eq_true_eq, List.length_map, mkS_len, setRow_len]; done))) ?_; conv => whnf)
  (refine rq_s (by (rfl)) ?_; conv => whnf)
  (refine ChkS.mk (by kernel_rfl) ?_; conv => whnf)
  (refine row_s (by (rfl)) ?_; conv => whnf)
  iterate 3 (refine ChkS.mk (by kernel_rfl) ?_; conv => whnf)
  (refine br_f rfl ?_; conv => whnf)
  iterate 3 (refine br_t rfl ?_; conv => whnf)
  (refine rq_s (by (rfl)) ?_; conv => whnf)
  iterate 3 (refine br_t rfl ?_; conv => whnf)
  (refine br_s (fun hb => ?_) (fun hb => ?_) <;> (try simp only [beq_iff_eq, bne_iff_ne, ne_eq, decide_eq_true_eq, decide_eq_false_iff_not, Int.not_lt, Int.not_le, Bool.false_eq_true, if_false, if_true, beq_eq_false_iff_ne, bne_eq_false_iff_eq, Bool.not_eq_true', Bool.not_eq_false', Int.ofNat_lt, Int.ofNat_le, Int.ofNat_inj, List.length_map, List.length_nil, List.length_cons] at hb) <;> conv => whnf)
  (refine rq_s (by (rfl)) ?_; conv => whnf)
  (focus (refine aftp_s (by ((rw [call3_3 (by assumption) (by omega) (by omega)]; first | done | rfl | (simp [hstC, datC, ownI, ownD, ownB, intR, dealR, subA, List.take_of_length_le]; done)))) ?_; conv => whnf))
  iterate 4 (refine rows_s (by ((refine sub_all ?_; simp [List.length_map, mkS_len, setRow_len]; done))) ?_; conv => whnf)
  (focus (refine aftp_s (by ((rw [call3_3 (by assumption) (by omega) (by omega)]; first | done | rfl | (simp [hstC, datC, ownI, ownD, ownB, intR, dealR, subA, List.take_of_length_le]; done)))) ?_; conv => whnf))
  iterate 3 (refine rows_s (by ((refine sub_all ?_; simp [List.length_map, mkS_len, setRow_len]; done))) ?_; conv => whnf)
  (focus (refine aftp_s (by ((rw [call3_3 (by assumption) (by omega) (by omega)]; first | done | rfl | (simp [hstC, datC, ownI, ownD, ownB, intR, dealR, subA, List.take_of_length_le]; done)))) ?_; conv => whnf))
  exact True.intro
  (refine rq_s (by (rfl)) ?_; conv => whnf)
  iterate 4 (refine br_f rfl ?_; conv => whnf)
  iterate 2 (refine rq_s (by (rfl)) ?_; conv => whnf)
  iterate 4 (refine ChkS.mk (by kernel_rfl) ?_; conv => whnf)
  (refine rq_s (by (rfl)) ?_; conv => whnf)
  iterate 3 (refine ChkS.mk (by kernel_rfl) ?_; conv => whnf)
  (refine rq_s (by (rfl)) ?_; conv => whnf)
  (refine ChkS.mk (by kernel_rfl) ?_; conv => whnf)
  (refine rq_s (by ((simp only [decide_eq_true_eq, List.length_map, mkS_len, setRow_len]; done))) ?_; conv => whnf)
  iterate 2 (refine rq_s (by (rfl)) ?_; conv => whnf)
  (refine rq_s (by ((simp only [decide_eq_true_eq, List.length_map, mkS_len, setRow_len]; done))) ?_; conv => whnf)
  (refine rq_s (by ((first | (simp [maxBytes, subA]; omega) | (have i1 := inR_t (by assumption); first | (simp only [decide_eq_true_eq]; omega) | (refine and_s rfl ?_; simp only [decide_eq_true_eq, List.length_map]; omega))))) ?_; conv => whnf)
  (refine app0_s ?_; conv => whnf)
  iterate 2 (refine ChkS.mk (by kernel_rfl) ?_; conv => whnf)
  (refine rq_s (by (rfl)) ?_; conv => whnf)
  iterate 2 (refine ChkS.mk (by kernel_rfl) ?_; conv => whnf)
  (refine br_f rfl ?_; conv => whnf)
  (refine rq_s (by (rfl)) ?_; conv => whnf)
  (refine handp_s 141 [some 6, none] ?_; conv => whnf)
  iterate 2 (refine rq_s (by (rfl)) ?_; conv => whnf)
  (focus (apply callpe_s (f := 141); (· repeat' (first | (refine sub_all ?_; simp [List.length_map, mkS_len, setRow_len]; done) | exact sub_map _ _ _ _ | apply cons_eq | apply obj_eq | apply agg_eq | apply own_eq | apply ro_eq | apply rp_eq | apply fnc_eq | rfl)); refine callp_s (f := 141) rfl (push_f ⟨_, _, _, _, _, _⟩ _ (by first | omega | (dsimp only; omega) | (simp; omega)) (by first | omega | (dsimp only; omega) | (simp; omega))) ?_; conv => whnf))
  (refine fac_s (fun hf => ?_); conv => whnf)
  (refine rq_s (by (rfl)) ?_; conv => whnf)
  (focus (refine aftp_s (by ((rw [call3_0 (by assumption) (by omega) (by omega)]; first | done | rfl | (simp [hstC, datC, ownI, ownD, ownB, intR, dealR, subA, List.take_of_length_le]; done)))) ?_; conv => whnf))
  iterate 3 (refine rows_s (by ((refine sub_all ?_; simp [List.length_map, mkS_len, setRow_len]; done))) ?_; conv => whnf)
  (refine rows_s (by (rfl)) ?_; conv => whnf)
  (focus (refine aftp_s (by ((rw [call3_0 (by assumption) (by omega) (by omega)]; first | done | rfl | (simp [hstC, datC, ownI, ownD, ownB, intR, dealR, subA, List.take_of_length_le]; done)))) ?_; conv => whnf))
  iterate 3 (refine rows_s (by ((refine sub_all ?_; simp [List.length_map, mkS_len, setRow_len]; done))) ?_; conv => whnf)
  (focus (refine aftp_s (by ((rw [call3_0 (by assumption) (by omega) (by omega)]; first | done | rfl | (simp [hstC, datC, ownI, ownD, ownB, intR, dealR, subA, List.take_of_length_le]; done)))) ?_; conv => whnf))
  exact True.intro
end H2
