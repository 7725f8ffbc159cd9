import Derived.Test.YtdbjklhadnnbdaaItV
import Derived.Test.YtdbjklhadnnbdaaAbsd
import Derived.Test.YtdbjklhadnnbdaaAbsi
import Derived.Test.YtdbjklhadnnbdaaAbse
/- Cells, ranges, valid hosts and data, copies of them: contracts. -/
set_option linter.unusedVariables false
set_option linter.unusedSimpArgs false
set_option maxRecDepth 100000
open Go Go.Abs Go.Proofs V1
namespace H1

theorem c68 (n lo hi : Int) : Con Try.prog 68 [.int .i64 n, .int .i64 lo, .int .i64 hi] (undefs [.int .i64 n, .int .i64 lo, .int .i64 hi]) (.bool (inR n lo hi)) := by
  refine Con.ev 15 T_ok mix Try.func68 rfl rfl rfl rfl [.tmp 6] rfl ?_
  conv => whnf
  (refine br_s (fun hb => ?_) (fun hb => ?_) <;> (try simp only [beq_iff_eq, bne_iff_ne, ne_eq, decide_eq_true_eq, decide_eq_false_iff_not, Int.not_lt, Int.not_le, Bool.false_eq_true, if_false, if_true, beq_eq_false_iff_ne, bne_eq_false_iff_eq, Bool.not_eq_true', Bool.not_eq_false', Int.ofNat_lt, Int.ofNat_le, Int.ofNat_inj, List.length_map, List.length_nil, List.length_cons] at hb) <;> conv => whnf)
  iterate 2 (refine br_t rfl ?_; conv => whnf)
  (refine rq_s (by (rfl)) ?_; conv => whnf)
  (focus (refine sh_s ?_; (first | (simp_all [inR]; done) | (simp_all [inR]; omega))))
  iterate 3 (refine br_f rfl ?_; conv => whnf)
  (refine rq_s (by (rfl)) ?_; conv => whnf)
  (focus (refine sh_s ?_; (first | (simp_all [inR]; done) | (simp_all [inR]; omega))))
theorem c54 (n lo hi : Int) : Con Try.prog 54 [.int .i64 n, .int .i64 lo, .int .i64 hi] (undefs [.int .i64 n, .int .i64 lo, .int .i64 hi]) (.bool (inR n lo hi)) := by
  refine Con.ev 15 T_ok mix Try.func54 rfl rfl rfl rfl [.tmp 6] rfl ?_
  conv => whnf
  (refine br_s (fun hb => ?_) (fun hb => ?_) <;> (try simp only [beq_iff_eq, bne_iff_ne, ne_eq, decide_eq_true_eq, decide_eq_false_iff_not, Int.not_lt, Int.not_le, Bool.false_eq_true, if_false, if_true, beq_eq_false_iff_ne, bne_eq_false_iff_eq, Bool.not_eq_true', Bool.not_eq_false', Int.ofNat_lt, Int.ofNat_le, Int.ofNat_inj, List.length_map, List.length_nil, List.length_cons] at hb) <;> conv => whnf)
  iterate 2 (refine br_t rfl ?_; conv => whnf)
  (refine rq_s (by (rfl)) ?_; conv => whnf)
  (focus (refine sh_s ?_; (first | (simp_all [inR]; done) | (simp_all [inR]; omega))))
  iterate 3 (refine br_f rfl ?_; conv => whnf)
  (refine rq_s (by (rfl)) ?_; conv => whnf)
  (focus (refine sh_s ?_; (first | (simp_all [inR]; done) | (simp_all [inR]; omega))))
theorem c50 (n : Int) : Con Try.prog 50 [.int .i64 n] (undefs [.int .i64 n]) (.bool (inR n 0 3)) := by
  refine Con.ev 5 T_ok mix Try.func50 rfl rfl rfl rfl [.tmp 2] rfl ?_
  conv => whnf
  iterate 3 (refine rq_s (by (rfl)) ?_; conv => whnf)
  (refine lend_s ?_; conv => whnf)
  (refine call_s (c68 ..) ?_; conv => whnf)
  (refine rq_s (by (rfl)) ?_; conv => whnf)
  (refine sh_s ?_; (rfl))
theorem c101 (n : Int) : Con Try.prog 101 [.int .i64 n] (undefs [.int .i64 n]) (.bool (inR n 2 16)) := by
  refine Con.ev 5 T_ok mix Try.func101 rfl rfl rfl rfl [.tmp 2] rfl ?_
  conv => whnf
  iterate 3 (refine rq_s (by (rfl)) ?_; conv => whnf)
  (refine lend_s ?_; conv => whnf)
  (refine call_s (c68 ..) ?_; conv => whnf)
  (refine rq_s (by (rfl)) ?_; conv => whnf)
  (refine sh_s ?_; (rfl))
theorem c106 (n : Int) : Con Try.prog 106 [.int .i64 n] (undefs [.int .i64 n]) (.bool (inR n 2 16)) := by
  refine Con.ev 5 T_ok mix Try.func106 rfl rfl rfl rfl [.tmp 2] rfl ?_
  conv => whnf
  iterate 3 (refine rq_s (by (rfl)) ?_; conv => whnf)
  (refine lend_s ?_; conv => whnf)
  (refine call_s (c54 ..) ?_; conv => whnf)
  (refine rq_s (by (rfl)) ?_; conv => whnf)
  (refine sh_s ?_; (rfl))
theorem c142 (n : Int) : Con Try.prog 142 [.int .i64 n] (undefs [.int .i64 n]) (.bool (cell n)) := by
  refine Con.ev 5 T_ok mix Try.func142 rfl rfl rfl rfl [.tmp 2] rfl ?_
  conv => whnf
  iterate 3 (refine rq_s (by (rfl)) ?_; conv => whnf)
  (refine lend_s ?_; conv => whnf)
  (refine call_s (c54 ..) ?_; conv => whnf)
  (refine rq_s (by (rfl)) ?_; conv => whnf)
  (refine sh_s ?_; (rfl))
theorem c118 (n : Int) : Con Try.prog 118 [.int .i64 n] (undefs [.int .i64 n]) (.int .i64 (IntKind.i64.wrap (IntKind.i32.wrap n))) := by
  refine Con.ev 6 T_ok mix Try.func118 rfl rfl rfl rfl [.tmp 2] rfl ?_
  conv => whnf
  (refine rq_s (by (rfl)) ?_; conv => whnf)
  (refine sh_s ?_; (rfl))
theorem c62 (n : Int) : Con Try.prog 62 [.int .i64 n] (undefs [.int .i64 n]) (.bool (cell n)) := by
  refine Con.evF 7 T_ok mix Try.func62 rfl rfl rfl rfl [.tmp 2] rfl fun ⟨h, _⟩ => ?_
  have h := facts_int h
  conv => whnf
  (refine rq_s (by (rfl)) ?_; conv => whnf)
  (refine lend_s ?_; conv => whnf)
  (refine call_s (c118 ..) ?_; conv => whnf)
  (refine fac_s (fun hf => ?_); conv => whnf)
  (refine rq_s (by (rfl)) ?_; conv => whnf)
  (refine sh_s ?_; ((rw [← wrap_cell h.1 h.2])))
theorem c105 (d : Deal) : Con Try.prog 105 [dealV d] (undefs [dealV d]) (.bool (dealOK d)) := by
  refine Con.ev 21 T_ok mix Try.func105 rfl rfl rfl rfl [.tmp 2] rfl ?_
  conv => whnf
  iterate 5 (refine rq_s (by (rfl)) ?_; conv => whnf)
  (refine lend_s ?_; conv => whnf)
  (refine call_s (c54 ..) ?_; conv => whnf)
  (refine br_s (fun hb => ?_) (fun hb => ?_) <;> (try simp only [beq_iff_eq, bne_iff_ne, ne_eq, decide_eq_true_eq, decide_eq_false_iff_not, Int.not_lt, Int.not_le, Bool.false_eq_true, if_false, if_true, beq_eq_false_iff_ne, bne_eq_false_iff_eq, Bool.not_eq_true', Bool.not_eq_false', Int.ofNat_lt, Int.ofNat_le, Int.ofNat_inj, List.length_map, List.length_nil, List.length_cons] at hb) <;> conv => whnf)
  (refine rq_s (by (rfl)) ?_; conv => whnf)
  iterate 2 (refine br_t rfl ?_; conv => whnf)
  (refine rq_s (by (rfl)) ?_; conv => whnf)
  (refine lend_s ?_; conv => whnf)
  (refine call_s (c142 ..) ?_; conv => whnf)
  (refine br_s (fun hb => ?_) (fun hb => ?_) <;> (try simp only [beq_iff_eq, bne_iff_ne, ne_eq, decide_eq_true_eq, decide_eq_false_iff_not, Int.not_lt, Int.not_le, Bool.false_eq_true, if_false, if_true, beq_eq_false_iff_ne, bne_eq_false_iff_eq, Bool.not_eq_true', Bool.not_eq_false', Int.ofNat_lt, Int.ofNat_le, Int.ofNat_inj, List.length_map, List.length_nil, List.length_cons] at hb) <;> conv => whnf)
  (refine rq_s (by (rfl)) ?_; conv => whnf)
  iterate 2 (refine br_t rfl ?_; conv => whnf)
  (refine rq_s (by (rfl)) ?_; conv => whnf)
  (refine lend_s ?_; conv => whnf)
  (refine call_s (c142 ..) ?_; conv => whnf)
  (refine br_s (fun hb => ?_) (fun hb => ?_) <;> (try simp only [beq_iff_eq, bne_iff_ne, ne_eq, decide_eq_true_eq, decide_eq_false_iff_not, Int.not_lt, Int.not_le, Bool.false_eq_true, if_false, if_true, beq_eq_false_iff_ne, bne_eq_false_iff_eq, Bool.not_eq_true', Bool.not_eq_false', Int.ofNat_lt, Int.ofNat_le, Int.ofNat_inj, List.length_map, List.length_nil, List.length_cons] at hb) <;> conv => whnf)
  (refine rq_s (by (rfl)) ?_; conv => whnf)
  iterate 2 (refine br_t rfl ?_; conv => whnf)
  (refine rq_s (by (rfl)) ?_; conv => whnf)
  (refine lend_s ?_; conv => whnf)
  (refine call_s (c142 ..) ?_; conv => whnf)
  (refine rq_s (by (rfl)) ?_; conv => whnf)
  (focus (refine sh_s ?_; (first | (simp_all [dealOK]; done) | (simp_all [dealOK]; rfl))))
  iterate 3 (refine br_f rfl ?_; conv => whnf)
  (refine rq_s (by (rfl)) ?_; conv => whnf)
  (focus (refine sh_s ?_; (first | (simp_all [dealOK]; done) | (simp_all [dealOK]; rfl))))
  iterate 7 (refine br_f rfl ?_; conv => whnf)
  (refine rq_s (by (rfl)) ?_; conv => whnf)
  (focus (refine sh_s ?_; (first | (simp_all [dealOK]; done) | (simp_all [dealOK]; rfl))))
  iterate 11 (refine br_f rfl ?_; conv => whnf)
  (refine rq_s (by (rfl)) ?_; conv => whnf)
  (focus (refine sh_s ?_; (first | (simp_all [dealOK]; done) | (simp_all [dealOK]; rfl))))
theorem c100 (d : Deal) : Con Try.prog 100 [dealV d] (undefs [dealV d]) (.bool (dealOK d)) := by
  refine Con.ev 21 T_ok mix Try.func100 rfl rfl rfl rfl [.tmp 2] rfl ?_
  conv => whnf
  iterate 3 (refine rq_s (by (rfl)) ?_; conv => whnf)
  (refine lend_s ?_; conv => whnf)
  (refine call_s (c50 ..) ?_; conv => whnf)
  (refine br_s (fun hb => ?_) (fun hb => ?_) <;> (try simp only [beq_iff_eq, bne_iff_ne, ne_eq, decide_eq_true_eq, decide_eq_false_iff_not, Int.not_lt, Int.not_le, Bool.false_eq_true, if_false, if_true, beq_eq_false_iff_ne, bne_eq_false_iff_eq, Bool.not_eq_true', Bool.not_eq_false', Int.ofNat_lt, Int.ofNat_le, Int.ofNat_inj, List.length_map, List.length_nil, List.length_cons] at hb) <;> conv => whnf)
  (refine rq_s (by (rfl)) ?_; conv => whnf)
  iterate 2 (refine br_t rfl ?_; conv => whnf)
  (refine rq_s (by (rfl)) ?_; conv => whnf)
  (refine lend_s ?_; conv => whnf)
  (refine call_s (c62 ..) ?_; conv => whnf)
  (refine br_s (fun hb => ?_) (fun hb => ?_) <;> (try simp only [beq_iff_eq, bne_iff_ne, ne_eq, decide_eq_true_eq, decide_eq_false_iff_not, Int.not_lt, Int.not_le, Bool.false_eq_true, if_false, if_true, beq_eq_false_iff_ne, bne_eq_false_iff_eq, Bool.not_eq_true', Bool.not_eq_false', Int.ofNat_lt, Int.ofNat_le, Int.ofNat_inj, List.length_map, List.length_nil, List.length_cons] at hb) <;> conv => whnf)
  (refine rq_s (by (rfl)) ?_; conv => whnf)
  iterate 2 (refine br_t rfl ?_; conv => whnf)
  (refine rq_s (by (rfl)) ?_; conv => whnf)
  (refine lend_s ?_; conv => whnf)
  (refine call_s (c62 ..) ?_; conv => whnf)
  (refine br_s (fun hb => ?_) (fun hb => ?_) <;> (try simp only [beq_iff_eq, bne_iff_ne, ne_eq, decide_eq_true_eq, decide_eq_false_iff_not, Int.not_lt, Int.not_le, Bool.false_eq_true, if_false, if_true, beq_eq_false_iff_ne, bne_eq_false_iff_eq, Bool.not_eq_true', Bool.not_eq_false', Int.ofNat_lt, Int.ofNat_le, Int.ofNat_inj, List.length_map, List.length_nil, List.length_cons] at hb) <;> conv => whnf)
  (refine rq_s (by (rfl)) ?_; conv => whnf)
  iterate 2 (refine br_t rfl ?_; conv => whnf)
  (refine rq_s (by (rfl)) ?_; conv => whnf)
  (refine lend_s ?_; conv => whnf)
  (refine call_s (c62 ..) ?_; conv => whnf)
  (refine rq_s (by (rfl)) ?_; conv => whnf)
  (focus (refine sh_s ?_; (first | (simp_all [dealOK]; done) | (simp_all [dealOK]; rfl))))
  iterate 3 (refine br_f rfl ?_; conv => whnf)
  (refine rq_s (by (rfl)) ?_; conv => whnf)
  (focus (refine sh_s ?_; (first | (simp_all [dealOK]; done) | (simp_all [dealOK]; rfl))))
  iterate 7 (refine br_f rfl ?_; conv => whnf)
  (refine rq_s (by (rfl)) ?_; conv => whnf)
  (focus (refine sh_s ?_; (first | (simp_all [dealOK]; done) | (simp_all [dealOK]; rfl))))
  iterate 11 (refine br_f rfl ?_; conv => whnf)
  (refine rq_s (by (rfl)) ?_; conv => whnf)
  (focus (refine sh_s ?_; (first | (simp_all [dealOK]; done) | (simp_all [dealOK]; rfl))))
theorem c99 (d : Deal) : Con Try.prog 99 [dealV d] (undefs [dealV d]) (.bool (badDeal d)) := by
  refine Con.ev 6 T_ok mix Try.func99 rfl rfl rfl rfl [.tmp 2] rfl ?_
  conv => whnf
  iterate 5 (refine rq_s (by (rfl)) ?_; conv => whnf)
  (refine lend_s ?_; conv => whnf)
  (refine call_s (c100 ..) ?_; conv => whnf)
  (refine rq_s (by (rfl)) ?_; conv => whnf)
  (refine sh_s ?_; (rfl))
theorem c138 (n : Int) : Con Try.prog 138 [.int .i64 n] (undefs [.int .i64 n]) (.bool (badCell n)) := by
  refine Con.ev 6 T_ok mix Try.func138 rfl rfl rfl rfl [.tmp 2] rfl ?_
  conv => whnf
  (refine rq_s (by (rfl)) ?_; conv => whnf)
  (refine lend_s ?_; conv => whnf)
  (refine call_s (c62 ..) ?_; conv => whnf)
  (refine rq_s (by (rfl)) ?_; conv => whnf)
  (refine sh_s ?_; (rfl))

theorem c139 (rs : List (Deal)) : Con Try.prog 139 [roD rs, .fn 99 []] (undefs [roD rs, .fn 99 []]) (.int .i64 (findI badDeal rs)) := by
  refine Con.evF 19 T_ok mix Try.func139 rfl rfl rfl rfl [.tmp 4] rfl fun ⟨hx, _⟩ => ?_
  have hx := facts_len hx
  conv => whnf
  rotate_left
  refine LoopG.rounds (α := Nat) T_ok mix [0, 1, 7, 8] [] (fun i => [(0, roD rs), (1, .fn 99 []), (7, .int .i64 rs.length), (8, .int .i64 i)]) (fun _ => []) (fun i => i ≤ rs.length ∧ ∀ j, j < i → badDeal (rs.getD j default) = false) (fun i => rs.length - i) ?_ ?_
  · conv => whnf
    exact head_s 0 ⟨by simp, fun j hj => by omega⟩ (by simp [roD]) rfl
  · rintro i ⟨h1, h2⟩ - -
    conv => whnf
    (refine br_s (fun hb => ?_) (fun hb => ?_) <;> (try simp only [beq_iff_eq, bne_iff_ne, ne_eq, decide_eq_true_eq, decide_eq_false_iff_not, Int.not_lt, Int.not_le, Bool.false_eq_true, if_false, if_true, beq_eq_false_iff_ne, bne_eq_false_iff_eq, Bool.not_eq_true', Bool.not_eq_false', Int.ofNat_lt, Int.ofNat_le, Int.ofNat_inj, List.length_map, List.length_nil, List.length_cons] at hb) <;> conv => whnf)
    (refine rq_s (by (rfl)) ?_; conv => whnf)
    (refine rq_s (by ((refine and_s rfl ?_; simp only [decide_eq_true_eq, List.length_map]; omega))) ?_; conv => whnf)
    (refine row_s (by ((try simp only [Int.toNat_natCast]); exact row_map dealR _ _ _ default (by first | omega | (simp; omega)))) ?_; conv => whnf)
    iterate 4 (refine rq_s (by (rfl)) ?_; conv => whnf)
    (refine lend_s ?_; conv => whnf)
    (refine call_s (c99 ..) ?_; conv => whnf)
    (refine br_s (fun hb => ?_) (fun hb => ?_) <;> (try simp only [beq_iff_eq, bne_iff_ne, ne_eq, decide_eq_true_eq, decide_eq_false_iff_not, Int.not_lt, Int.not_le, Bool.false_eq_true, if_false, if_true, beq_eq_false_iff_ne, bne_eq_false_iff_eq, Bool.not_eq_true', Bool.not_eq_false', Int.ofNat_lt, Int.ofNat_le, Int.ofNat_inj, List.length_map, List.length_nil, List.length_cons] at hb) <;> conv => whnf)
    (refine rq_s (by (rfl)) ?_; conv => whnf)
    iterate 2 (rotate_left)
    (refine rq_s (by (rfl)) ?_; conv => whnf)
    rotate_left
    · refine sh_s ?_
      rw [findI_hit default (by assumption) hb h2]
    · refine head_s (i + 1) ⟨⟨by omega, fun j hj => ?_⟩, by omega⟩ (by rw [wrap64 (by omega) (by omega)]; rfl) rfl
      by_cases hji : j = i
      · subst hji; exact hb
      · exact h2 j (by omega)
    · refine sh_s ?_
      rw [findI_none default fun j hj => h2 j (by omega)]
theorem c98 (rs : List (Deal)) : Con Try.prog 98 [roD rs, .fn 99 []] (undefs [roD rs, .fn 99 []]) (.bool (rs.any badDeal)) := by
  refine Con.ev 9 T_ok mix Try.func98 rfl rfl rfl rfl [.tmp 4] rfl ?_
  conv => whnf
  iterate 2 (refine rq_s (by (rfl)) ?_; conv => whnf)
  (refine lend_s ?_; conv => whnf)
  (refine rows_s (by (rfl)) ?_; conv => whnf)
  (refine call_s (c139 ..) ?_; conv => whnf)
  (refine fac_s (fun hf => ?_); conv => whnf)
  (refine rq_s (by (rfl)) ?_; conv => whnf)
  (refine sh_s ?_; ((rw [← findI_any])))

theorem c155 (rs : List (Int)) : Con Try.prog 155 [roI rs, .fn 138 []] (undefs [roI rs, .fn 138 []]) (.int .i64 (findI badCell rs)) := by
  refine Con.evF 19 T_ok mix Try.func155 rfl rfl rfl rfl [.tmp 4] rfl fun ⟨hx, _⟩ => ?_
  have hx := facts_len hx
  conv => whnf
  rotate_left
  refine LoopG.rounds (α := Nat) T_ok mix [0, 1, 7, 8] [] (fun i => [(0, roI rs), (1, .fn 138 []), (7, .int .i64 rs.length), (8, .int .i64 i)]) (fun _ => []) (fun i => i ≤ rs.length ∧ ∀ j, j < i → badCell (rs.getD j default) = false) (fun i => rs.length - i) ?_ ?_
  · conv => whnf
    exact head_s 0 ⟨by simp, fun j hj => by omega⟩ (by simp [roI]) rfl
  · rintro i ⟨h1, h2⟩ - -
    conv => whnf
    (refine br_s (fun hb => ?_) (fun hb => ?_) <;> (try simp only [beq_iff_eq, bne_iff_ne, ne_eq, decide_eq_true_eq, decide_eq_false_iff_not, Int.not_lt, Int.not_le, Bool.false_eq_true, if_false, if_true, beq_eq_false_iff_ne, bne_eq_false_iff_eq, Bool.not_eq_true', Bool.not_eq_false', Int.ofNat_lt, Int.ofNat_le, Int.ofNat_inj, List.length_map, List.length_nil, List.length_cons] at hb) <;> conv => whnf)
    (refine rq_s (by (rfl)) ?_; conv => whnf)
    (refine rq_s (by ((refine and_s rfl ?_; simp only [decide_eq_true_eq, List.length_map]; omega))) ?_; conv => whnf)
    (refine row_s (by ((try simp only [Int.toNat_natCast]); exact row_map intR _ _ _ default (by first | omega | (simp; omega)))) ?_; conv => whnf)
    (refine rq_s (by (rfl)) ?_; conv => whnf)
    (refine lend_s ?_; conv => whnf)
    (refine call_s (c138 ..) ?_; conv => whnf)
    (refine br_s (fun hb => ?_) (fun hb => ?_) <;> (try simp only [beq_iff_eq, bne_iff_ne, ne_eq, decide_eq_true_eq, decide_eq_false_iff_not, Int.not_lt, Int.not_le, Bool.false_eq_true, if_false, if_true, beq_eq_false_iff_ne, bne_eq_false_iff_eq, Bool.not_eq_true', Bool.not_eq_false', Int.ofNat_lt, Int.ofNat_le, Int.ofNat_inj, List.length_map, List.length_nil, List.length_cons] at hb) <;> conv => whnf)
    (refine rq_s (by (rfl)) ?_; conv => whnf)
    iterate 2 (rotate_left)
    (refine rq_s (by (rfl)) ?_; conv => whnf)
    rotate_left
    · refine sh_s ?_
      rw [findI_hit default (by assumption) hb h2]
    · refine head_s (i + 1) ⟨⟨by omega, fun j hj => ?_⟩, by omega⟩ (by rw [wrap64 (by omega) (by omega)]; rfl) rfl
      by_cases hji : j = i
      · subst hji; exact hb
      · exact h2 j (by omega)
    · refine sh_s ?_
      rw [findI_none default fun j hj => h2 j (by omega)]
theorem c137 (rs : List (Int)) : Con Try.prog 137 [roI rs, .fn 138 []] (undefs [roI rs, .fn 138 []]) (.bool (rs.any badCell)) := by
  refine Con.ev 9 T_ok mix Try.func137 rfl rfl rfl rfl [.tmp 4] rfl ?_
  conv => whnf
  iterate 2 (refine rq_s (by (rfl)) ?_; conv => whnf)
  (refine lend_s ?_; conv => whnf)
  (refine rows_s (by (rfl)) ?_; conv => whnf)
  (refine call_s (c155 ..) ?_; conv => whnf)
  (refine fac_s (fun hf => ?_); conv => whnf)
  (refine rq_s (by (rfl)) ?_; conv => whnf)
  (refine sh_s ?_; ((rw [← findI_any])))
theorem cellsBad (xs : List Int) : Con Try.prog 137 [roI xs, .fn 138 []] (undefs [roI xs, .fn 138 []]) (.bool (!cellsOK xs)) := cells_any xs ▸ c137 xs
theorem dealsBad (xs : List Deal) : Con Try.prog 98 [roD xs, .fn 99 []] (undefs [roD xs, .fn 99 []]) (.bool (!dealsOK xs)) := deals_any xs ▸ c98 xs
theorem c97 (xs : List Int) (n : Int) : Con Try.prog 97 [roI xs, .int .i64 n] (undefs [roI xs, .int .i64 n]) (.bool (decide ((xs.length : Int) ≤ n) && cellsOK xs)) := by
  refine Con.ev 14 T_ok mix Try.func97 rfl rfl rfl rfl [.tmp 4] rfl ?_
  conv => whnf
  (refine br_s (fun hb => ?_) (fun hb => ?_) <;> (try simp only [beq_iff_eq, bne_iff_ne, ne_eq, decide_eq_true_eq, decide_eq_false_iff_not, Int.not_lt, Int.not_le, Bool.false_eq_true, if_false, if_true, beq_eq_false_iff_ne, bne_eq_false_iff_eq, Bool.not_eq_true', Bool.not_eq_false', Int.ofNat_lt, Int.ofNat_le, Int.ofNat_inj, List.length_map, List.length_nil, List.length_cons] at hb) <;> conv => whnf)
  (refine br_t rfl ?_; conv => whnf)
  iterate 2 (refine rq_s (by (rfl)) ?_; conv => whnf)
  (refine lend_s ?_; conv => whnf)
  (refine rows_s (by (rfl)) ?_; conv => whnf)
  (refine call_s (cellsBad ..) ?_; conv => whnf)
  (refine br_t rfl ?_; conv => whnf)
  (refine rq_s (by (rfl)) ?_; conv => whnf)
  (focus (refine sh_s ?_; (first | (simp_all; done) | (simp_all; omega))))
  iterate 3 (refine br_f rfl ?_; conv => whnf)
  (refine rq_s (by (rfl)) ?_; conv => whnf)
  (focus (refine sh_s ?_; (first | (simp_all; done) | (simp_all; omega))))
theorem c96 (xs : List Int) : Con Try.prog 96 [roI xs] (undefs [roI xs]) (.bool (decide (xs.length = 8) && cellsOK xs)) := by
  refine Con.ev 10 T_ok mix Try.func96 rfl rfl rfl rfl [.tmp 2] rfl ?_
  conv => whnf
  (refine br_s (fun hb => ?_) (fun hb => ?_) <;> (try simp only [beq_iff_eq, bne_iff_ne, ne_eq, decide_eq_true_eq, decide_eq_false_iff_not, Int.not_lt, Int.not_le, Bool.false_eq_true, if_false, if_true, beq_eq_false_iff_ne, bne_eq_false_iff_eq, Bool.not_eq_true', Bool.not_eq_false', Int.ofNat_lt, Int.ofNat_le, Int.ofNat_inj, List.length_map, List.length_nil, List.length_cons] at hb) <;> conv => whnf)
  (refine br_t rfl ?_; conv => whnf)
  iterate 2 (refine rq_s (by (rfl)) ?_; conv => whnf)
  (refine lend_s ?_; conv => whnf)
  (refine rows_s (by (rfl)) ?_; conv => whnf)
  (refine call_s (c97 ..) ?_; conv => whnf)
  (refine rq_s (by (rfl)) ?_; conv => whnf)
  (focus (refine sh_s ?_; (first | (simp_all; done) | (simp_all; omega))))
  iterate 2 (refine br_f rfl ?_; conv => whnf)
  (refine rq_s (by (rfl)) ?_; conv => whnf)
  (focus (refine sh_s ?_; (first | (simp_all; done) | (simp_all; omega))))
theorem c104 (xs : List Int) : Con Try.prog 104 [roI xs] (undefs [roI xs]) (.bool (cellsOK xs)) := by
  refine Con.evF 16 T_ok mix Try.func104 rfl rfl rfl rfl [.tmp 2] rfl fun ⟨hx, _⟩ => ?_
  have hx := facts_len hx
  conv => whnf
  rotate_left
  refine LoopG.rounds (α := Nat) T_ok mix [0, 3] [] (fun i => [(0, roI xs), (3, .int .i64 i)]) (fun _ => []) (fun i => i ≤ xs.length ∧ ∀ j, j < i → cell (xs.getD j default) = true) (fun i => xs.length - i) ?_ ?_
  · conv => whnf
    exact head_s 0 ⟨by simp, fun j hj => by omega⟩ (by first | rfl | simp [roI]) rfl
  · rintro i ⟨h1, h2⟩ - -
    conv => whnf
    (refine br_s (fun hb => ?_) (fun hb => ?_) <;> (try simp only [beq_iff_eq, bne_iff_ne, ne_eq, decide_eq_true_eq, decide_eq_false_iff_not, Int.not_lt, Int.not_le, Bool.false_eq_true, if_false, if_true, beq_eq_false_iff_ne, bne_eq_false_iff_eq, Bool.not_eq_true', Bool.not_eq_false', Int.ofNat_lt, Int.ofNat_le, Int.ofNat_inj, List.length_map, List.length_nil, List.length_cons] at hb) <;> conv => whnf)
    (refine rq_s (by (rfl)) ?_; conv => whnf)
    (refine rq_s (by ((refine and_s rfl ?_; simp only [decide_eq_true_eq, List.length_map]; omega))) ?_; conv => whnf)
    (refine row_s (by ((try simp only [Int.toNat_natCast]); exact row_map intR _ _ _ default (by first | omega | (simp; omega)))) ?_; conv => whnf)
    (refine rq_s (by (rfl)) ?_; conv => whnf)
    (refine lend_s ?_; conv => whnf)
    (refine call_s (c142 ..) ?_; conv => whnf)
    (refine br_s (fun hb => ?_) (fun hb => ?_) <;> (try simp only [beq_iff_eq, bne_iff_ne, ne_eq, decide_eq_true_eq, decide_eq_false_iff_not, Int.not_lt, Int.not_le, Bool.false_eq_true, if_false, if_true, beq_eq_false_iff_ne, bne_eq_false_iff_eq, Bool.not_eq_true', Bool.not_eq_false', Int.ofNat_lt, Int.ofNat_le, Int.ofNat_inj, List.length_map, List.length_nil, List.length_cons] at hb) <;> conv => whnf)
    (refine rq_s (by (rfl)) ?_; conv => whnf)
    iterate 2 (rotate_left)
    (refine rq_s (by (rfl)) ?_; conv => whnf)
    rotate_left
    · exact sh_s (by rw [cellsOK, all_bad (by assumption) hb])
    · refine head_s (i + 1) ⟨⟨by omega, fun j hj => ?_⟩, by omega⟩ (by rw [wrap64 (by omega) (by omega)]; rfl) rfl
      by_cases hji : j = i
      · subst hji; exact hb
      · exact h2 j (by omega)
    · exact sh_s (by rw [cellsOK, all_good fun j hj => h2 j (by omega)])
theorem c48 (h : Hst) : Con Try.prog 48 [hstV h] (undefs [hstV h]) (.bool (hostOK h)) := by
  have e : ((h.q.length : Int) ≤ 20) = (h.q.length ≤ 20) := propext ⟨fun _ => by omega, fun _ => by omega⟩
  refine Con.ev 34 T_ok mix Try.func48 rfl rfl rfl rfl [.tmp 2] rfl ?_
  conv => whnf
  iterate 2 (refine rq_s (by (rfl)) ?_; conv => whnf)
  (refine br_s (fun hb => ?_) (fun hb => ?_) <;> (try simp only [beq_iff_eq, bne_iff_ne, ne_eq, decide_eq_true_eq, decide_eq_false_iff_not, Int.not_lt, Int.not_le, Bool.false_eq_true, if_false, if_true, beq_eq_false_iff_ne, bne_eq_false_iff_eq, Bool.not_eq_true', Bool.not_eq_false', Int.ofNat_lt, Int.ofNat_le, Int.ofNat_inj, List.length_map, List.length_nil, List.length_cons] at hb) <;> conv => whnf)
  (refine rq_s (by (rfl)) ?_; conv => whnf)
  iterate 2 (refine br_t rfl ?_; conv => whnf)
  (refine rq_s (by (rfl)) ?_; conv => whnf)
  (refine lend_s ?_; conv => whnf)
  (refine rows_s (by (rfl)) ?_; conv => whnf)
  (refine call_s (c96 ..) ?_; conv => whnf)
  (refine br_s (fun hb => ?_) (fun hb => ?_) <;> (try simp only [beq_iff_eq, bne_iff_ne, ne_eq, decide_eq_true_eq, decide_eq_false_iff_not, Int.not_lt, Int.not_le, Bool.false_eq_true, if_false, if_true, beq_eq_false_iff_ne, bne_eq_false_iff_eq, Bool.not_eq_true', Bool.not_eq_false', Int.ofNat_lt, Int.ofNat_le, Int.ofNat_inj, List.length_map, List.length_nil, List.length_cons] at hb) <;> conv => whnf)
  (refine rq_s (by (rfl)) ?_; conv => whnf)
  iterate 2 (refine br_t rfl ?_; conv => whnf)
  iterate 2 (refine rq_s (by (rfl)) ?_; conv => whnf)
  (refine lend_s ?_; conv => whnf)
  (refine rows_s (by (rfl)) ?_; conv => whnf)
  (refine call_s (c97 ..) ?_; conv => whnf)
  (refine br_s (fun hb => ?_) (fun hb => ?_) <;> (try simp only [beq_iff_eq, bne_iff_ne, ne_eq, decide_eq_true_eq, decide_eq_false_iff_not, Int.not_lt, Int.not_le, Bool.false_eq_true, if_false, if_true, beq_eq_false_iff_ne, bne_eq_false_iff_eq, Bool.not_eq_true', Bool.not_eq_false', Int.ofNat_lt, Int.ofNat_le, Int.ofNat_inj, List.length_map, List.length_nil, List.length_cons] at hb) <;> conv => whnf)
  (refine rq_s (by (rfl)) ?_; conv => whnf)
  iterate 2 (refine br_t rfl ?_; conv => whnf)
  iterate 3 (refine rq_s (by (rfl)) ?_; conv => whnf)
  (refine lend_s ?_; conv => whnf)
  (refine call_s (c68 ..) ?_; conv => whnf)
  (refine br_s (fun hb => ?_) (fun hb => ?_) <;> (try simp only [beq_iff_eq, bne_iff_ne, ne_eq, decide_eq_true_eq, decide_eq_false_iff_not, Int.not_lt, Int.not_le, Bool.false_eq_true, if_false, if_true, beq_eq_false_iff_ne, bne_eq_false_iff_eq, Bool.not_eq_true', Bool.not_eq_false', Int.ofNat_lt, Int.ofNat_le, Int.ofNat_inj, List.length_map, List.length_nil, List.length_cons] at hb) <;> conv => whnf)
  (refine rq_s (by (rfl)) ?_; conv => whnf)
  iterate 3 (refine br_t rfl ?_; conv => whnf)
  (refine br_s (fun hb => ?_) (fun hb => ?_) <;> (try simp only [beq_iff_eq, bne_iff_ne, ne_eq, decide_eq_true_eq, decide_eq_false_iff_not, Int.not_lt, Int.not_le, Bool.false_eq_true, if_false, if_true, beq_eq_false_iff_ne, bne_eq_false_iff_eq, Bool.not_eq_true', Bool.not_eq_false', Int.ofNat_lt, Int.ofNat_le, Int.ofNat_inj, List.length_map, List.length_nil, List.length_cons] at hb) <;> conv => whnf)
  (refine rq_s (by (rfl)) ?_; conv => whnf)
  iterate 2 (refine br_t rfl ?_; conv => whnf)
  iterate 2 (refine rq_s (by (rfl)) ?_; conv => whnf)
  (refine lend_s ?_; conv => whnf)
  (refine rows_s (by (rfl)) ?_; conv => whnf)
  (refine call_s (dealsBad ..) ?_; conv => whnf)
  (refine br_t rfl ?_; conv => whnf)
  (refine rq_s (by (rfl)) ?_; conv => whnf)
  (focus (refine sh_s ?_; (first | (simp_all [hostOK]; done) | (simp_all [hostOK]; omega) | (congr 1; rw [Bool.eq_iff_iff]; simp_all [hostOK]; done) | (congr 1; rw [Bool.eq_iff_iff]; simp_all [hostOK]; omega))))
  iterate 4 (refine br_f rfl ?_; conv => whnf)
  (refine rq_s (by (rfl)) ?_; conv => whnf)
  (focus (refine sh_s ?_; (first | (simp_all [hostOK]; done) | (simp_all [hostOK]; omega) | (congr 1; rw [Bool.eq_iff_iff]; simp_all [hostOK]; done) | (congr 1; rw [Bool.eq_iff_iff]; simp_all [hostOK]; omega))))
  iterate 9 (refine br_f rfl ?_; conv => whnf)
  (refine rq_s (by (rfl)) ?_; conv => whnf)
  (focus (refine sh_s ?_; (first | (simp_all [hostOK]; done) | (simp_all [hostOK]; omega) | (congr 1; rw [Bool.eq_iff_iff]; simp_all [hostOK]; done) | (congr 1; rw [Bool.eq_iff_iff]; simp_all [hostOK]; omega))))
  iterate 13 (refine br_f rfl ?_; conv => whnf)
  (refine rq_s (by (rfl)) ?_; conv => whnf)
  (focus (refine sh_s ?_; (first | (simp_all [hostOK]; done) | (simp_all [hostOK]; omega) | (congr 1; rw [Bool.eq_iff_iff]; simp_all [hostOK]; done) | (congr 1; rw [Bool.eq_iff_iff]; simp_all [hostOK]; omega))))
  iterate 17 (refine br_f rfl ?_; conv => whnf)
  (refine rq_s (by (rfl)) ?_; conv => whnf)
  (focus (refine sh_s ?_; (first | (simp_all [hostOK]; done) | (simp_all [hostOK]; omega) | (congr 1; rw [Bool.eq_iff_iff]; simp_all [hostOK]; done) | (congr 1; rw [Bool.eq_iff_iff]; simp_all [hostOK]; omega))))
  iterate 21 (refine br_f rfl ?_; conv => whnf)
  (refine rq_s (by (rfl)) ?_; conv => whnf)
  (focus (refine sh_s ?_; (first | (simp_all [hostOK]; done) | (simp_all [hostOK]; omega) | (congr 1; rw [Bool.eq_iff_iff]; simp_all [hostOK]; done) | (congr 1; rw [Bool.eq_iff_iff]; simp_all [hostOK]; omega))))

theorem c52 (h : Hst) : Con Try.prog 52 [hstV h] (undefs [hstV h]) (.bool (hostOK h)) := by
  refine Con.evF 58 T_ok mix Try.func52 rfl rfl rfl rfl [.tmp 2] rfl fun ⟨hx, _⟩ => ?_
  have hx := facts_len (fun d => hx (d + 1) (roD h.ds) (by simp [hstR]))
  conv => whnf
  iterate 2 (refine rq_s (by (rfl)) ?_; conv => whnf)
  (refine br_s (fun hb => ?_) (fun hb => ?_) <;> (try simp only [beq_iff_eq, bne_iff_ne, ne_eq, decide_eq_true_eq, decide_eq_false_iff_not, Int.not_lt, Int.not_le, Bool.false_eq_true, if_false, if_true, beq_eq_false_iff_ne, bne_eq_false_iff_eq, Bool.not_eq_true', Bool.not_eq_false', Int.ofNat_lt, Int.ofNat_le, Int.ofNat_inj, List.length_map, List.length_nil, List.length_cons] at hb) <;> conv => whnf)
  iterate 30 (refine br_t rfl ?_; conv => whnf)
  (refine rq_s (by (rfl)) ?_; conv => whnf)
  (focus (refine sh_s ?_; (first | (simp_all [hostOK]; done) | (simp_all [hostOK]; omega))))
  (refine rq_s (by (rfl)) ?_; conv => whnf)
  iterate 3 (refine br_f rfl ?_; conv => whnf)
  (refine br_s (fun hb => ?_) (fun hb => ?_) <;> (try simp only [beq_iff_eq, bne_iff_ne, ne_eq, decide_eq_true_eq, decide_eq_false_iff_not, Int.not_lt, Int.not_le, Bool.false_eq_true, if_false, if_true, beq_eq_false_iff_ne, bne_eq_false_iff_eq, Bool.not_eq_true', Bool.not_eq_false', Int.ofNat_lt, Int.ofNat_le, Int.ofNat_inj, List.length_map, List.length_nil, List.length_cons] at hb) <;> conv => whnf)
  iterate 25 (refine br_t rfl ?_; conv => whnf)
  (refine rq_s (by (rfl)) ?_; conv => whnf)
  (focus (refine sh_s ?_; (first | (simp_all [hostOK]; done) | (simp_all [hostOK]; omega))))
  (refine rq_s (by (rfl)) ?_; conv => whnf)
  iterate 3 (refine br_f rfl ?_; conv => whnf)
  (refine br_s (fun hb => ?_) (fun hb => ?_) <;> (try simp only [beq_iff_eq, bne_iff_ne, ne_eq, decide_eq_true_eq, decide_eq_false_iff_not, Int.not_lt, Int.not_le, Bool.false_eq_true, if_false, if_true, beq_eq_false_iff_ne, bne_eq_false_iff_eq, Bool.not_eq_true', Bool.not_eq_false', Int.ofNat_lt, Int.ofNat_le, Int.ofNat_inj, List.length_map, List.length_nil, List.length_cons] at hb) <;> conv => whnf)
  iterate 20 (refine br_t rfl ?_; conv => whnf)
  (refine rq_s (by (rfl)) ?_; conv => whnf)
  (focus (refine sh_s ?_; (first | (simp_all [hostOK]; done) | (simp_all [hostOK]; omega))))
  (refine rq_s (by (rfl)) ?_; conv => whnf)
  iterate 3 (refine br_f rfl ?_; conv => whnf)
  (refine br_s (fun hb => ?_) (fun hb => ?_) <;> (try simp only [beq_iff_eq, bne_iff_ne, ne_eq, decide_eq_true_eq, decide_eq_false_iff_not, Int.not_lt, Int.not_le, Bool.false_eq_true, if_false, if_true, beq_eq_false_iff_ne, bne_eq_false_iff_eq, Bool.not_eq_true', Bool.not_eq_false', Int.ofNat_lt, Int.ofNat_le, Int.ofNat_inj, List.length_map, List.length_nil, List.length_cons] at hb) <;> conv => whnf)
  iterate 15 (refine br_t rfl ?_; conv => whnf)
  (refine rq_s (by (rfl)) ?_; conv => whnf)
  (focus (refine sh_s ?_; (first | (simp_all [hostOK]; done) | (simp_all [hostOK]; omega))))
  (refine rq_s (by (rfl)) ?_; conv => whnf)
  iterate 2 (refine br_f rfl ?_; conv => whnf)
  (refine rq_s (by (rfl)) ?_; conv => whnf)
  (refine lend_s ?_; conv => whnf)
  (refine rows_s (by (rfl)) ?_; conv => whnf)
  (refine call_s (c104 ..) ?_; conv => whnf)
  (refine br_f rfl ?_; conv => whnf)
  (refine br_s (fun hb => ?_) (fun hb => ?_) <;> (try simp only [beq_iff_eq, bne_iff_ne, ne_eq, decide_eq_true_eq, decide_eq_false_iff_not, Int.not_lt, Int.not_le, Bool.false_eq_true, if_false, if_true, beq_eq_false_iff_ne, bne_eq_false_iff_eq, Bool.not_eq_true', Bool.not_eq_false', Int.ofNat_lt, Int.ofNat_le, Int.ofNat_inj, List.length_map, List.length_nil, List.length_cons] at hb) <;> conv => whnf)
  iterate 10 (refine br_t rfl ?_; conv => whnf)
  (refine rq_s (by (rfl)) ?_; conv => whnf)
  (focus (refine sh_s ?_; (first | (simp_all [hostOK]; done) | (simp_all [hostOK]; omega))))
  (refine rq_s (by (rfl)) ?_; conv => whnf)
  iterate 2 (refine br_f rfl ?_; conv => whnf)
  (refine rq_s (by (rfl)) ?_; conv => whnf)
  (refine lend_s ?_; conv => whnf)
  (refine rows_s (by (rfl)) ?_; conv => whnf)
  (refine call_s (c104 ..) ?_; conv => whnf)
  (refine br_f rfl ?_; conv => whnf)
  (refine br_s (fun hb => ?_) (fun hb => ?_) <;> (try simp only [beq_iff_eq, bne_iff_ne, ne_eq, decide_eq_true_eq, decide_eq_false_iff_not, Int.not_lt, Int.not_le, Bool.false_eq_true, if_false, if_true, beq_eq_false_iff_ne, bne_eq_false_iff_eq, Bool.not_eq_true', Bool.not_eq_false', Int.ofNat_lt, Int.ofNat_le, Int.ofNat_inj, List.length_map, List.length_nil, List.length_cons] at hb) <;> conv => whnf)
  iterate 5 (refine br_t rfl ?_; conv => whnf)
  (refine rq_s (by (rfl)) ?_; conv => whnf)
  (focus (refine sh_s ?_; (first | (simp_all [hostOK]; done) | (simp_all [hostOK]; omega))))
  (refine rq_s (by (rfl)) ?_; conv => whnf)
  iterate 2 (refine br_f rfl ?_; conv => whnf)
  iterate 3 (refine rq_s (by (rfl)) ?_; conv => whnf)
  (refine lend_s ?_; conv => whnf)
  (refine call_s (c54 ..) ?_; conv => whnf)
  (refine br_f rfl ?_; conv => whnf)
  (refine br_s (fun hb => ?_) (fun hb => ?_) <;> (try simp only [beq_iff_eq, bne_iff_ne, ne_eq, decide_eq_true_eq, decide_eq_false_iff_not, Int.not_lt, Int.not_le, Bool.false_eq_true, if_false, if_true, beq_eq_false_iff_ne, bne_eq_false_iff_eq, Bool.not_eq_true', Bool.not_eq_false', Int.ofNat_lt, Int.ofNat_le, Int.ofNat_inj, List.length_map, List.length_nil, List.length_cons] at hb) <;> conv => whnf)
  (refine rq_s (by (rfl)) ?_; conv => whnf)
  (focus (refine sh_s ?_; (first | (simp_all [hostOK]; done) | (simp_all [hostOK]; omega))))
  rotate_left
  have g1 : h.gr.length = 4 := by omega
  have g2 : h.st.length = 8 := by omega
  have g3 : h.q.length ≤ 20 := by omega
  have g4 : h.ds.length ≤ 40 := by omega
  have g5 : cellsOK h.st = true := by assumption
  have g6 : cellsOK h.q = true := by assumption
  have g7 : inR h.tk 0 2147483647 = true := hb
  have fin : hostOK h = dealsOK h.ds := by simp [hostOK, g1, g2, g3, g4, g5, g6, g7]
  rw [fin]
  refine LoopG.rounds (α := Nat) T_ok mix [3, 1] [(1, 1)] (fun i => [(3, .int .i64 i), (1, .ptr 1 0 0)]) (fun _ => [(1, .live ⟨false, 0, [roB h.gr, roI h.st, roI h.q, .int .i64 h.tk, roD h.ds], [[roB h.gr, roI h.st, roI h.q, .int .i64 h.tk, roD h.ds]]⟩)]) (fun i => i ≤ h.ds.length ∧ ∀ j, j < i → dealOK (h.ds.getD j default) = true) (fun i => h.ds.length - i) ?_ ?_
  · conv => whnf
    exact head_s 0 ⟨by simp, fun j hj => by omega⟩ rfl rfl
  · rintro i ⟨h1, h2⟩ - -
    conv => whnf
    (refine rq_s (by (rfl)) ?_; conv => whnf)
    (refine br_s (fun hb => ?_) (fun hb => ?_) <;> (try simp only [beq_iff_eq, bne_iff_ne, ne_eq, decide_eq_true_eq, decide_eq_false_iff_not, Int.not_lt, Int.not_le, Bool.false_eq_true, if_false, if_true, beq_eq_false_iff_ne, bne_eq_false_iff_eq, Bool.not_eq_true', Bool.not_eq_false', Int.ofNat_lt, Int.ofNat_le, Int.ofNat_inj, List.length_map, List.length_nil, List.length_cons] at hb) <;> conv => whnf)
    iterate 2 (refine rq_s (by (rfl)) ?_; conv => whnf)
    (refine rq_s (by ((refine and_s rfl ?_; simp only [decide_eq_true_eq, List.length_map]; omega))) ?_; conv => whnf)
    (refine row_s (by ((try simp only [Int.toNat_natCast]); exact row_map dealR _ _ _ default (by first | omega | (simp; omega)))) ?_; conv => whnf)
    iterate 4 (refine rq_s (by (rfl)) ?_; conv => whnf)
    (refine lend_s ?_; conv => whnf)
    (refine call_s (c105 ..) ?_; conv => whnf)
    (refine br_s (fun hb => ?_) (fun hb => ?_) <;> (try simp only [beq_iff_eq, bne_iff_ne, ne_eq, decide_eq_true_eq, decide_eq_false_iff_not, Int.not_lt, Int.not_le, Bool.false_eq_true, if_false, if_true, beq_eq_false_iff_ne, bne_eq_false_iff_eq, Bool.not_eq_true', Bool.not_eq_false', Int.ofNat_lt, Int.ofNat_le, Int.ofNat_inj, List.length_map, List.length_nil, List.length_cons] at hb) <;> conv => whnf)
    (refine rq_s (by (rfl)) ?_; conv => whnf)
    iterate 2 (rotate_left)
    (refine rq_s (by (rfl)) ?_; conv => whnf)
    rotate_left
    · exact sh_s (by rw [dealsOK, all_bad (by assumption) hb])
    · refine head_s (i + 1) ⟨⟨by omega, fun j hj => ?_⟩, by omega⟩ (by rw [wrap64 (by omega) (by omega)]; rfl) rfl
      by_cases hji : j = i
      · subst hji; exact hb
      · exact h2 j (by omega)
    · exact sh_s (by rw [dealsOK, all_good fun j hj => h2 j (by omega)])
theorem c53 (d : Dat) : Con Try.prog 53 [datV d] (undefs [datV d]) (.bool (dataOK d)) := by
  refine Con.ev 50 T_ok mix Try.func53 rfl rfl rfl rfl [.tmp 2] rfl ?_
  conv => whnf
  iterate 2 (refine rq_s (by (rfl)) ?_; conv => whnf)
  (refine br_s (fun hb => ?_) (fun hb => ?_) <;> (try simp only [beq_iff_eq, bne_iff_ne, ne_eq, decide_eq_true_eq, decide_eq_false_iff_not, Int.not_lt, Int.not_le, Bool.false_eq_true, if_false, if_true, beq_eq_false_iff_ne, bne_eq_false_iff_eq, Bool.not_eq_true', Bool.not_eq_false', Int.ofNat_lt, Int.ofNat_le, Int.ofNat_inj, List.length_map, List.length_nil, List.length_cons] at hb) <;> conv => whnf)
  (refine rq_s (by (rfl)) ?_; conv => whnf)
  iterate 3 (refine br_t rfl ?_; conv => whnf)
  (refine br_s (fun hb => ?_) (fun hb => ?_) <;> (try simp only [beq_iff_eq, bne_iff_ne, ne_eq, decide_eq_true_eq, decide_eq_false_iff_not, Int.not_lt, Int.not_le, Bool.false_eq_true, if_false, if_true, beq_eq_false_iff_ne, bne_eq_false_iff_eq, Bool.not_eq_true', Bool.not_eq_false', Int.ofNat_lt, Int.ofNat_le, Int.ofNat_inj, List.length_map, List.length_nil, List.length_cons] at hb) <;> conv => whnf)
  (refine rq_s (by (rfl)) ?_; conv => whnf)
  iterate 3 (refine br_t rfl ?_; conv => whnf)
  (refine br_s (fun hb => ?_) (fun hb => ?_) <;> (try simp only [beq_iff_eq, bne_iff_ne, ne_eq, decide_eq_true_eq, decide_eq_false_iff_not, Int.not_lt, Int.not_le, Bool.false_eq_true, if_false, if_true, beq_eq_false_iff_ne, bne_eq_false_iff_eq, Bool.not_eq_true', Bool.not_eq_false', Int.ofNat_lt, Int.ofNat_le, Int.ofNat_inj, List.length_map, List.length_nil, List.length_cons] at hb) <;> conv => whnf)
  (refine rq_s (by (rfl)) ?_; conv => whnf)
  iterate 2 (refine br_t rfl ?_; conv => whnf)
  (refine rq_s (by (rfl)) ?_; conv => whnf)
  (refine lend_s ?_; conv => whnf)
  (refine rows_s (by (rfl)) ?_; conv => whnf)
  (refine call_s (c104 ..) ?_; conv => whnf)
  (refine br_s (fun hb => ?_) (fun hb => ?_) <;> (try simp only [beq_iff_eq, bne_iff_ne, ne_eq, decide_eq_true_eq, decide_eq_false_iff_not, Int.not_lt, Int.not_le, Bool.false_eq_true, if_false, if_true, beq_eq_false_iff_ne, bne_eq_false_iff_eq, Bool.not_eq_true', Bool.not_eq_false', Int.ofNat_lt, Int.ofNat_le, Int.ofNat_inj, List.length_map, List.length_nil, List.length_cons] at hb) <;> conv => whnf)
  (refine rq_s (by (rfl)) ?_; conv => whnf)
  iterate 2 (refine br_t rfl ?_; conv => whnf)
  (refine rq_s (by (rfl)) ?_; conv => whnf)
  (refine lend_s ?_; conv => whnf)
  (refine rows_s (by (rfl)) ?_; conv => whnf)
  (refine call_s (c104 ..) ?_; conv => whnf)
  (refine br_s (fun hb => ?_) (fun hb => ?_) <;> (try simp only [beq_iff_eq, bne_iff_ne, ne_eq, decide_eq_true_eq, decide_eq_false_iff_not, Int.not_lt, Int.not_le, Bool.false_eq_true, if_false, if_true, beq_eq_false_iff_ne, bne_eq_false_iff_eq, Bool.not_eq_true', Bool.not_eq_false', Int.ofNat_lt, Int.ofNat_le, Int.ofNat_inj, List.length_map, List.length_nil, List.length_cons] at hb) <;> conv => whnf)
  (refine rq_s (by (rfl)) ?_; conv => whnf)
  iterate 2 (refine br_t rfl ?_; conv => whnf)
  (refine rq_s (by (rfl)) ?_; conv => whnf)
  (refine lend_s ?_; conv => whnf)
  (refine rows_s (by (rfl)) ?_; conv => whnf)
  (refine call_s (c104 ..) ?_; conv => whnf)
  (refine br_s (fun hb => ?_) (fun hb => ?_) <;> (try simp only [beq_iff_eq, bne_iff_ne, ne_eq, decide_eq_true_eq, decide_eq_false_iff_not, Int.not_lt, Int.not_le, Bool.false_eq_true, if_false, if_true, beq_eq_false_iff_ne, bne_eq_false_iff_eq, Bool.not_eq_true', Bool.not_eq_false', Int.ofNat_lt, Int.ofNat_le, Int.ofNat_inj, List.length_map, List.length_nil, List.length_cons] at hb) <;> conv => whnf)
  (refine rq_s (by (rfl)) ?_; conv => whnf)
  iterate 2 (refine br_t rfl ?_; conv => whnf)
  iterate 3 (refine rq_s (by (rfl)) ?_; conv => whnf)
  (refine lend_s ?_; conv => whnf)
  (refine call_s (c54 ..) ?_; conv => whnf)
  (refine br_s (fun hb => ?_) (fun hb => ?_) <;> (try simp only [beq_iff_eq, bne_iff_ne, ne_eq, decide_eq_true_eq, decide_eq_false_iff_not, Int.not_lt, Int.not_le, Bool.false_eq_true, if_false, if_true, beq_eq_false_iff_ne, bne_eq_false_iff_eq, Bool.not_eq_true', Bool.not_eq_false', Int.ofNat_lt, Int.ofNat_le, Int.ofNat_inj, List.length_map, List.length_nil, List.length_cons] at hb) <;> conv => whnf)
  (refine rq_s (by (rfl)) ?_; conv => whnf)
  iterate 2 (refine br_t rfl ?_; conv => whnf)
  (refine rq_s (by (rfl)) ?_; conv => whnf)
  (refine lend_s ?_; conv => whnf)
  (refine call_s (c106 ..) ?_; conv => whnf)
  (refine br_s (fun hb => ?_) (fun hb => ?_) <;> (try simp only [beq_iff_eq, bne_iff_ne, ne_eq, decide_eq_true_eq, decide_eq_false_iff_not, Int.not_lt, Int.not_le, Bool.false_eq_true, if_false, if_true, beq_eq_false_iff_ne, bne_eq_false_iff_eq, Bool.not_eq_true', Bool.not_eq_false', Int.ofNat_lt, Int.ofNat_le, Int.ofNat_inj, List.length_map, List.length_nil, List.length_cons] at hb) <;> conv => whnf)
  (refine rq_s (by (rfl)) ?_; conv => whnf)
  iterate 3 (refine br_t rfl ?_; conv => whnf)
  (refine rq_s (by (rfl)) ?_; conv => whnf)
  (focus (refine sh_s ?_; (first | (simp_all [dataOK]; done) | (simp_all [dataOK]; omega) | (congr 1; rw [Bool.eq_iff_iff]; simp_all [dataOK]; done) | (congr 1; rw [Bool.eq_iff_iff]; simp_all [dataOK]; omega))))
  iterate 4 (refine br_f rfl ?_; conv => whnf)
  (refine rq_s (by (rfl)) ?_; conv => whnf)
  (focus (refine sh_s ?_; (first | (simp_all [dataOK]; done) | (simp_all [dataOK]; omega) | (congr 1; rw [Bool.eq_iff_iff]; simp_all [dataOK]; done) | (congr 1; rw [Bool.eq_iff_iff]; simp_all [dataOK]; omega))))
  iterate 8 (refine br_f rfl ?_; conv => whnf)
  (refine rq_s (by (rfl)) ?_; conv => whnf)
  (focus (refine sh_s ?_; (first | (simp_all [dataOK]; done) | (simp_all [dataOK]; omega) | (congr 1; rw [Bool.eq_iff_iff]; simp_all [dataOK]; done) | (congr 1; rw [Bool.eq_iff_iff]; simp_all [dataOK]; omega))))
  iterate 12 (refine br_f rfl ?_; conv => whnf)
  (refine rq_s (by (rfl)) ?_; conv => whnf)
  (focus (refine sh_s ?_; (first | (simp_all [dataOK]; done) | (simp_all [dataOK]; omega) | (congr 1; rw [Bool.eq_iff_iff]; simp_all [dataOK]; done) | (congr 1; rw [Bool.eq_iff_iff]; simp_all [dataOK]; omega))))
  iterate 16 (refine br_f rfl ?_; conv => whnf)
  (refine rq_s (by (rfl)) ?_; conv => whnf)
  (focus (refine sh_s ?_; (first | (simp_all [dataOK]; done) | (simp_all [dataOK]; omega) | (congr 1; rw [Bool.eq_iff_iff]; simp_all [dataOK]; done) | (congr 1; rw [Bool.eq_iff_iff]; simp_all [dataOK]; omega))))
  iterate 20 (refine br_f rfl ?_; conv => whnf)
  (refine rq_s (by (rfl)) ?_; conv => whnf)
  (focus (refine sh_s ?_; (first | (simp_all [dataOK]; done) | (simp_all [dataOK]; omega) | (congr 1; rw [Bool.eq_iff_iff]; simp_all [dataOK]; done) | (congr 1; rw [Bool.eq_iff_iff]; simp_all [dataOK]; omega))))
  iterate 24 (refine br_f rfl ?_; conv => whnf)
  (refine rq_s (by (rfl)) ?_; conv => whnf)
  (focus (refine sh_s ?_; (first | (simp_all [dataOK]; done) | (simp_all [dataOK]; omega) | (congr 1; rw [Bool.eq_iff_iff]; simp_all [dataOK]; done) | (congr 1; rw [Bool.eq_iff_iff]; simp_all [dataOK]; omega))))
  iterate 29 (refine br_f rfl ?_; conv => whnf)
  (refine rq_s (by (rfl)) ?_; conv => whnf)
  (focus (refine sh_s ?_; (first | (simp_all [dataOK]; done) | (simp_all [dataOK]; omega) | (congr 1; rw [Bool.eq_iff_iff]; simp_all [dataOK]; done) | (congr 1; rw [Bool.eq_iff_iff]; simp_all [dataOK]; omega))))
  iterate 34 (refine br_f rfl ?_; conv => whnf)
  (refine rq_s (by (rfl)) ?_; conv => whnf)
  (focus (refine sh_s ?_; (first | (simp_all [dataOK]; done) | (simp_all [dataOK]; omega) | (congr 1; rw [Bool.eq_iff_iff]; simp_all [dataOK]; done) | (congr 1; rw [Bool.eq_iff_iff]; simp_all [dataOK]; omega))))
theorem c49 (d : Dat) : Con Try.prog 49 [datV d] (undefs [datV d]) (.bool (dataOK d)) := by
  have e1 : ((d.st.length : Int) ≤ 32) = (d.st.length ≤ 32) := propext ⟨fun _ => by omega, fun _ => by omega⟩
  have e2 : ((d.bk.length : Int) ≤ 32) = (d.bk.length ≤ 32) := propext ⟨fun _ => by omega, fun _ => by omega⟩
  have e3 : ((d.ce.length : Int) ≤ 32) = (d.ce.length ≤ 32) := propext ⟨fun _ => by omega, fun _ => by omega⟩
  refine Con.ev 38 T_ok mix Try.func49 rfl rfl rfl rfl [.tmp 2] rfl ?_
  conv => whnf
  iterate 4 (refine rq_s (by (rfl)) ?_; conv => whnf)
  (refine lend_s ?_; conv => whnf)
  (refine rows_s (by (rfl)) ?_; conv => whnf)
  (refine call_s (c97 ..) ?_; conv => whnf)
  (refine br_s (fun hb => ?_) (fun hb => ?_) <;> (try simp only [beq_iff_eq, bne_iff_ne, ne_eq, decide_eq_true_eq, decide_eq_false_iff_not, Int.not_lt, Int.not_le, Bool.false_eq_true, if_false, if_true, beq_eq_false_iff_ne, bne_eq_false_iff_eq, Bool.not_eq_true', Bool.not_eq_false', Int.ofNat_lt, Int.ofNat_le, Int.ofNat_inj, List.length_map, List.length_nil, List.length_cons] at hb) <;> conv => whnf)
  (refine rq_s (by (rfl)) ?_; conv => whnf)
  iterate 2 (refine br_t rfl ?_; conv => whnf)
  iterate 2 (refine rq_s (by (rfl)) ?_; conv => whnf)
  (refine lend_s ?_; conv => whnf)
  (refine rows_s (by (rfl)) ?_; conv => whnf)
  (refine call_s (c97 ..) ?_; conv => whnf)
  (refine br_s (fun hb => ?_) (fun hb => ?_) <;> (try simp only [beq_iff_eq, bne_iff_ne, ne_eq, decide_eq_true_eq, decide_eq_false_iff_not, Int.not_lt, Int.not_le, Bool.false_eq_true, if_false, if_true, beq_eq_false_iff_ne, bne_eq_false_iff_eq, Bool.not_eq_true', Bool.not_eq_false', Int.ofNat_lt, Int.ofNat_le, Int.ofNat_inj, List.length_map, List.length_nil, List.length_cons] at hb) <;> conv => whnf)
  (refine rq_s (by (rfl)) ?_; conv => whnf)
  iterate 2 (refine br_t rfl ?_; conv => whnf)
  iterate 2 (refine rq_s (by (rfl)) ?_; conv => whnf)
  (refine lend_s ?_; conv => whnf)
  (refine rows_s (by (rfl)) ?_; conv => whnf)
  (refine call_s (c97 ..) ?_; conv => whnf)
  (refine br_s (fun hb => ?_) (fun hb => ?_) <;> (try simp only [beq_iff_eq, bne_iff_ne, ne_eq, decide_eq_true_eq, decide_eq_false_iff_not, Int.not_lt, Int.not_le, Bool.false_eq_true, if_false, if_true, beq_eq_false_iff_ne, bne_eq_false_iff_eq, Bool.not_eq_true', Bool.not_eq_false', Int.ofNat_lt, Int.ofNat_le, Int.ofNat_inj, List.length_map, List.length_nil, List.length_cons] at hb) <;> conv => whnf)
  (refine rq_s (by (rfl)) ?_; conv => whnf)
  iterate 3 (refine br_t rfl ?_; conv => whnf)
  (refine br_s (fun hb => ?_) (fun hb => ?_) <;> (try simp only [beq_iff_eq, bne_iff_ne, ne_eq, decide_eq_true_eq, decide_eq_false_iff_not, Int.not_lt, Int.not_le, Bool.false_eq_true, if_false, if_true, beq_eq_false_iff_ne, bne_eq_false_iff_eq, Bool.not_eq_true', Bool.not_eq_false', Int.ofNat_lt, Int.ofNat_le, Int.ofNat_inj, List.length_map, List.length_nil, List.length_cons] at hb) <;> conv => whnf)
  (refine rq_s (by (rfl)) ?_; conv => whnf)
  iterate 2 (refine br_t rfl ?_; conv => whnf)
  iterate 3 (refine rq_s (by (rfl)) ?_; conv => whnf)
  (refine lend_s ?_; conv => whnf)
  (refine call_s (c68 ..) ?_; conv => whnf)
  (refine br_s (fun hb => ?_) (fun hb => ?_) <;> (try simp only [beq_iff_eq, bne_iff_ne, ne_eq, decide_eq_true_eq, decide_eq_false_iff_not, Int.not_lt, Int.not_le, Bool.false_eq_true, if_false, if_true, beq_eq_false_iff_ne, bne_eq_false_iff_eq, Bool.not_eq_true', Bool.not_eq_false', Int.ofNat_lt, Int.ofNat_le, Int.ofNat_inj, List.length_map, List.length_nil, List.length_cons] at hb) <;> conv => whnf)
  (refine rq_s (by (rfl)) ?_; conv => whnf)
  iterate 2 (refine br_t rfl ?_; conv => whnf)
  (refine rq_s (by (rfl)) ?_; conv => whnf)
  (refine lend_s ?_; conv => whnf)
  (refine call_s (c101 ..) ?_; conv => whnf)
  (refine br_s (fun hb => ?_) (fun hb => ?_) <;> (try simp only [beq_iff_eq, bne_iff_ne, ne_eq, decide_eq_true_eq, decide_eq_false_iff_not, Int.not_lt, Int.not_le, Bool.false_eq_true, if_false, if_true, beq_eq_false_iff_ne, bne_eq_false_iff_eq, Bool.not_eq_true', Bool.not_eq_false', Int.ofNat_lt, Int.ofNat_le, Int.ofNat_inj, List.length_map, List.length_nil, List.length_cons] at hb) <;> conv => whnf)
  (refine rq_s (by (rfl)) ?_; conv => whnf)
  iterate 3 (refine br_t rfl ?_; conv => whnf)
  (refine rq_s (by (rfl)) ?_; conv => whnf)
  (focus (refine sh_s ?_; (first | (simp_all [dataOK]; done) | (simp_all [dataOK]; omega) | (congr 1; rw [Bool.eq_iff_iff]; simp_all [dataOK]; done) | (congr 1; rw [Bool.eq_iff_iff]; simp_all [dataOK]; omega))))
  iterate 4 (refine br_f rfl ?_; conv => whnf)
  (refine rq_s (by (rfl)) ?_; conv => whnf)
  (focus (refine sh_s ?_; (first | (simp_all [dataOK]; done) | (simp_all [dataOK]; omega) | (congr 1; rw [Bool.eq_iff_iff]; simp_all [dataOK]; done) | (congr 1; rw [Bool.eq_iff_iff]; simp_all [dataOK]; omega))))
  iterate 8 (refine br_f rfl ?_; conv => whnf)
  (refine rq_s (by (rfl)) ?_; conv => whnf)
  (focus (refine sh_s ?_; (first | (simp_all [dataOK]; done) | (simp_all [dataOK]; omega) | (congr 1; rw [Bool.eq_iff_iff]; simp_all [dataOK]; done) | (congr 1; rw [Bool.eq_iff_iff]; simp_all [dataOK]; omega))))
  iterate 12 (refine br_f rfl ?_; conv => whnf)
  (refine rq_s (by (rfl)) ?_; conv => whnf)
  (focus (refine sh_s ?_; (first | (simp_all [dataOK]; done) | (simp_all [dataOK]; omega) | (congr 1; rw [Bool.eq_iff_iff]; simp_all [dataOK]; done) | (congr 1; rw [Bool.eq_iff_iff]; simp_all [dataOK]; omega))))
  iterate 17 (refine br_f rfl ?_; conv => whnf)
  (refine rq_s (by (rfl)) ?_; conv => whnf)
  (focus (refine sh_s ?_; (first | (simp_all [dataOK]; done) | (simp_all [dataOK]; omega) | (congr 1; rw [Bool.eq_iff_iff]; simp_all [dataOK]; done) | (congr 1; rw [Bool.eq_iff_iff]; simp_all [dataOK]; omega))))
  iterate 21 (refine br_f rfl ?_; conv => whnf)
  (refine rq_s (by (rfl)) ?_; conv => whnf)
  (focus (refine sh_s ?_; (first | (simp_all [dataOK]; done) | (simp_all [dataOK]; omega) | (congr 1; rw [Bool.eq_iff_iff]; simp_all [dataOK]; done) | (congr 1; rw [Bool.eq_iff_iff]; simp_all [dataOK]; omega))))
  iterate 25 (refine br_f rfl ?_; conv => whnf)
  (refine rq_s (by (rfl)) ?_; conv => whnf)
  (focus (refine sh_s ?_; (first | (simp_all [dataOK]; done) | (simp_all [dataOK]; omega) | (congr 1; rw [Bool.eq_iff_iff]; simp_all [dataOK]; done) | (congr 1; rw [Bool.eq_iff_iff]; simp_all [dataOK]; omega))))
theorem own_sh {α : Type} {z : List AV} {f : α → List AV} {xs : List α} (h : xs.length = 0) : Sh .emp (.own 0 z (xs.map f)) := by
  have : xs = [] := List.length_eq_zero_iff.1 h
  subst this
  exact Sh.emp_own 0 z
theorem c113 (xs : List Bool) (h : xs.length ≤ 1048576) : Con Try.prog 113 [roB xs] (undefs [roB xs]) (ownB xs) := by
  refine Con.ev 8 T_ok mix Try.func113 rfl rfl rfl rfl [.tmp 2] rfl ?_
  conv => whnf
  (refine nil_s (fun hz => ?_) ?_ <;> conv => whnf)
  (refine br_t rfl ?_; conv => whnf)
  (refine rq_s (by (rfl)) ?_; conv => whnf)
  rotate_left
  (refine br_f rfl ?_; conv => whnf)
  iterate 3 (refine rq_s (by (rfl)) ?_; conv => whnf)
  (refine rq_s (by (((simp [maxBytes, AV.plain]; omega)))) ?_; conv => whnf)
  (refine app0_s ?_; conv => whnf)
  (refine rq_s (by ((simp only [decide_eq_true_eq, List.length_map, mkS_len]; done))) ?_; conv => whnf)
  (refine rq_s (by (rfl)) ?_; conv => whnf)
  (refine rows_s (by ((refine sub_all ?_; simp [List.length_map, mkS_len]; done))) ?_; conv => whnf)
  rotate_left
  · exact ⟨own_sh (by simpa using hz)⟩
  · exact ⟨Sh.flat_map (fun _ => rfl) _⟩
theorem c114 (xs : List Int) (h : xs.length ≤ 1048576) : Con Try.prog 114 [roI xs] (undefs [roI xs]) (ownI xs) := by
  refine Con.ev 8 T_ok mix Try.func114 rfl rfl rfl rfl [.tmp 2] rfl ?_
  conv => whnf
  (refine nil_s (fun hz => ?_) ?_ <;> conv => whnf)
  (refine br_t rfl ?_; conv => whnf)
  (refine rq_s (by (rfl)) ?_; conv => whnf)
  rotate_left
  (refine br_f rfl ?_; conv => whnf)
  iterate 3 (refine rq_s (by (rfl)) ?_; conv => whnf)
  (refine rq_s (by (((simp [maxBytes, AV.plain]; omega)))) ?_; conv => whnf)
  (refine app0_s ?_; conv => whnf)
  (refine rq_s (by ((simp only [decide_eq_true_eq, List.length_map, mkS_len]; done))) ?_; conv => whnf)
  (refine rq_s (by (rfl)) ?_; conv => whnf)
  (refine rows_s (by ((refine sub_all ?_; simp [List.length_map, mkS_len]; done))) ?_; conv => whnf)
  rotate_left
  · exact ⟨own_sh (by simpa using hz)⟩
  · exact ⟨Sh.flat_map (fun _ => rfl) _⟩
theorem c115 (xs : List Deal) (h : xs.length ≤ 1048576) : Con Try.prog 115 [roD xs] (undefs [roD xs]) (ownD xs) := by
  refine Con.ev 8 T_ok mix Try.func115 rfl rfl rfl rfl [.tmp 2] rfl ?_
  conv => whnf
  (refine nil_s (fun hz => ?_) ?_ <;> conv => whnf)
  (refine br_t rfl ?_; conv => whnf)
  (refine rq_s (by (rfl)) ?_; conv => whnf)
  rotate_left
  (refine br_f rfl ?_; conv => whnf)
  iterate 3 (refine rq_s (by (rfl)) ?_; conv => whnf)
  (refine rq_s (by (((simp [maxBytes, AV.plain]; omega)))) ?_; conv => whnf)
  (refine app0_s ?_; conv => whnf)
  (refine rq_s (by ((simp only [decide_eq_true_eq, List.length_map, mkS_len]; done))) ?_; conv => whnf)
  (refine rq_s (by (rfl)) ?_; conv => whnf)
  (refine rows_s (by ((refine sub_all ?_; simp [List.length_map, mkS_len]; done))) ?_; conv => whnf)
  rotate_left
  · exact ⟨own_sh (by simpa using hz)⟩
  · exact ⟨Sh.flat_map (fun _ => rfl) _⟩
theorem c60 (h : Hst) (hs : smallHost h) : Con Try.prog 60 [hstV h] (undefs [hstV h]) (hstO h) := by
  refine Con.ev 20 T_ok mix Try.func60 rfl rfl rfl rfl [.cell 2 27] rfl ?_
  conv => whnf
  (refine rq_s (by (rfl)) ?_; conv => whnf)
  (refine ChkS.mk (by kernel_rfl) ?_; conv => whnf)
  (refine rq_s (by (rfl)) ?_; conv => whnf)
  iterate 2 (refine ChkS.mk (by kernel_rfl) ?_; conv => whnf)
  (refine rq_s (by (rfl)) ?_; conv => whnf)
  (refine rows_s (by (rfl)) ?_; conv => whnf)
  (refine call_s (c113 _ hs.1) ?_; conv => whnf)
  (refine ChkS.mk (by kernel_rfl) ?_; conv => whnf)
  (refine rq_s (by (rfl)) ?_; conv => whnf)
  iterate 2 (refine ChkS.mk (by kernel_rfl) ?_; conv => whnf)
  (refine rq_s (by (rfl)) ?_; conv => whnf)
  (refine rows_s (by (rfl)) ?_; conv => whnf)
  (refine call_s (c114 _ hs.2.1) ?_; conv => whnf)
  (refine ChkS.mk (by kernel_rfl) ?_; conv => whnf)
  (refine rq_s (by (rfl)) ?_; conv => whnf)
  iterate 2 (refine ChkS.mk (by kernel_rfl) ?_; conv => whnf)
  (refine rq_s (by (rfl)) ?_; conv => whnf)
  (refine rows_s (by (rfl)) ?_; conv => whnf)
  (refine call_s (c114 _ hs.2.2.1) ?_; conv => whnf)
  (refine ChkS.mk (by kernel_rfl) ?_; conv => whnf)
  (refine rq_s (by (rfl)) ?_; conv => whnf)
  iterate 2 (refine ChkS.mk (by kernel_rfl) ?_; conv => whnf)
  (refine rq_s (by (rfl)) ?_; conv => whnf)
  (refine rows_s (by (rfl)) ?_; conv => whnf)
  (refine call_s (c115 _ hs.2.2.2) ?_; conv => whnf)
  (refine ChkS.mk (by kernel_rfl) ?_; conv => whnf)
  (refine rq_s (by (rfl)) ?_; conv => whnf)
  iterate 2 (refine ChkS.mk (by kernel_rfl) ?_; conv => whnf)
  (refine rq_s (by (rfl)) ?_; conv => whnf)
  iterate 2 (refine ChkS.mk (by kernel_rfl) ?_; conv => whnf)
  (refine rq_s (by (rfl)) ?_; conv => whnf)
  iterate 2 (refine ChkS.mk (by kernel_rfl) ?_; conv => whnf)
  (refine rq_s (by (rfl)) ?_; conv => whnf)
  iterate 2 (refine ChkS.mk (by kernel_rfl) ?_; conv => whnf)
  iterate 4 (refine fac_s (fun hf => ?_); conv => whnf)
  (refine rq_s (by (rfl)) ?_; conv => whnf)
  (refine rq_s (by ((simp only [decide_eq_true_eq, List.length_map, mkS_len]; done))) ?_; conv => whnf)
  (refine rq_s (by (rfl)) ?_; conv => whnf)
  (refine rq_s (by ((simp only [decide_eq_true_eq, List.length_map, mkS_len]; done))) ?_; conv => whnf)
  (refine rq_s (by (rfl)) ?_; conv => whnf)
  (refine rq_s (by ((simp only [decide_eq_true_eq, List.length_map, mkS_len]; done))) ?_; conv => whnf)
  iterate 2 (refine rq_s (by (rfl)) ?_; conv => whnf)
  (refine rq_s (by ((simp only [decide_eq_true_eq, List.length_map, mkS_len]; done))) ?_; conv => whnf)
  (refine rq_s (by (rfl)) ?_; conv => whnf)
  iterate 4 (refine rows_s (by ((refine sub_all ?_; simp [List.length_map, mkS_len]; done))) ?_; conv => whnf)
  (refine sh_s ?_; (rfl))
theorem c102 (d : Dat) (hs : smallData d) : Con Try.prog 102 [datV d] (undefs [datV d]) (datO d) := by
  refine Con.ev 16 T_ok mix Try.func102 rfl rfl rfl rfl [.cell 2 30] rfl ?_
  conv => whnf
  (refine rq_s (by (rfl)) ?_; conv => whnf)
  (refine ChkS.mk (by kernel_rfl) ?_; conv => whnf)
  (refine rq_s (by (rfl)) ?_; conv => whnf)
  iterate 2 (refine ChkS.mk (by kernel_rfl) ?_; conv => whnf)
  (refine rq_s (by (rfl)) ?_; conv => whnf)
  (refine rows_s (by (rfl)) ?_; conv => whnf)
  (refine call_s (c114 _ hs.1) ?_; conv => whnf)
  (refine ChkS.mk (by kernel_rfl) ?_; conv => whnf)
  (refine rq_s (by (rfl)) ?_; conv => whnf)
  iterate 2 (refine ChkS.mk (by kernel_rfl) ?_; conv => whnf)
  (refine rq_s (by (rfl)) ?_; conv => whnf)
  (refine rows_s (by (rfl)) ?_; conv => whnf)
  (refine call_s (c114 _ hs.2.1) ?_; conv => whnf)
  (refine ChkS.mk (by kernel_rfl) ?_; conv => whnf)
  (refine rq_s (by (rfl)) ?_; conv => whnf)
  iterate 2 (refine ChkS.mk (by kernel_rfl) ?_; conv => whnf)
  (refine rq_s (by (rfl)) ?_; conv => whnf)
  (refine rows_s (by (rfl)) ?_; conv => whnf)
  (refine call_s (c114 _ hs.2.2.1) ?_; conv => whnf)
  (refine ChkS.mk (by kernel_rfl) ?_; conv => whnf)
  (refine rq_s (by (rfl)) ?_; conv => whnf)
  iterate 2 (refine ChkS.mk (by kernel_rfl) ?_; conv => whnf)
  (refine rq_s (by (rfl)) ?_; conv => whnf)
  iterate 2 (refine ChkS.mk (by kernel_rfl) ?_; conv => whnf)
  (refine rq_s (by (rfl)) ?_; conv => whnf)
  iterate 2 (refine ChkS.mk (by kernel_rfl) ?_; conv => whnf)
  iterate 3 (refine fac_s (fun hf => ?_); conv => whnf)
  (refine rq_s (by (rfl)) ?_; conv => whnf)
  (refine rq_s (by ((simp only [decide_eq_true_eq, List.length_map, mkS_len]; done))) ?_; conv => whnf)
  (refine rq_s (by (rfl)) ?_; conv => whnf)
  (refine rq_s (by ((simp only [decide_eq_true_eq, List.length_map, mkS_len]; done))) ?_; conv => whnf)
  (refine rq_s (by (rfl)) ?_; conv => whnf)
  (refine rq_s (by ((simp only [decide_eq_true_eq, List.length_map, mkS_len]; done))) ?_; conv => whnf)
  iterate 4 (refine rq_s (by (rfl)) ?_; conv => whnf)
  iterate 3 (refine rows_s (by ((refine sub_all ?_; simp [List.length_map, mkS_len]; done))) ?_; conv => whnf)
  (refine sh_s ?_; (rfl))
theorem c56 (h : Hst) (hs : smallHost h) : Con Try.prog 56 [hstV h] (undefs [hstV h]) (hstO h) := by
  obtain ⟨h1, h2, h3, h4⟩ := hs
  refine Con.ev 24 T_ok mix Try.func56 rfl rfl rfl rfl [.cell 2 27] rfl ?_
  conv => whnf
  iterate 5 (refine rq_s (by (rfl)) ?_; conv => whnf)
  (refine rq_s (by (((simp [maxBytes, AV.plain]; omega)))) ?_; conv => whnf)
  (refine app0_s ?_; conv => whnf)
  iterate 5 (refine rq_s (by (rfl)) ?_; conv => whnf)
  (refine rq_s (by (((simp [maxBytes, AV.plain]; omega)))) ?_; conv => whnf)
  (refine app0_s ?_; conv => whnf)
  iterate 5 (refine rq_s (by (rfl)) ?_; conv => whnf)
  (refine rq_s (by (((simp [maxBytes, AV.plain]; omega)))) ?_; conv => whnf)
  (refine app0_s ?_; conv => whnf)
  iterate 5 (refine rq_s (by (rfl)) ?_; conv => whnf)
  (refine rq_s (by (((simp [maxBytes, AV.plain]; omega)))) ?_; conv => whnf)
  (refine app0_s ?_; conv => whnf)
  iterate 2 (refine rq_s (by (rfl)) ?_; conv => whnf)
  (refine rq_s (by ((simp only [decide_eq_true_eq, List.length_map, mkS_len]; done))) ?_; conv => whnf)
  (refine rq_s (by (rfl)) ?_; conv => whnf)
  (refine rq_s (by ((simp only [decide_eq_true_eq, List.length_map, mkS_len]; done))) ?_; conv => whnf)
  (refine rq_s (by (rfl)) ?_; conv => whnf)
  (refine rq_s (by ((simp only [decide_eq_true_eq, List.length_map, mkS_len]; done))) ?_; conv => whnf)
  iterate 2 (refine rq_s (by (rfl)) ?_; conv => whnf)
  (refine rq_s (by ((simp only [decide_eq_true_eq, List.length_map, mkS_len]; done))) ?_; conv => whnf)
  (refine rq_s (by (rfl)) ?_; conv => whnf)
  iterate 4 (refine rows_s (by ((refine sub_all ?_; simp [List.length_map, mkS_len]; done))) ?_; conv => whnf)
  rotate_left
  exact ⟨Sh.agg ⟨Sh.flat_map (fun _ => rfl) _, Sh.flat_map (fun _ => rfl) _, Sh.flat_map (fun _ => rfl) _, Sh.refl _, Sh.flat_map (fun _ => rfl) _, trivial⟩⟩
theorem c57 (d : Dat) (hs : smallData d) : Con Try.prog 57 [datV d] (undefs [datV d]) (datO d) := by
  obtain ⟨h1, h2, h3, h4⟩ := hs
  refine Con.ev 19 T_ok mix Try.func57 rfl rfl rfl rfl [.cell 2 30] rfl ?_
  conv => whnf
  iterate 5 (refine rq_s (by (rfl)) ?_; conv => whnf)
  (refine rq_s (by (((simp [maxBytes, AV.plain]; omega)))) ?_; conv => whnf)
  (refine app0_s ?_; conv => whnf)
  iterate 5 (refine rq_s (by (rfl)) ?_; conv => whnf)
  (refine rq_s (by (((simp [maxBytes, AV.plain]; omega)))) ?_; conv => whnf)
  (refine app0_s ?_; conv => whnf)
  iterate 5 (refine rq_s (by (rfl)) ?_; conv => whnf)
  (refine rq_s (by (((simp [maxBytes, AV.plain]; omega)))) ?_; conv => whnf)
  (refine app0_s ?_; conv => whnf)
  iterate 2 (refine rq_s (by (rfl)) ?_; conv => whnf)
  (refine rq_s (by ((simp only [decide_eq_true_eq, List.length_map, mkS_len]; done))) ?_; conv => whnf)
  (refine rq_s (by (rfl)) ?_; conv => whnf)
  (refine rq_s (by ((simp only [decide_eq_true_eq, List.length_map, mkS_len]; done))) ?_; conv => whnf)
  (refine rq_s (by (rfl)) ?_; conv => whnf)
  (refine rq_s (by ((simp only [decide_eq_true_eq, List.length_map, mkS_len]; done))) ?_; conv => whnf)
  iterate 4 (refine rq_s (by (rfl)) ?_; conv => whnf)
  iterate 3 (refine rows_s (by ((refine sub_all ?_; simp [List.length_map, mkS_len]; done))) ?_; conv => whnf)
  rotate_left
  exact ⟨Sh.agg ⟨Sh.flat_map (fun _ => rfl) _, Sh.flat_map (fun _ => rfl) _, Sh.flat_map (fun _ => rfl) _, Sh.refl _, Sh.refl _, Sh.refl _, trivial⟩⟩
end H1

/- Items: what is valid, what fits, sizes: contracts. -/
set_option linter.unusedVariables false
set_option linter.unusedSimpArgs false
set_option maxRecDepth 100000
open Go Go.Abs Go.Proofs V1 H1
namespace I1

theorem c134 (x : Itm) : Con Try.prog 134 [itV x] (undefs [itV x]) (.bool (itemOK x)) := by
  refine Con.ev 23 T_ok mix Try.func134 rfl rfl rfl rfl [.tmp 2] rfl ?_
  conv => whnf
  iterate 2 (refine rq_s (by (rfl)) ?_; conv => whnf)
  (refine br_s (fun hb => ?_) (fun hb => ?_) <;> (try simp only [beq_iff_eq, bne_iff_ne, ne_eq, decide_eq_true_eq, decide_eq_false_iff_not, Int.not_lt, Int.not_le, Bool.false_eq_true, if_false, if_true, beq_eq_false_iff_ne, bne_eq_false_iff_eq, Bool.not_eq_true', Bool.not_eq_false', Int.ofNat_lt, Int.ofNat_le, Int.ofNat_inj, List.length_map, List.length_nil, List.length_cons] at hb) <;> conv => whnf)
  iterate 4 (refine rq_s (by (rfl)) ?_; conv => whnf)
  (refine lend_s ?_; conv => whnf)
  (refine call_s (c68 ..) ?_; conv => whnf)
  (refine rq_s (by (rfl)) ?_; conv => whnf)
  (focus (refine sh_s ?_; (first | (simp_all [itemOK]; done) | (congr 1; rw [Bool.eq_iff_iff]; simp_all [itemOK]; done) | (congr 1; rw [Bool.eq_iff_iff]; simp_all [itemOK]; omega))))
  (refine br_s (fun hb => ?_) (fun hb => ?_) <;> (try simp only [beq_iff_eq, bne_iff_ne, ne_eq, decide_eq_true_eq, decide_eq_false_iff_not, Int.not_lt, Int.not_le, Bool.false_eq_true, if_false, if_true, beq_eq_false_iff_ne, bne_eq_false_iff_eq, Bool.not_eq_true', Bool.not_eq_false', Int.ofNat_lt, Int.ofNat_le, Int.ofNat_inj, List.length_map, List.length_nil, List.length_cons] at hb) <;> conv => whnf)
  iterate 2 (refine rq_s (by (rfl)) ?_; conv => whnf)
  (refine lend_s ?_; conv => whnf)
  (refine call_s (c62 ..) ?_; conv => whnf)
  (refine rq_s (by (rfl)) ?_; conv => whnf)
  (focus (refine sh_s ?_; (first | (simp_all [itemOK]; done) | (congr 1; rw [Bool.eq_iff_iff]; simp_all [itemOK]; done) | (congr 1; rw [Bool.eq_iff_iff]; simp_all [itemOK]; omega))))
  iterate 4 (refine rq_s (by (rfl)) ?_; conv => whnf)
  (refine lend_s ?_; conv => whnf)
  (refine call_s (c68 ..) ?_; conv => whnf)
  (refine br_s (fun hb => ?_) (fun hb => ?_) <;> (try simp only [beq_iff_eq, bne_iff_ne, ne_eq, decide_eq_true_eq, decide_eq_false_iff_not, Int.not_lt, Int.not_le, Bool.false_eq_true, if_false, if_true, beq_eq_false_iff_ne, bne_eq_false_iff_eq, Bool.not_eq_true', Bool.not_eq_false', Int.ofNat_lt, Int.ofNat_le, Int.ofNat_inj, List.length_map, List.length_nil, List.length_cons] at hb) <;> conv => whnf)
  (refine rq_s (by (rfl)) ?_; conv => whnf)
  iterate 2 (refine br_t rfl ?_; conv => whnf)
  (refine rq_s (by (rfl)) ?_; conv => whnf)
  (focus (refine sh_s ?_; (first | (simp_all [itemOK]; done) | (congr 1; rw [Bool.eq_iff_iff]; simp_all [itemOK]; done) | (congr 1; rw [Bool.eq_iff_iff]; simp_all [itemOK]; omega))))
  iterate 3 (refine br_f rfl ?_; conv => whnf)
  (refine rq_s (by (rfl)) ?_; conv => whnf)
  (focus (refine sh_s ?_; (first | (simp_all [itemOK]; done) | (congr 1; rw [Bool.eq_iff_iff]; simp_all [itemOK]; done) | (congr 1; rw [Bool.eq_iff_iff]; simp_all [itemOK]; omega))))
theorem c119 (x : Itm) : Con Try.prog 119 [itV x] (undefs [itV x]) (.bool (itemOK x)) := by
  refine Con.ev 23 T_ok mix Try.func119 rfl rfl rfl rfl [.tmp 2] rfl ?_
  conv => whnf
  iterate 2 (refine rq_s (by (rfl)) ?_; conv => whnf)
  (refine br_s (fun hb => ?_) (fun hb => ?_) <;> (try simp only [beq_iff_eq, bne_iff_ne, ne_eq, decide_eq_true_eq, decide_eq_false_iff_not, Int.not_lt, Int.not_le, Bool.false_eq_true, if_false, if_true, beq_eq_false_iff_ne, bne_eq_false_iff_eq, Bool.not_eq_true', Bool.not_eq_false', Int.ofNat_lt, Int.ofNat_le, Int.ofNat_inj, List.length_map, List.length_nil, List.length_cons] at hb) <;> conv => whnf)
  iterate 4 (refine rq_s (by (rfl)) ?_; conv => whnf)
  (refine lend_s ?_; conv => whnf)
  (refine call_s (c54 ..) ?_; conv => whnf)
  (refine rq_s (by (rfl)) ?_; conv => whnf)
  (focus (refine sh_s ?_; (first | (simp_all [itemOK]; done) | (congr 1; rw [Bool.eq_iff_iff]; simp_all [itemOK]; done) | (congr 1; rw [Bool.eq_iff_iff]; simp_all [itemOK]; omega))))
  (refine br_s (fun hb => ?_) (fun hb => ?_) <;> (try simp only [beq_iff_eq, bne_iff_ne, ne_eq, decide_eq_true_eq, decide_eq_false_iff_not, Int.not_lt, Int.not_le, Bool.false_eq_true, if_false, if_true, beq_eq_false_iff_ne, bne_eq_false_iff_eq, Bool.not_eq_true', Bool.not_eq_false', Int.ofNat_lt, Int.ofNat_le, Int.ofNat_inj, List.length_map, List.length_nil, List.length_cons] at hb) <;> conv => whnf)
  iterate 2 (refine rq_s (by (rfl)) ?_; conv => whnf)
  (refine lend_s ?_; conv => whnf)
  (refine call_s (c142 ..) ?_; conv => whnf)
  (refine rq_s (by (rfl)) ?_; conv => whnf)
  (focus (refine sh_s ?_; (first | (simp_all [itemOK]; done) | (congr 1; rw [Bool.eq_iff_iff]; simp_all [itemOK]; done) | (congr 1; rw [Bool.eq_iff_iff]; simp_all [itemOK]; omega))))
  iterate 4 (refine rq_s (by (rfl)) ?_; conv => whnf)
  (refine lend_s ?_; conv => whnf)
  (refine call_s (c54 ..) ?_; conv => whnf)
  (refine br_s (fun hb => ?_) (fun hb => ?_) <;> (try simp only [beq_iff_eq, bne_iff_ne, ne_eq, decide_eq_true_eq, decide_eq_false_iff_not, Int.not_lt, Int.not_le, Bool.false_eq_true, if_false, if_true, beq_eq_false_iff_ne, bne_eq_false_iff_eq, Bool.not_eq_true', Bool.not_eq_false', Int.ofNat_lt, Int.ofNat_le, Int.ofNat_inj, List.length_map, List.length_nil, List.length_cons] at hb) <;> conv => whnf)
  (refine rq_s (by (rfl)) ?_; conv => whnf)
  iterate 2 (refine br_t rfl ?_; conv => whnf)
  (refine rq_s (by (rfl)) ?_; conv => whnf)
  (focus (refine sh_s ?_; (first | (simp_all [itemOK]; done) | (congr 1; rw [Bool.eq_iff_iff]; simp_all [itemOK]; done) | (congr 1; rw [Bool.eq_iff_iff]; simp_all [itemOK]; omega))))
  iterate 3 (refine br_f rfl ?_; conv => whnf)
  (refine rq_s (by (rfl)) ?_; conv => whnf)
  (focus (refine sh_s ?_; (first | (simp_all [itemOK]; done) | (congr 1; rw [Bool.eq_iff_iff]; simp_all [itemOK]; done) | (congr 1; rw [Bool.eq_iff_iff]; simp_all [itemOK]; omega))))
theorem c133 (x : Itm) : Con Try.prog 133 [itV x] (undefs [itV x]) (.bool (badItem x)) := by
  refine Con.ev 6 T_ok mix Try.func133 rfl rfl rfl rfl [.tmp 2] rfl ?_
  conv => whnf
  iterate 3 (refine rq_s (by (rfl)) ?_; conv => whnf)
  (refine lend_s ?_; conv => whnf)
  (refine call_s (c134 ..) ?_; conv => whnf)
  (refine rq_s (by (rfl)) ?_; conv => whnf)
  (refine sh_s ?_; (rfl))

theorem c149 (rs : List (Itm)) : Con Try.prog 149 [roT rs, .fn 133 []] (undefs [roT rs, .fn 133 []]) (.int .i64 (findI badItem rs)) := by
  refine Con.evF 19 T_ok mix Try.func149 rfl rfl rfl rfl [.tmp 4] rfl fun ⟨hx, _⟩ => ?_
  have hx := facts_len hx
  conv => whnf
  rotate_left
  refine LoopG.rounds (α := Nat) T_ok mix [0, 1, 7, 8] [] (fun i => [(0, roT rs), (1, .fn 133 []), (7, .int .i64 rs.length), (8, .int .i64 i)]) (fun _ => []) (fun i => i ≤ rs.length ∧ ∀ j, j < i → badItem (rs.getD j default) = false) (fun i => rs.length - i) ?_ ?_
  · conv => whnf
    exact head_s 0 ⟨by simp, fun j hj => by omega⟩ (by simp [roT]) rfl
  · rintro i ⟨h1, h2⟩ - -
    conv => whnf
    (refine br_s (fun hb => ?_) (fun hb => ?_) <;> (try simp only [beq_iff_eq, bne_iff_ne, ne_eq, decide_eq_true_eq, decide_eq_false_iff_not, Int.not_lt, Int.not_le, Bool.false_eq_true, if_false, if_true, beq_eq_false_iff_ne, bne_eq_false_iff_eq, Bool.not_eq_true', Bool.not_eq_false', Int.ofNat_lt, Int.ofNat_le, Int.ofNat_inj, List.length_map, List.length_nil, List.length_cons] at hb) <;> conv => whnf)
    (refine rq_s (by (rfl)) ?_; conv => whnf)
    (refine rq_s (by ((refine and_s rfl ?_; simp only [decide_eq_true_eq, List.length_map]; omega))) ?_; conv => whnf)
    (refine row_s (by ((try simp only [Int.toNat_natCast]); exact row_map itR _ _ _ default (by first | omega | (simp; omega)))) ?_; conv => whnf)
    iterate 2 (refine rq_s (by (rfl)) ?_; conv => whnf)
    (refine lend_s ?_; conv => whnf)
    (refine call_s (c133 ..) ?_; conv => whnf)
    (refine br_s (fun hb => ?_) (fun hb => ?_) <;> (try simp only [beq_iff_eq, bne_iff_ne, ne_eq, decide_eq_true_eq, decide_eq_false_iff_not, Int.not_lt, Int.not_le, Bool.false_eq_true, if_false, if_true, beq_eq_false_iff_ne, bne_eq_false_iff_eq, Bool.not_eq_true', Bool.not_eq_false', Int.ofNat_lt, Int.ofNat_le, Int.ofNat_inj, List.length_map, List.length_nil, List.length_cons] at hb) <;> conv => whnf)
    (refine rq_s (by (rfl)) ?_; conv => whnf)
    iterate 2 (rotate_left)
    (refine rq_s (by (rfl)) ?_; conv => whnf)
    rotate_left
    · refine sh_s ?_
      rw [findI_hit default (by assumption) hb h2]
    · refine head_s (i + 1) ⟨⟨by omega, fun j hj => ?_⟩, by omega⟩ (by rw [wrap64 (by omega) (by omega)]; rfl) rfl
      by_cases hji : j = i
      · subst hji; exact hb
      · exact h2 j (by omega)
    · refine sh_s ?_
      rw [findI_none default fun j hj => h2 j (by omega)]
theorem c132 (rs : List (Itm)) : Con Try.prog 132 [roT rs, .fn 133 []] (undefs [roT rs, .fn 133 []]) (.bool (rs.any badItem)) := by
  refine Con.ev 9 T_ok mix Try.func132 rfl rfl rfl rfl [.tmp 4] rfl ?_
  conv => whnf
  iterate 2 (refine rq_s (by (rfl)) ?_; conv => whnf)
  (refine lend_s ?_; conv => whnf)
  (refine rows_s (by (rfl)) ?_; conv => whnf)
  (refine call_s (c149 ..) ?_; conv => whnf)
  (refine fac_s (fun hf => ?_); conv => whnf)
  (refine rq_s (by (rfl)) ?_; conv => whnf)
  (refine sh_s ?_; ((rw [← findI_any])))
theorem itemsBad (xs : List Itm) : Con Try.prog 132 [roT xs, .fn 133 []] (undefs [roT xs, .fn 133 []]) (.bool (!itemsOK xs)) := items_any xs ▸ c132 xs
def longT (rs : List Itm) : Bool := decide (4096 < rs.length)
theorem c148 (rs : List Itm) : Con Try.prog 148 [roT rs] (undefs [roT rs]) (.bool (longT rs)) := by
  refine Con.ev 6 T_ok mix Try.func148 rfl rfl rfl rfl [.tmp 2] rfl ?_
  conv => whnf
  (refine rq_s (by (rfl)) ?_; conv => whnf)
  (refine sh_s ?_; ((simp [longT]; omega)))
def rrT (rs : List Itm) : List AV := [roT rs]
def roRRT (rss : List (List Itm)) : AV := .ro [.emp] (rss.map rrT)

theorem c161 (rss : List (List Itm)) : Con Try.prog 161 [roRRT rss, .fn 148 []] (undefs [roRRT rss, .fn 148 []]) (.int .i64 (findI longT rss)) := by
  refine Con.evF 19 T_ok mix Try.func161 rfl rfl rfl rfl [.tmp 4] rfl fun ⟨hx, _⟩ => ?_
  have hx := facts_len hx
  conv => whnf
  rotate_left
  refine LoopG.rounds (α := Nat) T_ok mix [0, 1, 7, 8] [] (fun i => [(0, roRRT rss), (1, .fn 148 []), (7, .int .i64 rss.length), (8, .int .i64 i)]) (fun _ => []) (fun i => i ≤ rss.length ∧ ∀ j, j < i → longT (rss.getD j default) = false) (fun i => rss.length - i) ?_ ?_
  · conv => whnf
    exact head_s 0 ⟨by simp, fun j hj => by omega⟩ (by simp [roRRT]) rfl
  · rintro i ⟨h1, h2⟩ - -
    conv => whnf
    (refine br_s (fun hb => ?_) (fun hb => ?_) <;> (try simp only [beq_iff_eq, bne_iff_ne, ne_eq, decide_eq_true_eq, decide_eq_false_iff_not, Int.not_lt, Int.not_le, Bool.false_eq_true, if_false, if_true, beq_eq_false_iff_ne, bne_eq_false_iff_eq, Bool.not_eq_true', Bool.not_eq_false', Int.ofNat_lt, Int.ofNat_le, Int.ofNat_inj, List.length_map, List.length_nil, List.length_cons] at hb) <;> conv => whnf)
    (refine rq_s (by (rfl)) ?_; conv => whnf)
    (refine rq_s (by ((refine and_s rfl ?_; simp only [decide_eq_true_eq, List.length_map]; omega))) ?_; conv => whnf)
    (refine row_s (by ((try simp only [Int.toNat_natCast]); exact row_map rrT _ _ _ default (by first | omega | (simp; omega)))) ?_; conv => whnf)
    (refine rq_s (by (rfl)) ?_; conv => whnf)
    (refine lend_s ?_; conv => whnf)
    (refine rows_s (by (rfl)) ?_; conv => whnf)
    (refine call_s (c148 ..) ?_; conv => whnf)
    (refine br_s (fun hb => ?_) (fun hb => ?_) <;> (try simp only [beq_iff_eq, bne_iff_ne, ne_eq, decide_eq_true_eq, decide_eq_false_iff_not, Int.not_lt, Int.not_le, Bool.false_eq_true, if_false, if_true, beq_eq_false_iff_ne, bne_eq_false_iff_eq, Bool.not_eq_true', Bool.not_eq_false', Int.ofNat_lt, Int.ofNat_le, Int.ofNat_inj, List.length_map, List.length_nil, List.length_cons] at hb) <;> conv => whnf)
    (refine rq_s (by (rfl)) ?_; conv => whnf)
    iterate 2 (rotate_left)
    (refine rq_s (by (rfl)) ?_; conv => whnf)
    rotate_left
    · refine sh_s ?_
      rw [findI_hit default (by assumption) hb h2]
    · refine head_s (i + 1) ⟨⟨by omega, fun j hj => ?_⟩, by omega⟩ (by rw [wrap64 (by omega) (by omega)]; rfl) rfl
      by_cases hji : j = i
      · subst hji; exact hb
      · exact h2 j (by omega)
    · refine sh_s ?_
      rw [findI_none default fun j hj => h2 j (by omega)]
theorem c147 (rss : List (List Itm)) : Con Try.prog 147 [roRRT rss, .fn 148 []] (undefs [roRRT rss, .fn 148 []]) (.bool (rss.any longT)) := by
  refine Con.ev 9 T_ok mix Try.func147 rfl rfl rfl rfl [.tmp 4] rfl ?_
  conv => whnf
  iterate 2 (refine rq_s (by (rfl)) ?_; conv => whnf)
  (refine lend_s ?_; conv => whnf)
  (refine rows_s (by (rfl)) ?_; conv => whnf)
  (refine call_s (c161 ..) ?_; conv => whnf)
  (refine fac_s (fun hf => ?_); conv => whnf)
  (refine rq_s (by (rfl)) ?_; conv => whnf)
  (refine sh_s ?_; ((rw [← findI_any])))
theorem c131 (rs : List Itm) : Con Try.prog 131 [.ro [.emp] [[roT rs]]] (undefs [.ro [.emp] [[roT rs]]]) (.bool (decide (4096 < rs.length))) := by
  have e : (.bool (decide (4096 < rs.length)) : AV) = .bool ([rs].any longT) := by simp [longT]
  rw [e]
  show Con Try.prog 131 [roRRT [rs]] (undefs [roRRT [rs]]) _
  refine Con.ev 5 T_ok mix Try.func131 rfl rfl rfl rfl [.tmp 2] rfl ?_
  conv => whnf
  iterate 2 (refine rq_s (by (rfl)) ?_; conv => whnf)
  (refine lend_s ?_; conv => whnf)
  (refine rows_s (by (rfl)) ?_; conv => whnf)
  (refine call_s (c147 ..) ?_; conv => whnf)
  (refine rq_s (by (rfl)) ?_; conv => whnf)
  (refine sh_s ?_; (rfl))

theorem c85 (xs : List Itm) : Con Try.prog 85 [roT xs] (undefs [roT xs]) (.int .i64 (askF xs)) := by
  refine Con.ev 14 T_ok mix Try.func85 rfl rfl rfl rfl [.tmp 2] rfl ?_
  conv => whnf
  (refine rq_s (by (rfl)) ?_; conv => whnf)
  (refine rq_s (by ((simp only [decide_eq_true_eq, List.length_map, mkS_len]; done))) ?_; conv => whnf)
  (refine rq_s (by (rfl)) ?_; conv => whnf)
  (refine lend_s ?_; conv => whnf)
  (refine rows_s (by ((refine sub_all ?_; simp [List.length_map, mkS_len]; done))) ?_; conv => whnf)
  (refine call_s (c131 ..) ?_; conv => whnf)
  (refine br_s (fun hb => ?_) (fun hb => ?_) <;> (try simp only [beq_iff_eq, bne_iff_ne, ne_eq, decide_eq_true_eq, decide_eq_false_iff_not, Int.not_lt, Int.not_le, Bool.false_eq_true, if_false, if_true, beq_eq_false_iff_ne, bne_eq_false_iff_eq, Bool.not_eq_true', Bool.not_eq_false', Int.ofNat_lt, Int.ofNat_le, Int.ofNat_inj, List.length_map, List.length_nil, List.length_cons] at hb) <;> conv => whnf)
  (refine rq_s (by (rfl)) ?_; conv => whnf)
  (focus (refine sh_s ?_; ((simp only [askF]; first | (rw [if_pos (by omega)]; done) | (rw [if_neg (by omega), if_pos (by omega)]; done) | (rw [if_neg (by omega), if_neg (by omega), if_pos (by simp_all)]; done) | (rw [if_neg (by omega), if_neg (by omega), if_neg (by simp_all)]; done)))))
  (refine br_s (fun hb => ?_) (fun hb => ?_) <;> (try simp only [beq_iff_eq, bne_iff_ne, ne_eq, decide_eq_true_eq, decide_eq_false_iff_not, Int.not_lt, Int.not_le, Bool.false_eq_true, if_false, if_true, beq_eq_false_iff_ne, bne_eq_false_iff_eq, Bool.not_eq_true', Bool.not_eq_false', Int.ofNat_lt, Int.ofNat_le, Int.ofNat_inj, List.length_map, List.length_nil, List.length_cons] at hb) <;> conv => whnf)
  (refine rq_s (by (rfl)) ?_; conv => whnf)
  (focus (refine sh_s ?_; ((simp only [askF]; first | (rw [if_pos (by omega)]; done) | (rw [if_neg (by omega), if_pos (by omega)]; done) | (rw [if_neg (by omega), if_neg (by omega), if_pos (by simp_all)]; done) | (rw [if_neg (by omega), if_neg (by omega), if_neg (by simp_all)]; done)))))
  iterate 2 (refine rq_s (by (rfl)) ?_; conv => whnf)
  (refine lend_s ?_; conv => whnf)
  (refine rows_s (by (rfl)) ?_; conv => whnf)
  (refine call_s (itemsBad ..) ?_; conv => whnf)
  (refine br_s (fun hb => ?_) (fun hb => ?_) <;> (try simp only [beq_iff_eq, bne_iff_ne, ne_eq, decide_eq_true_eq, decide_eq_false_iff_not, Int.not_lt, Int.not_le, Bool.false_eq_true, if_false, if_true, beq_eq_false_iff_ne, bne_eq_false_iff_eq, Bool.not_eq_true', Bool.not_eq_false', Int.ofNat_lt, Int.ofNat_le, Int.ofNat_inj, List.length_map, List.length_nil, List.length_cons] at hb) <;> conv => whnf)
  (refine rq_s (by (rfl)) ?_; conv => whnf)
  (focus (refine sh_s ?_; ((simp only [askF]; first | (rw [if_pos (by omega)]; done) | (rw [if_neg (by omega), if_pos (by omega)]; done) | (rw [if_neg (by omega), if_neg (by omega), if_pos (by simp_all)]; done) | (rw [if_neg (by omega), if_neg (by omega), if_neg (by simp_all)]; done)))))
  (refine rq_s (by (rfl)) ?_; conv => whnf)
  (focus (refine sh_s ?_; ((simp only [askF]; first | (rw [if_pos (by omega)]; done) | (rw [if_neg (by omega), if_pos (by omega)]; done) | (rw [if_neg (by omega), if_neg (by omega), if_pos (by simp_all)]; done) | (rw [if_neg (by omega), if_neg (by omega), if_neg (by simp_all)]; done)))))

theorem c63 (xs : List Itm) : Con Try.prog 63 [roT xs] (undefs [roT xs]) (.int .i64 (askF xs)) := by
  refine Con.evF 22 T_ok mix Try.func63 rfl rfl rfl rfl [.tmp 2] rfl fun ⟨hx, _⟩ => ?_
  have hx := facts_len hx
  conv => whnf
  (refine br_s (fun hb => ?_) (fun hb => ?_) <;> (try simp only [beq_iff_eq, bne_iff_ne, ne_eq, decide_eq_true_eq, decide_eq_false_iff_not, Int.not_lt, Int.not_le, Bool.false_eq_true, if_false, if_true, beq_eq_false_iff_ne, bne_eq_false_iff_eq, Bool.not_eq_true', Bool.not_eq_false', Int.ofNat_lt, Int.ofNat_le, Int.ofNat_inj, List.length_map, List.length_nil, List.length_cons] at hb) <;> conv => whnf)
  (refine rq_s (by (rfl)) ?_; conv => whnf)
  (focus (refine sh_s ?_; ((simp only [askF]; first | (rw [if_pos (by omega)]; done) | (rw [if_neg (by omega), if_pos (by omega)]; done)))))
  (refine br_s (fun hb => ?_) (fun hb => ?_) <;> (try simp only [beq_iff_eq, bne_iff_ne, ne_eq, decide_eq_true_eq, decide_eq_false_iff_not, Int.not_lt, Int.not_le, Bool.false_eq_true, if_false, if_true, beq_eq_false_iff_ne, bne_eq_false_iff_eq, Bool.not_eq_true', Bool.not_eq_false', Int.ofNat_lt, Int.ofNat_le, Int.ofNat_inj, List.length_map, List.length_nil, List.length_cons] at hb) <;> conv => whnf)
  (refine rq_s (by (rfl)) ?_; conv => whnf)
  (focus (refine sh_s ?_; ((simp only [askF]; first | (rw [if_pos (by omega)]; done) | (rw [if_neg (by omega), if_pos (by omega)]; done)))))
  rotate_left
  refine LoopG.rounds (α := Nat) T_ok mix [0, 3] [] (fun i => [(0, roT xs), (3, .int .i64 i)]) (fun _ => []) (fun i => i ≤ xs.length ∧ ∀ j, j < i → itemOK (xs.getD j default) = true) (fun i => xs.length - i) ?_ ?_
  · conv => whnf
    exact head_s 0 ⟨by simp, fun j hj => by omega⟩ (by first | rfl | simp [roT]) rfl
  · rintro i ⟨h1, h2⟩ - -
    conv => whnf
    (refine br_s (fun hb => ?_) (fun hb => ?_) <;> (try simp only [beq_iff_eq, bne_iff_ne, ne_eq, decide_eq_true_eq, decide_eq_false_iff_not, Int.not_lt, Int.not_le, Bool.false_eq_true, if_false, if_true, beq_eq_false_iff_ne, bne_eq_false_iff_eq, Bool.not_eq_true', Bool.not_eq_false', Int.ofNat_lt, Int.ofNat_le, Int.ofNat_inj, List.length_map, List.length_nil, List.length_cons] at hb) <;> conv => whnf)
    (refine rq_s (by (rfl)) ?_; conv => whnf)
    (refine rq_s (by ((refine and_s rfl ?_; simp only [decide_eq_true_eq, List.length_map]; omega))) ?_; conv => whnf)
    (refine row_s (by ((try simp only [Int.toNat_natCast]); exact row_map itR _ _ _ default (by first | omega | (simp; omega)))) ?_; conv => whnf)
    iterate 2 (refine rq_s (by (rfl)) ?_; conv => whnf)
    (refine lend_s ?_; conv => whnf)
    (refine call_s (c119 ..) ?_; conv => whnf)
    (refine br_s (fun hb => ?_) (fun hb => ?_) <;> (try simp only [beq_iff_eq, bne_iff_ne, ne_eq, decide_eq_true_eq, decide_eq_false_iff_not, Int.not_lt, Int.not_le, Bool.false_eq_true, if_false, if_true, beq_eq_false_iff_ne, bne_eq_false_iff_eq, Bool.not_eq_true', Bool.not_eq_false', Int.ofNat_lt, Int.ofNat_le, Int.ofNat_inj, List.length_map, List.length_nil, List.length_cons] at hb) <;> conv => whnf)
    (refine rq_s (by (rfl)) ?_; conv => whnf)
    iterate 2 (rotate_left)
    (refine rq_s (by (rfl)) ?_; conv => whnf)
    rotate_left
    · refine sh_s ?_
      have : itemsOK xs = false := all_bad (by assumption) (by simpa using hb)
      simp only [askF]
      rw [if_neg (by omega), if_neg (by omega), if_neg (by simp [this])]
    · refine head_s (i + 1) ⟨⟨by omega, fun j hj => ?_⟩, by omega⟩ (by rw [wrap64 (by omega) (by omega)]; rfl) rfl
      by_cases hji : j = i
      · subst hji; simpa using hb
      · exact h2 j (by omega)
    · refine sh_s ?_
      have : itemsOK xs = true := all_good fun j hj => h2 j (by omega)
      simp only [askF]
      rw [if_neg (by omega), if_neg (by omega), if_pos this]
end I1

/- What is open behind items, and sizes: contracts. -/
set_option linter.unusedVariables false
set_option linter.unusedSimpArgs false
set_option maxRecDepth 100000
open Go Go.Abs Go.Proofs V1 H1 I1
namespace I2

theorem roI_sh (xs : List Int) : Sh (ownI xs) (roI xs) := Sh.own_ro (by omega) _ _

theorem c154 (op : List Int) (k : Int) (h1 : 1 ≤ op.length) (h2 : op.length ≤ 1000) : Con Try.prog 154 [.int .i64 k, .rp [roI op] 0] (undefs [.int .i64 k, .rp [roI op] 0]) (ownI (op.take (op.length - 1) ++ [k])) := by
  have w1 : IntKind.i64.wrap ((op.length : Int) - 1) = (op.length : Int) - 1 := wrap64 (by omega) (by omega)
  have w2 : (IntKind.i64.wrap ((op.length : Int) - 1)).toNat = op.length - 1 := by omega
  refine Con.ev 13 T_ok mix Try.func154 rfl rfl rfl rfl [.tmp 3] rfl ?_
  conv => whnf
  iterate 2 (refine row_s (by (rfl)) ?_; conv => whnf)
  (refine rq_s (by ((simp only [Bool.and_eq_true, decide_eq_true_eq, List.length_map]; omega))) ?_; conv => whnf)
  (refine rq_s (by ((refine and_s rfl ?_; simp only [decide_eq_true_eq, List.length_map]; omega))) ?_; conv => whnf)
  iterate 2 (refine rq_s (by (rfl)) ?_; conv => whnf)
  (refine lend_s ?_; conv => whnf)
  (refine rows_s (by (exact sub_map _ _ _ _)) ?_; conv => whnf)
  (refine call_s (c114 _ (by first | omega | (dsimp only; omega) | (simp; omega))) ?_; conv => whnf)
  (refine rq_s (by (rfl)) ?_; conv => whnf)
  (refine rq_s (by ((simp only [decide_eq_true_eq, List.length_map, mkS_len]; done))) ?_; conv => whnf)
  iterate 2 (refine rq_s (by (rfl)) ?_; conv => whnf)
  (refine rq_s (by ((simp only [decide_eq_true_eq, List.length_map, mkS_len]; done))) ?_; conv => whnf)
  (refine rq_s (by (((simp [maxBytes, subA]; omega)))) ?_; conv => whnf)
  (refine app0_s ?_; conv => whnf)
  (refine rq_s (by ((simp only [decide_eq_true_eq, List.length_map, mkS_len]; done))) ?_; conv => whnf)
  (refine rq_s (by (rfl)) ?_; conv => whnf)
  (refine rows_s (by (rfl)) ?_; conv => whnf)
  (refine sh_s ?_; ((simp [w2, subA, ownI, intR, List.map_take, List.take_take, List.take_of_length_le])))
section
variable {op : List Int} {k : Int}
theorem ft_o (hk : k = 3 ∨ k = 6 ∨ k = 10) : fitL op k = op ++ [k] ∧ fitI op k = op ++ [k] ∧ fitB op k = decide (op.length < 8) := by
  have h1 : fitL op k = op ++ [k] := by rw [fitL, if_pos hk]
  exact ⟨h1, by rw [fitI, if_pos (.inr hk), h1], by rw [fitB, if_pos hk]⟩
theorem ft_t (hk : k = 4 ∨ k = 8) : fitL op k = op.take (op.length - 1) ++ [k] := by rw [fitL, if_neg (by omega), if_pos hk]
theorem ft_c (hk : k = 5 ∨ k = 7 ∨ k = 9 ∨ k = 11 ∨ k = 12) : fitL op k = op.take (op.length - 1) := by rw [fitL, if_neg (by omega), if_neg (by omega), if_pos hk]
theorem ft_n (hk : ¬ (3 ≤ k ∧ k ≤ 12)) : fitL op k = op ∧ fitI op k = op ∧ fitB op k = true := by
  have h1 : fitL op k = op := by rw [fitL, if_neg (by omega), if_neg (by omega), if_neg (by omega)]
  have h2 : fitB op k = true := by rw [fitB, if_neg (by omega), if_neg (by omega), if_neg (by omega), if_neg (by omega), if_neg (by omega), if_neg (by omega), if_neg (by omega)]
  exact ⟨h1, by rw [fitI_t h2, h1], h2⟩
theorem fb4 : fitB op 4 = decide (lastF op = 3) := rfl
theorem fb8 : fitB op 8 = decide (lastF op = 6) := rfl
theorem fb5 : fitB op 5 = (decide (lastF op = 3) || decide (lastF op = 4)) := rfl
theorem fb7 : fitB op 7 = decide (lastF op = 6) := rfl
theorem fb9 : fitB op 9 = decide (lastF op = 8) := rfl
theorem fb11 : fitB op 11 = decide (lastF op = 10) := rfl
theorem fb12 : fitB op 12 = decide (lastF op = 10) := rfl
theorem fi_f (h : fitB op k = false) (hk : ¬ (k = 3 ∨ k = 6 ∨ k = 10)) : fitI op k = op := by rw [fitI, if_neg (by simp [h, hk])]
theorem last_pos (h : lastF op ≠ 0) : 1 ≤ op.length := by
  by_cases h0 : op.length = 0
  · obtain rfl := List.length_eq_zero_iff.1 h0
    simp [lastF] at h
  · omega
theorem row_last (z : List AV) (e : 1 ≤ op.length) (h1 : op.length ≤ 1000) : rowA (op.map intR) (Int.toNat (IntKind.i64.wrap ((op.length : Int) - 1))) z = [.int .i64 (lastF op)] := by
  rw [wrap64 (by omega) (by omega), show ((op.length : Int) - 1).toNat = op.length - 1 by omega]
  exact row_map intR op _ _ 0 (by omega)
end

def fitR (l : List Int) (b : Bool) : AV := .tup [roI l, .bool b]
theorem fitR_sh (l : List Int) (b : Bool) : Sh (.tup [ownI l, .bool b]) (fitR l b) := Sh.tup ⟨Sh.own_ro (by omega) _ _, Sh.refl _, trivial⟩
theorem fit0 (op : List Int) (k : Int) (h7 : lastF op ≠ 7) (h2 : op.length ≤ 8) (hk : ¬ (3 ≤ k ∧ k ≤ 12)) : Con Try.prog 136 [roI op, .int .i64 k] (undefs [roI op, .int .i64 k]) (fitR op true) := by
  have w1 : IntKind.i64.wrap ((op.length : Int) - 1) = (op.length : Int) - 1 := wrap64 (by omega) (by omega)
  have e3 : (k == 3) = false := by simp; omega
  have e4 : (k == 4) = false := by simp; omega
  have e5 : (k == 5) = false := by simp; omega
  have e6 : (k == 6) = false := by simp; omega
  have e7 : (k == 7) = false := by simp; omega
  have e8 : (k == 8) = false := by simp; omega
  have e9 : (k == 9) = false := by simp; omega
  have e10 : (k == 10) = false := by simp; omega
  have e11 : (k == 11) = false := by simp; omega
  have e12 : (k == 12) = false := by simp; omega
  refine Con.ev 82 T_ok mix Try.func136 rfl rfl rfl rfl [.tmp 4, .tmp 5] rfl ?_
  conv => whnf
  (refine rq_s (by (rfl)) ?_; conv => whnf)
  (refine br_s (fun hb => ?_) (fun hb => ?_) <;> (try simp only [beq_iff_eq, bne_iff_ne, ne_eq, decide_eq_true_eq, decide_eq_false_iff_not, Int.not_lt, Int.not_le, Bool.false_eq_true, if_false, if_true, beq_eq_false_iff_ne, bne_eq_false_iff_eq, Bool.not_eq_true', Bool.not_eq_false', Int.ofNat_lt, Int.ofNat_le, Int.ofNat_inj, List.length_map, List.length_nil, List.length_cons] at hb) <;> conv => whnf)
  (refine rq_s (by ((simp only [Bool.and_eq_true, decide_eq_true_eq, List.length_map]; omega))) ?_; conv => whnf)
  (refine rq_s (by ((refine and_s rfl ?_; simp only [decide_eq_true_eq, List.length_map]; omega))) ?_; conv => whnf)
  (refine row_s (by ((try simp only [Nat.zero_add, List.length_map]); exact row_last _ (by omega) (by omega))) ?_; conv => whnf)
  iterate 10 (refine br_f (by assumption) ?_; conv => whnf)
  iterate 2 (refine rq_s (by (rfl)) ?_; conv => whnf)
  (refine rows_s (by (rfl)) ?_; conv => whnf)
  (refine sh_s ?_; (rfl))
  iterate 10 (refine br_f (by assumption) ?_; conv => whnf)
  iterate 2 (refine rq_s (by (rfl)) ?_; conv => whnf)
  (refine rows_s (by (rfl)) ?_; conv => whnf)
  (refine sh_s ?_; (rfl))
theorem sub3 (op : List Int) (k : Int) : subA (subA (op.map intR) 0 (op.map intR).length ++ subA [[AV.int .i64 k]] 0 1) 0 ((op.map intR).length + (subA [[AV.int .i64 k]] 0 1).length) = (op ++ [k]).map intR := by
  simp [subA, intR, List.take_of_length_le]
theorem w41 : IntKind.i64.wrap (4 - 1) = 3 := by decide
theorem w81 : IntKind.i64.wrap (8 - 1) = 7 := by decide
theorem fit_o {op : List Int} {k : Int} {b : Bool} (hk : k = 3 ∨ k = 6 ∨ k = 10) (hb : b = decide (op.length < 8)) : Sh (.tup [.own 0 zI ((op ++ [k]).map intR), .bool b]) (fitR (fitI op k) (fitB op k)) := by
  rw [(ft_o hk).2.1, (ft_o hk).2.2, ← hb]
  exact fitR_sh _ _
theorem fit_f {op : List Int} {k : Int} (hk : ¬ (k = 3 ∨ k = 6 ∨ k = 10)) (h : fitB op k = false) : Sh (.tup [.ro zI (op.map intR), .bool false]) (fitR (fitI op k) (fitB op k)) := by
  rw [fi_f h hk, h]
  exact Sh.refl _
theorem fit_t {op : List Int} {k : Int} (hk : k = 4 ∨ k = 8) (h : fitB op k = true) : Sh (.tup [.own 0 zI ((op.take (op.length - 1) ++ [k]).map intR), .bool true]) (fitR (fitI op k) (fitB op k)) := by
  rw [fitI_t h, h, ft_t hk]
  exact fitR_sh _ _
theorem fit_c {op : List Int} {k : Int} {n : Nat} (hk : k = 5 ∨ k = 7 ∨ k = 9 ∨ k = 11 ∨ k = 12) (h : fitB op k = true) (hn : n = op.length - 1) : Sh (.tup [.ro zI ((op.take n).map intR), .bool true]) (fitR (fitI op k) (fitB op k)) := by
  rw [fitI_t h, h, ft_c hk, hn]
  exact Sh.refl _
theorem c136 (op : List Int) (k : Int) (h7 : lastF op ≠ 7) (h2 : op.length ≤ 8) : Con Try.prog 136 [roI op, .int .i64 k] (undefs [roI op, .int .i64 k]) (fitR (fitI op k) (fitB op k)) := by
  have w1 : IntKind.i64.wrap ((op.length : Int) - 1) = (op.length : Int) - 1 := wrap64 (by omega) (by omega)
  by_cases hk : 3 ≤ k ∧ k ≤ 12
  · have : k = 3 ∨ k = 4 ∨ k = 5 ∨ k = 6 ∨ k = 7 ∨ k = 8 ∨ k = 9 ∨ k = 10 ∨ k = 11 ∨ k = 12 := by omega
    rcases this with rfl | rfl | rfl | rfl | rfl | rfl | rfl | rfl | rfl | rfl <;>
    (refine Con.ev 82 T_ok mix Try.func136 rfl rfl rfl rfl [.tmp 4, .tmp 5] rfl ?_
     conv => whnf
     (refine rq_s (by (rfl)) ?_; conv => whnf)
     (refine br_s (fun hb => ?_) (fun hb => ?_) <;> (try simp only [beq_iff_eq, bne_iff_ne, ne_eq, decide_eq_true_eq, decide_eq_false_iff_not, Int.not_lt, Int.not_le, Bool.false_eq_true, if_false, if_true, beq_eq_false_iff_ne, bne_eq_false_iff_eq, Bool.not_eq_true', Bool.not_eq_false', Int.ofNat_lt, Int.ofNat_le, Int.ofNat_inj, List.length_map, List.length_nil, List.length_cons] at hb) <;> conv => whnf)
     (refine rq_s (by ((simp only [Bool.and_eq_true, decide_eq_true_eq, List.length_map]; omega))) ?_; conv => whnf)
     (refine rq_s (by ((refine and_s rfl ?_; simp only [decide_eq_true_eq, List.length_map]; omega))) ?_; conv => whnf)
     (refine row_s (by ((try simp only [Nat.zero_add, List.length_map]); exact row_last _ (by omega) (by omega))) ?_; conv => whnf)
     first
       | ( iterate 2 (refine br_t rfl ?_; conv => whnf)
           iterate 2 (refine ChkS.mk (by kernel_rfl) ?_; conv => whnf)
           (refine rq_s (by (rfl)) ?_; conv => whnf)
           (refine rows_s (by (rfl)) ?_; conv => whnf)
           (refine call_s (c114 _ (by first | omega | (dsimp only; omega) | (simp; omega))) ?_; conv => whnf)
           iterate 2 (refine ChkS.mk (by kernel_rfl) ?_; conv => whnf)
           (refine rq_s (by (rfl)) ?_; conv => whnf)
           (refine ChkS.mk (by kernel_rfl) ?_; conv => whnf)
           (refine rq_s (by ((simp only [decide_eq_true_eq, List.length_map, mkS_len]; done))) ?_; conv => whnf)
           iterate 2 (refine rq_s (by (rfl)) ?_; conv => whnf)
           (refine rq_s (by ((simp only [decide_eq_true_eq, List.length_map, mkS_len]; done))) ?_; conv => whnf)
           (refine rq_s (by (((simp [maxBytes, subA]; omega)))) ?_; conv => whnf)
           (refine app0_s ?_; conv => whnf)
           iterate 6 (refine ChkS.mk (by kernel_rfl) ?_; conv => whnf)
           (refine rq_s (by ((simp only [decide_eq_true_eq, List.length_map, mkS_len]; done))) ?_; conv => whnf)
           iterate 2 (refine rq_s (by (rfl)) ?_; conv => whnf)
           (refine rows_s (by (rfl)) ?_; conv => whnf)
           rotate_left
           iterate 2 (refine br_t rfl ?_; conv => whnf)
           iterate 2 (refine ChkS.mk (by kernel_rfl) ?_; conv => whnf)
           (refine rq_s (by (rfl)) ?_; conv => whnf)
           (refine rows_s (by (rfl)) ?_; conv => whnf)
           (refine call_s (c114 _ (by first | omega | (dsimp only; omega) | (simp; omega))) ?_; conv => whnf)
           iterate 2 (refine ChkS.mk (by kernel_rfl) ?_; conv => whnf)
           (refine rq_s (by (rfl)) ?_; conv => whnf)
           (refine ChkS.mk (by kernel_rfl) ?_; conv => whnf)
           (refine rq_s (by ((simp only [decide_eq_true_eq, List.length_map, mkS_len]; done))) ?_; conv => whnf)
           iterate 2 (refine rq_s (by (rfl)) ?_; conv => whnf)
           (refine rq_s (by ((simp only [decide_eq_true_eq, List.length_map, mkS_len]; done))) ?_; conv => whnf)
           (refine rq_s (by (((simp [maxBytes, subA]; omega)))) ?_; conv => whnf)
           (refine app0_s ?_; conv => whnf)
           iterate 6 (refine ChkS.mk (by kernel_rfl) ?_; conv => whnf)
           (refine rq_s (by ((simp only [decide_eq_true_eq, List.length_map, mkS_len]; done))) ?_; conv => whnf)
           iterate 2 (refine rq_s (by (rfl)) ?_; conv => whnf)
           (refine rows_s (by (rfl)) ?_; conv => whnf)
           rotate_left)
       | ( iterate 3 (refine br_f rfl ?_; conv => whnf)
           iterate 2 (refine br_t rfl ?_; conv => whnf)
           (refine br_s (fun hb => ?_) (fun hb => ?_) <;> (try simp only [beq_iff_eq, bne_iff_ne, ne_eq, decide_eq_true_eq, decide_eq_false_iff_not, Int.not_lt, Int.not_le, Bool.false_eq_true, if_false, if_true, beq_eq_false_iff_ne, bne_eq_false_iff_eq, Bool.not_eq_true', Bool.not_eq_false', Int.ofNat_lt, Int.ofNat_le, Int.ofNat_inj, List.length_map, List.length_nil, List.length_cons] at hb) <;> conv => whnf)
           iterate 2 (refine br_t rfl ?_; conv => whnf)
           iterate 2 (refine br_f rfl ?_; conv => whnf)
           (refine br_t rfl ?_; conv => whnf)
           (refine br_f rfl ?_; conv => whnf)
           iterate 2 (refine br_t rfl ?_; conv => whnf)
           iterate 2 (refine rq_s (by (rfl)) ?_; conv => whnf)
           (refine rows_s (by (rfl)) ?_; conv => whnf)
           rotate_left
           iterate 6 (refine br_f rfl ?_; conv => whnf)
           (refine handp_s 154 [none, none] ?_; conv => whnf)
           iterate 3 (refine rq_s (by (rfl)) ?_; conv => whnf)
           (focus (apply callpe_s (f := 154); (· repeat' (first | (refine sub_all ?_; simp [List.length_map, mkS_len]; done) | exact sub_map _ _ _ _ | apply cons_eq | apply obj_eq | apply agg_eq | apply own_eq | apply ro_eq | apply rp_eq | apply fnc_eq | rfl)); refine callp_s (f := 154) rfl (c154 _ _ (by first | omega | (dsimp only; omega) | (simp; omega)) (by first | omega | (dsimp only; omega) | (simp; omega))) ?_; conv => whnf))
           (refine fac_s (fun hf => ?_); conv => whnf)
           (refine rq_s (by ((simp only [decide_eq_true_eq, List.length_map, mkS_len]; done))) ?_; conv => whnf)
           iterate 2 (refine rq_s (by (rfl)) ?_; conv => whnf)
           (refine rows_s (by ((refine sub_all ?_; simp [List.length_map, mkS_len]; done))) ?_; conv => whnf)
           rotate_left
           iterate 3 (refine br_f rfl ?_; conv => whnf)
           iterate 5 (refine br_t rfl ?_; conv => whnf)
           iterate 2 (refine br_f rfl ?_; conv => whnf)
           (refine br_t rfl ?_; conv => whnf)
           (refine br_f rfl ?_; conv => whnf)
           iterate 2 (refine br_t rfl ?_; conv => whnf)
           iterate 2 (refine rq_s (by (rfl)) ?_; conv => whnf)
           (refine rows_s (by (rfl)) ?_; conv => whnf)
           rotate_left)
       | ( iterate 5 (refine br_f rfl ?_; conv => whnf)
           (refine br_t rfl ?_; conv => whnf)
           (refine br_s (fun hb => ?_) (fun hb => ?_) <;> (try simp only [beq_iff_eq, bne_iff_ne, ne_eq, decide_eq_true_eq, decide_eq_false_iff_not, Int.not_lt, Int.not_le, Bool.false_eq_true, if_false, if_true, beq_eq_false_iff_ne, bne_eq_false_iff_eq, Bool.not_eq_true', Bool.not_eq_false', Int.ofNat_lt, Int.ofNat_le, Int.ofNat_inj, List.length_map, List.length_nil, List.length_cons] at hb) <;> conv => whnf)
           (refine br_t rfl ?_; conv => whnf)
           (refine br_s (fun hb => ?_) (fun hb => ?_) <;> (try simp only [beq_iff_eq, bne_iff_ne, ne_eq, decide_eq_true_eq, decide_eq_false_iff_not, Int.not_lt, Int.not_le, Bool.false_eq_true, if_false, if_true, beq_eq_false_iff_ne, bne_eq_false_iff_eq, Bool.not_eq_true', Bool.not_eq_false', Int.ofNat_lt, Int.ofNat_le, Int.ofNat_inj, List.length_map, List.length_nil, List.length_cons] at hb) <;> conv => whnf)
           iterate 2 (refine rq_s (by (rfl)) ?_; conv => whnf)
           (refine rows_s (by (rfl)) ?_; conv => whnf)
           rotate_left
           (refine rq_s (by ((simp only [Bool.and_eq_true, decide_eq_true_eq, List.length_map]; omega))) ?_; conv => whnf)
           (refine rq_s (by ((refine and_s rfl ?_; simp only [decide_eq_true_eq, List.length_map]; omega))) ?_; conv => whnf)
           iterate 3 (refine rq_s (by (rfl)) ?_; conv => whnf)
           (refine rows_s (by (exact sub_map _ _ _ _)) ?_; conv => whnf)
           rotate_left
           iterate 3 (refine br_f rfl ?_; conv => whnf)
           (refine rq_s (by ((simp only [Bool.and_eq_true, decide_eq_true_eq, List.length_map]; omega))) ?_; conv => whnf)
           (refine rq_s (by ((refine and_s rfl ?_; simp only [decide_eq_true_eq, List.length_map]; omega))) ?_; conv => whnf)
           iterate 3 (refine rq_s (by (rfl)) ?_; conv => whnf)
           (refine rows_s (by (exact sub_map _ _ _ _)) ?_; conv => whnf)
           rotate_left
           iterate 5 (refine br_f rfl ?_; conv => whnf)
           iterate 4 (refine br_t rfl ?_; conv => whnf)
           iterate 2 (refine rq_s (by (rfl)) ?_; conv => whnf)
           (refine rows_s (by (rfl)) ?_; conv => whnf)
           rotate_left)
       | ( (refine br_f rfl ?_; conv => whnf)
           iterate 2 (refine br_t rfl ?_; conv => whnf)
           iterate 2 (refine ChkS.mk (by kernel_rfl) ?_; conv => whnf)
           (refine rq_s (by (rfl)) ?_; conv => whnf)
           (refine rows_s (by (rfl)) ?_; conv => whnf)
           (refine call_s (c114 _ (by first | omega | (dsimp only; omega) | (simp; omega))) ?_; conv => whnf)
           iterate 2 (refine ChkS.mk (by kernel_rfl) ?_; conv => whnf)
           (refine rq_s (by (rfl)) ?_; conv => whnf)
           (refine ChkS.mk (by kernel_rfl) ?_; conv => whnf)
           (refine rq_s (by ((simp only [decide_eq_true_eq, List.length_map, mkS_len]; done))) ?_; conv => whnf)
           iterate 2 (refine rq_s (by (rfl)) ?_; conv => whnf)
           (refine rq_s (by ((simp only [decide_eq_true_eq, List.length_map, mkS_len]; done))) ?_; conv => whnf)
           (refine rq_s (by (((simp [maxBytes, subA]; omega)))) ?_; conv => whnf)
           (refine app0_s ?_; conv => whnf)
           iterate 6 (refine ChkS.mk (by kernel_rfl) ?_; conv => whnf)
           (refine rq_s (by ((simp only [decide_eq_true_eq, List.length_map, mkS_len]; done))) ?_; conv => whnf)
           iterate 2 (refine rq_s (by (rfl)) ?_; conv => whnf)
           (refine rows_s (by (rfl)) ?_; conv => whnf)
           rotate_left
           (refine br_f rfl ?_; conv => whnf)
           iterate 2 (refine br_t rfl ?_; conv => whnf)
           iterate 2 (refine ChkS.mk (by kernel_rfl) ?_; conv => whnf)
           (refine rq_s (by (rfl)) ?_; conv => whnf)
           (refine rows_s (by (rfl)) ?_; conv => whnf)
           (refine call_s (c114 _ (by first | omega | (dsimp only; omega) | (simp; omega))) ?_; conv => whnf)
           iterate 2 (refine ChkS.mk (by kernel_rfl) ?_; conv => whnf)
           (refine rq_s (by (rfl)) ?_; conv => whnf)
           (refine ChkS.mk (by kernel_rfl) ?_; conv => whnf)
           (refine rq_s (by ((simp only [decide_eq_true_eq, List.length_map, mkS_len]; done))) ?_; conv => whnf)
           iterate 2 (refine rq_s (by (rfl)) ?_; conv => whnf)
           (refine rq_s (by ((simp only [decide_eq_true_eq, List.length_map, mkS_len]; done))) ?_; conv => whnf)
           (refine rq_s (by (((simp [maxBytes, subA]; omega)))) ?_; conv => whnf)
           (refine app0_s ?_; conv => whnf)
           iterate 6 (refine ChkS.mk (by kernel_rfl) ?_; conv => whnf)
           (refine rq_s (by ((simp only [decide_eq_true_eq, List.length_map, mkS_len]; done))) ?_; conv => whnf)
           iterate 2 (refine rq_s (by (rfl)) ?_; conv => whnf)
           (refine rows_s (by (rfl)) ?_; conv => whnf)
           rotate_left)
       | ( iterate 6 (refine br_f rfl ?_; conv => whnf)
           (refine br_t rfl ?_; conv => whnf)
           (refine br_s (fun hb => ?_) (fun hb => ?_) <;> (try simp only [beq_iff_eq, bne_iff_ne, ne_eq, decide_eq_true_eq, decide_eq_false_iff_not, Int.not_lt, Int.not_le, Bool.false_eq_true, if_false, if_true, beq_eq_false_iff_ne, bne_eq_false_iff_eq, Bool.not_eq_true', Bool.not_eq_false', Int.ofNat_lt, Int.ofNat_le, Int.ofNat_inj, List.length_map, List.length_nil, List.length_cons] at hb) <;> conv => whnf)
           iterate 2 (refine rq_s (by (rfl)) ?_; conv => whnf)
           (refine rows_s (by (rfl)) ?_; conv => whnf)
           rotate_left
           (refine rq_s (by ((simp only [Bool.and_eq_true, decide_eq_true_eq, List.length_map]; omega))) ?_; conv => whnf)
           (refine rq_s (by ((refine and_s rfl ?_; simp only [decide_eq_true_eq, List.length_map]; omega))) ?_; conv => whnf)
           iterate 3 (refine rq_s (by (rfl)) ?_; conv => whnf)
           (refine rows_s (by (exact sub_map _ _ _ _)) ?_; conv => whnf)
           rotate_left
           iterate 6 (refine br_f rfl ?_; conv => whnf)
           iterate 2 (refine br_t rfl ?_; conv => whnf)
           iterate 2 (refine rq_s (by (rfl)) ?_; conv => whnf)
           (refine rows_s (by (rfl)) ?_; conv => whnf)
           rotate_left)
       | ( iterate 4 (refine br_f rfl ?_; conv => whnf)
           (refine br_t rfl ?_; conv => whnf)
           (refine br_s (fun hb => ?_) (fun hb => ?_) <;> (try simp only [beq_iff_eq, bne_iff_ne, ne_eq, decide_eq_true_eq, decide_eq_false_iff_not, Int.not_lt, Int.not_le, Bool.false_eq_true, if_false, if_true, beq_eq_false_iff_ne, bne_eq_false_iff_eq, Bool.not_eq_true', Bool.not_eq_false', Int.ofNat_lt, Int.ofNat_le, Int.ofNat_inj, List.length_map, List.length_nil, List.length_cons] at hb) <;> conv => whnf)
           iterate 6 (refine br_t rfl ?_; conv => whnf)
           (refine br_s (fun hb => ?_) (fun hb => ?_) <;> (try simp only [beq_iff_eq, bne_iff_ne, ne_eq, decide_eq_true_eq, decide_eq_false_iff_not, Int.not_lt, Int.not_le, Bool.false_eq_true, if_false, if_true, beq_eq_false_iff_ne, bne_eq_false_iff_eq, Bool.not_eq_true', Bool.not_eq_false', Int.ofNat_lt, Int.ofNat_le, Int.ofNat_inj, List.length_map, List.length_nil, List.length_cons] at hb) <;> conv => whnf)
           iterate 2 (refine rq_s (by (rfl)) ?_; conv => whnf)
           (refine rows_s (by (rfl)) ?_; conv => whnf)
           rotate_left
           (refine handp_s 154 [none, none] ?_; conv => whnf)
           iterate 3 (refine rq_s (by (rfl)) ?_; conv => whnf)
           (focus (apply callpe_s (f := 154); (· repeat' (first | (refine sub_all ?_; simp [List.length_map, mkS_len]; done) | exact sub_map _ _ _ _ | apply cons_eq | apply obj_eq | apply agg_eq | apply own_eq | apply ro_eq | apply rp_eq | apply fnc_eq | rfl)); refine callp_s (f := 154) rfl (c154 _ _ (by first | omega | (dsimp only; omega) | (simp; omega)) (by first | omega | (dsimp only; omega) | (simp; omega))) ?_; conv => whnf))
           (refine fac_s (fun hf => ?_); conv => whnf)
           (refine rq_s (by ((simp only [decide_eq_true_eq, List.length_map, mkS_len]; done))) ?_; conv => whnf)
           iterate 2 (refine rq_s (by (rfl)) ?_; conv => whnf)
           (refine rows_s (by ((refine sub_all ?_; simp [List.length_map, mkS_len]; done))) ?_; conv => whnf)
           rotate_left
           iterate 6 (refine br_f rfl ?_; conv => whnf)
           (refine handp_s 154 [none, none] ?_; conv => whnf)
           iterate 3 (refine rq_s (by (rfl)) ?_; conv => whnf)
           (focus (apply callpe_s (f := 154); (· repeat' (first | (refine sub_all ?_; simp [List.length_map, mkS_len]; done) | exact sub_map _ _ _ _ | apply cons_eq | apply obj_eq | apply agg_eq | apply own_eq | apply ro_eq | apply rp_eq | apply fnc_eq | rfl)); refine callp_s (f := 154) rfl (c154 _ _ (by first | omega | (dsimp only; omega) | (simp; omega)) (by first | omega | (dsimp only; omega) | (simp; omega))) ?_; conv => whnf))
           (refine fac_s (fun hf => ?_); conv => whnf)
           (refine rq_s (by ((simp only [decide_eq_true_eq, List.length_map, mkS_len]; done))) ?_; conv => whnf)
           iterate 2 (refine rq_s (by (rfl)) ?_; conv => whnf)
           (refine rows_s (by ((refine sub_all ?_; simp [List.length_map, mkS_len]; done))) ?_; conv => whnf)
           rotate_left
           iterate 4 (refine br_f rfl ?_; conv => whnf)
           iterate 9 (refine br_t rfl ?_; conv => whnf)
           iterate 2 (refine rq_s (by (rfl)) ?_; conv => whnf)
           (refine rows_s (by (rfl)) ?_; conv => whnf)
           rotate_left)
       | ( iterate 7 (refine br_f rfl ?_; conv => whnf)
           (refine br_t rfl ?_; conv => whnf)
           (refine br_s (fun hb => ?_) (fun hb => ?_) <;> (try simp only [beq_iff_eq, bne_iff_ne, ne_eq, decide_eq_true_eq, decide_eq_false_iff_not, Int.not_lt, Int.not_le, Bool.false_eq_true, if_false, if_true, beq_eq_false_iff_ne, bne_eq_false_iff_eq, Bool.not_eq_true', Bool.not_eq_false', Int.ofNat_lt, Int.ofNat_le, Int.ofNat_inj, List.length_map, List.length_nil, List.length_cons] at hb) <;> conv => whnf)
           iterate 2 (refine rq_s (by (rfl)) ?_; conv => whnf)
           (refine rows_s (by (rfl)) ?_; conv => whnf)
           rotate_left
           (refine rq_s (by ((simp only [Bool.and_eq_true, decide_eq_true_eq, List.length_map]; omega))) ?_; conv => whnf)
           (refine rq_s (by ((refine and_s rfl ?_; simp only [decide_eq_true_eq, List.length_map]; omega))) ?_; conv => whnf)
           iterate 3 (refine rq_s (by (rfl)) ?_; conv => whnf)
           (refine rows_s (by (exact sub_map _ _ _ _)) ?_; conv => whnf)
           rotate_left
           iterate 7 (refine br_f rfl ?_; conv => whnf)
           iterate 2 (refine br_t rfl ?_; conv => whnf)
           iterate 2 (refine rq_s (by (rfl)) ?_; conv => whnf)
           (refine rows_s (by (rfl)) ?_; conv => whnf)
           rotate_left)
       | ( iterate 2 (refine br_f rfl ?_; conv => whnf)
           (refine br_t rfl ?_; conv => whnf)
           iterate 2 (refine ChkS.mk (by kernel_rfl) ?_; conv => whnf)
           (refine rq_s (by (rfl)) ?_; conv => whnf)
           (refine rows_s (by (rfl)) ?_; conv => whnf)
           (refine call_s (c114 _ (by first | omega | (dsimp only; omega) | (simp; omega))) ?_; conv => whnf)
           iterate 2 (refine ChkS.mk (by kernel_rfl) ?_; conv => whnf)
           (refine rq_s (by (rfl)) ?_; conv => whnf)
           (refine ChkS.mk (by kernel_rfl) ?_; conv => whnf)
           (refine rq_s (by ((simp only [decide_eq_true_eq, List.length_map, mkS_len]; done))) ?_; conv => whnf)
           iterate 2 (refine rq_s (by (rfl)) ?_; conv => whnf)
           (refine rq_s (by ((simp only [decide_eq_true_eq, List.length_map, mkS_len]; done))) ?_; conv => whnf)
           (refine rq_s (by (((simp [maxBytes, subA]; omega)))) ?_; conv => whnf)
           (refine app0_s ?_; conv => whnf)
           iterate 6 (refine ChkS.mk (by kernel_rfl) ?_; conv => whnf)
           (refine rq_s (by ((simp only [decide_eq_true_eq, List.length_map, mkS_len]; done))) ?_; conv => whnf)
           iterate 2 (refine rq_s (by (rfl)) ?_; conv => whnf)
           (refine rows_s (by (rfl)) ?_; conv => whnf)
           rotate_left
           iterate 2 (refine br_f rfl ?_; conv => whnf)
           (refine br_t rfl ?_; conv => whnf)
           iterate 2 (refine ChkS.mk (by kernel_rfl) ?_; conv => whnf)
           (refine rq_s (by (rfl)) ?_; conv => whnf)
           (refine rows_s (by (rfl)) ?_; conv => whnf)
           (refine call_s (c114 _ (by first | omega | (dsimp only; omega) | (simp; omega))) ?_; conv => whnf)
           iterate 2 (refine ChkS.mk (by kernel_rfl) ?_; conv => whnf)
           (refine rq_s (by (rfl)) ?_; conv => whnf)
           (refine ChkS.mk (by kernel_rfl) ?_; conv => whnf)
           (refine rq_s (by ((simp only [decide_eq_true_eq, List.length_map, mkS_len]; done))) ?_; conv => whnf)
           iterate 2 (refine rq_s (by (rfl)) ?_; conv => whnf)
           (refine rq_s (by ((simp only [decide_eq_true_eq, List.length_map, mkS_len]; done))) ?_; conv => whnf)
           (refine rq_s (by (((simp [maxBytes, subA]; omega)))) ?_; conv => whnf)
           (refine app0_s ?_; conv => whnf)
           iterate 6 (refine ChkS.mk (by kernel_rfl) ?_; conv => whnf)
           (refine rq_s (by ((simp only [decide_eq_true_eq, List.length_map, mkS_len]; done))) ?_; conv => whnf)
           iterate 2 (refine rq_s (by (rfl)) ?_; conv => whnf)
           (refine rows_s (by (rfl)) ?_; conv => whnf)
           rotate_left)
       | ( iterate 8 (refine br_f rfl ?_; conv => whnf)
           iterate 2 (refine br_t rfl ?_; conv => whnf)
           (refine br_s (fun hb => ?_) (fun hb => ?_) <;> (try simp only [beq_iff_eq, bne_iff_ne, ne_eq, decide_eq_true_eq, decide_eq_false_iff_not, Int.not_lt, Int.not_le, Bool.false_eq_true, if_false, if_true, beq_eq_false_iff_ne, bne_eq_false_iff_eq, Bool.not_eq_true', Bool.not_eq_false', Int.ofNat_lt, Int.ofNat_le, Int.ofNat_inj, List.length_map, List.length_nil, List.length_cons] at hb) <;> conv => whnf)
           iterate 2 (refine rq_s (by (rfl)) ?_; conv => whnf)
           (refine rows_s (by (rfl)) ?_; conv => whnf)
           rotate_left
           (refine rq_s (by ((simp only [Bool.and_eq_true, decide_eq_true_eq, List.length_map]; omega))) ?_; conv => whnf)
           (refine rq_s (by ((refine and_s rfl ?_; simp only [decide_eq_true_eq, List.length_map]; omega))) ?_; conv => whnf)
           iterate 3 (refine rq_s (by (rfl)) ?_; conv => whnf)
           (refine rows_s (by (exact sub_map _ _ _ _)) ?_; conv => whnf)
           rotate_left
           iterate 8 (refine br_f rfl ?_; conv => whnf)
           iterate 3 (refine br_t rfl ?_; conv => whnf)
           iterate 2 (refine rq_s (by (rfl)) ?_; conv => whnf)
           (refine rows_s (by (rfl)) ?_; conv => whnf)
           rotate_left)
       | ( iterate 9 (refine br_f rfl ?_; conv => whnf)
           (refine br_t rfl ?_; conv => whnf)
           (refine br_s (fun hb => ?_) (fun hb => ?_) <;> (try simp only [beq_iff_eq, bne_iff_ne, ne_eq, decide_eq_true_eq, decide_eq_false_iff_not, Int.not_lt, Int.not_le, Bool.false_eq_true, if_false, if_true, beq_eq_false_iff_ne, bne_eq_false_iff_eq, Bool.not_eq_true', Bool.not_eq_false', Int.ofNat_lt, Int.ofNat_le, Int.ofNat_inj, List.length_map, List.length_nil, List.length_cons] at hb) <;> conv => whnf)
           iterate 2 (refine rq_s (by (rfl)) ?_; conv => whnf)
           (refine rows_s (by (rfl)) ?_; conv => whnf)
           rotate_left
           (refine rq_s (by ((simp only [Bool.and_eq_true, decide_eq_true_eq, List.length_map]; omega))) ?_; conv => whnf)
           (refine rq_s (by ((refine and_s rfl ?_; simp only [decide_eq_true_eq, List.length_map]; omega))) ?_; conv => whnf)
           iterate 3 (refine rq_s (by (rfl)) ?_; conv => whnf)
           (refine rows_s (by (exact sub_map _ _ _ _)) ?_; conv => whnf)
           rotate_left
           iterate 9 (refine br_f rfl ?_; conv => whnf)
           iterate 2 (refine br_t rfl ?_; conv => whnf)
           iterate 2 (refine rq_s (by (rfl)) ?_; conv => whnf)
           (refine rows_s (by (rfl)) ?_; conv => whnf)
           rotate_left)
     all_goals (first
       | (exfalso; have := w81; omega)
       | exact ⟨fit_c (op := op) (by omega) (by simp only [fb5, fb7, fb9, fb11, fb12, Bool.or_eq_true, decide_eq_true_eq]; omega) (by simp only [List.length_map]; omega)⟩
       | exact ⟨fit_f (by omega) (by have z := w41; have z2 := w81; have hz : op.length = 0 → lastF op = 0 := (fun e => by rw [List.length_eq_zero_iff.1 e]; rfl); simp only [fb4, fb8, fb5, fb7, fb9, fb11, fb12, Bool.or_eq_false_iff, decide_eq_false_iff_not]; omega)⟩
       | exact ⟨fit_t (by omega) (by have z := w41; have z2 := w81; simp only [fb4, fb8, decide_eq_true_eq]; omega)⟩
       | exact ⟨by rw [show subA _ _ _ = _ from sub3 op _]; exact fit_o (by omega) (by simp; omega)⟩))
  · rw [(ft_n hk).2.1, (ft_n hk).2.2]
    exact fit0 op k h7 h2 hk
end I2
