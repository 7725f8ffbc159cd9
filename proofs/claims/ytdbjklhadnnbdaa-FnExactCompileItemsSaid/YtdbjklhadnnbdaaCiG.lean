/- CompileItems: the program's function; the reference's parts: contracts. -/
import Derived.Test.YtdbjklhadnnbdaaCiF
import Derived.Test.YtdbjklhadnnbdaaAbsh
set_option linter.unusedVariables false
set_option linter.unusedSimpArgs false
set_option maxRecDepth 100000
open Go Go.Abs Go.Proofs V1 H1 I1 I2 I3 I4 I5 I6
namespace I7

theorem open_of {xs : List Itm} (h : (chkF xs).2 = 0) : openF xs = ([], -1) := by
  have h1 := openGo_lt xs 0 [] (by omega)
  unfold chkF at h
  split at h
  · simp at h
  · rename_i h2
    unfold checkF at h2
    have h3 : (openF xs).2 = -1 := by
      rcases h1 with h1 | h1
      · exact h1
      · exfalso
        apply h2
        rw [if_neg (by unfold openF; omega)]
        exact h1.1
    have h4 : (openF xs).1 = [] := by
      cases h5 : (openF xs).1 with
      | nil => rfl
      | cons a l =>
        exfalso
        apply h2
        rw [if_pos ⟨by omega, by rw [h5]; simp⟩]
        omega
    exact Prod.ext h4 h3
def ciF (xs : List Itm) (a s : Int) : List Int × Int :=
  if askF xs ≠ 0 then ([], askF xs) else if (chkF xs).2 ≠ 0 then ([], (chkF xs).2) else if inR a 0 400 = false ∨ inR s 1 103 = false then ([], 4) else if a + sizeF xs > 400 then ([], 7) else (compF xs a s, 0)
def ciV (r : List Int × Int) : AV := .tup [ownI r.1, .int .i64 r.2]
section
variable {xs : List Itm} {a s : Int}
theorem ci_ask (h : askF xs ≠ 0) : ciF xs a s = ([], askF xs) := by rw [ciF, if_pos h]
theorem ci_chk (h : askF xs = 0) (h2 : (chkF xs).2 ≠ 0) : ciF xs a s = ([], (chkF xs).2) := by rw [ciF, if_neg (by omega), if_pos h2]
theorem ci_r (h : askF xs = 0) (h2 : (chkF xs).2 = 0) (h3 : inR a 0 400 = false ∨ inR s 1 103 = false) : ciF xs a s = ([], 4) := by rw [ciF, if_neg (by omega), if_neg (by omega), if_pos h3]
theorem ci_f (h : askF xs = 0) (h2 : (chkF xs).2 = 0) (h3 : inR a 0 400 = true) (h4 : inR s 1 103 = true) (h5 : a + sizeF xs > 400) : ciF xs a s = ([], 7) := by rw [ciF, if_neg (by omega), if_neg (by omega), if_neg (by simp [h3, h4]), if_pos h5]
theorem ci_0 (h : askF xs = 0) (h2 : (chkF xs).2 = 0) (h3 : inR a 0 400 = true) (h4 : inR s 1 103 = true) (h5 : ¬ a + sizeF xs > 400) : ciF xs a s = (compF xs a s, 0) := by rw [ciF, if_neg (by omega), if_neg (by omega), if_neg (by simp [h3, h4]), if_neg h5]
end
theorem ci_sh (n : Int) : Sh (.tup [.emp, .int .i64 n]) (ciV ([], n)) := Sh.tup ⟨Sh.emp_own _ _, Sh.refl _, trivial⟩

theorem c19 (xs : List Itm) (a s : Int) : Con Try.prog 19 [roT xs, .int .i64 a, .int .i64 s] (undefs [roT xs, .int .i64 a, .int .i64 s]) (ciV (ciF xs a s)) := by
  have hc := c36 xs
  generalize hq : (if askF xs = 0 then (chkF xs).1 else 0) = q at hc
  by_cases h0 : askF xs = 0
  · rw [if_pos h0] at hc
    have hl := askF_0 h0
    have hz := szF_le xs
    have hw : inR a 0 400 = true → IntKind.i64.wrap (a + sizeF xs) = a + sizeF xs := fun e => by
      have := inR_t e
      have := hl.1
      exact wrap64 (by unfold sizeF; omega) (by unfold sizeF; omega)
    refine Con.ev 37 T_ok mix Try.func19 rfl rfl rfl rfl [.tmp 6, .tmp 7] rfl ?_
    conv => whnf
    (refine rq_s (by (rfl)) ?_; conv => whnf)
    (refine lend_s ?_; conv => whnf)
    (refine rows_s (by (rfl)) ?_; conv => whnf)
    (refine call_s (hc ..) ?_; conv => whnf)
    iterate 2 (refine fac_s (fun hf => ?_); conv => whnf)
    (refine br_s (fun hb => ?_) (fun hb => ?_) <;> (try simp only [beq_iff_eq, bne_iff_ne, ne_eq, decide_eq_true_eq, decide_eq_false_iff_not, Int.not_lt, Int.not_le, Bool.false_eq_true, if_false, if_true, beq_eq_false_iff_ne, bne_eq_false_iff_eq, Bool.not_eq_true', Bool.not_eq_false', Int.ofNat_lt, Int.ofNat_le, Int.ofNat_inj, List.length_map, List.length_nil, List.length_cons] at hb) <;> conv => whnf)
    iterate 2 (refine rq_s (by (rfl)) ?_; conv => whnf)
    rotate_left
    iterate 3 (refine rq_s (by (rfl)) ?_; conv => whnf)
    (refine lend_s ?_; conv => whnf)
    (refine call_s (c68 ..) ?_; conv => whnf)
    (refine br_s (fun hb => ?_) (fun hb => ?_) <;> (try simp only [beq_iff_eq, bne_iff_ne, ne_eq, decide_eq_true_eq, decide_eq_false_iff_not, Int.not_lt, Int.not_le, Bool.false_eq_true, if_false, if_true, beq_eq_false_iff_ne, bne_eq_false_iff_eq, Bool.not_eq_true', Bool.not_eq_false', Int.ofNat_lt, Int.ofNat_le, Int.ofNat_inj, List.length_map, List.length_nil, List.length_cons] at hb) <;> conv => whnf)
    iterate 4 (refine br_t rfl ?_; conv => whnf)
    iterate 2 (refine rq_s (by (rfl)) ?_; conv => whnf)
    rotate_left
    (refine br_f rfl ?_; conv => whnf)
    iterate 3 (refine rq_s (by (rfl)) ?_; conv => whnf)
    (refine lend_s ?_; conv => whnf)
    (refine call_s (c68 ..) ?_; conv => whnf)
    (refine br_f rfl ?_; conv => whnf)
    (refine br_s (fun hb => ?_) (fun hb => ?_) <;> (try simp only [beq_iff_eq, bne_iff_ne, ne_eq, decide_eq_true_eq, decide_eq_false_iff_not, Int.not_lt, Int.not_le, Bool.false_eq_true, if_false, if_true, beq_eq_false_iff_ne, bne_eq_false_iff_eq, Bool.not_eq_true', Bool.not_eq_false', Int.ofNat_lt, Int.ofNat_le, Int.ofNat_inj, List.length_map, List.length_nil, List.length_cons] at hb) <;> conv => whnf)
    iterate 2 (refine rq_s (by (rfl)) ?_; conv => whnf)
    rotate_left
    (refine rq_s (by (rfl)) ?_; conv => whnf)
    (refine lend_s ?_; conv => whnf)
    (refine rows_s (by (rfl)) ?_; conv => whnf)
    (refine call_s (c69 _ (by first | omega | (dsimp only; omega) | (simp; omega))) ?_; conv => whnf)
    (refine fac_s (fun hf => ?_); conv => whnf)
    (refine br_s (fun hb => ?_) (fun hb => ?_) <;> (try simp only [beq_iff_eq, bne_iff_ne, ne_eq, decide_eq_true_eq, decide_eq_false_iff_not, Int.not_lt, Int.not_le, Bool.false_eq_true, if_false, if_true, beq_eq_false_iff_ne, bne_eq_false_iff_eq, Bool.not_eq_true', Bool.not_eq_false', Int.ofNat_lt, Int.ofNat_le, Int.ofNat_inj, List.length_map, List.length_nil, List.length_cons] at hb) <;> conv => whnf)
    iterate 2 (refine rq_s (by (rfl)) ?_; conv => whnf)
    rotate_left
    iterate 3 (refine rq_s (by (rfl)) ?_; conv => whnf)
    (refine lend_s ?_; conv => whnf)
    (refine rows_s (by (rfl)) ?_; conv => whnf)
    (refine call_s (c70 _ _ _ hl.1 hl.2 (open_of (by assumption)) (inR_t (by assumption)) (inR_t (by assumption))) ?_; conv => whnf)
    (refine fac_s (fun hf => ?_); conv => whnf)
    (refine rq_s (by ((simp only [decide_eq_true_eq, List.length_map, mkS_len, setRow_len]; done))) ?_; conv => whnf)
    iterate 2 (refine rq_s (by (rfl)) ?_; conv => whnf)
    (refine rows_s (by ((refine sub_all ?_; simp [List.length_map, mkS_len, setRow_len]; done))) ?_; conv => whnf)
    rotate_left
    all_goals first
      | exact ⟨by rw [ci_chk h0 (by assumption)]; exact ci_sh _⟩
      | exact ⟨by rw [ci_r h0 (by assumption) (.inl (by assumption))]; exact ci_sh _⟩
      | exact ⟨by rw [ci_r h0 (by assumption) (.inr (by assumption))]; exact ci_sh _⟩
      | exact ⟨by rw [ci_f h0 (by assumption) (by assumption) (by assumption) (by rw [hw (by assumption)] at hb; exact hb)]; exact ci_sh _⟩
      | exact ⟨by rw [ci_0 h0 (by assumption) (by assumption) (by assumption) (by rw [hw (by assumption)] at hb; omega)]; exact Sh.refl _⟩
  · rw [if_neg h0] at hc
    refine Con.ev 37 T_ok mix Try.func19 rfl rfl rfl rfl [.tmp 6, .tmp 7] rfl ?_
    conv => whnf
    (refine rq_s (by (rfl)) ?_; conv => whnf)
    (refine lend_s ?_; conv => whnf)
    (refine rows_s (by (rfl)) ?_; conv => whnf)
    (refine call_s (hc ..) ?_; conv => whnf)
    iterate 2 (refine fac_s (fun hf => ?_); conv => whnf)
    (refine br_s (fun hb => ?_) (fun hb => ?_) <;> (try simp only [beq_iff_eq, bne_iff_ne, ne_eq, decide_eq_true_eq, decide_eq_false_iff_not, Int.not_lt, Int.not_le, Bool.false_eq_true, if_false, if_true, beq_eq_false_iff_ne, bne_eq_false_iff_eq, Bool.not_eq_true', Bool.not_eq_false', Int.ofNat_lt, Int.ofNat_le, Int.ofNat_inj, List.length_map, List.length_nil, List.length_cons] at hb) <;> conv => whnf)
    iterate 2 (refine rq_s (by (rfl)) ?_; conv => whnf)
    rotate_left
    iterate 3 (refine rq_s (by (rfl)) ?_; conv => whnf)
    (refine lend_s ?_; conv => whnf)
    rotate_left
    · exact ⟨by rw [ci_ask h0]; exact ci_sh _⟩
    · exact absurd hb h0
