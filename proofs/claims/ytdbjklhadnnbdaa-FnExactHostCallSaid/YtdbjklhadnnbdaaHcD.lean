/- HostCall: the program's function, and the reference's. -/
import Derived.Test.YtdbjklhadnnbdaaHcC
set_option linter.unusedVariables false
set_option linter.unusedSimpArgs false
set_option maxRecDepth 100000
open Go Go.Abs Go.Proofs V1 H1 H2 H3
namespace H4

theorem called (h : Hst) (d : Dat) (c : Int) (hh : hostOK h = true) (hd : dataOK d = true) (hc : inR c 0 3 = true) : Con Try.prog 51 [hstV h, datV d, .int .i64 c] (undefs [hstV h, datV d, .int .i64 c]) (.tup [hstO (callF h d c.toNat).1, datO (callF h d c.toNat).2.1, .int .i64 (callF h d c.toNat).2.2]) := by
  have e := inR_t hc
  have hh := (hostOK_iff h).1 hh
  have hd := (dataOK_iff d).1 hd
  have : c = 0 ∨ c = 1 ∨ c = 2 ∨ c = 3 := by omega
  rcases this with rfl | rfl | rfl | rfl
  · exact called0 h d hh hd
  · exact called1 h d hh hd
  · exact called2 h d hh hd
  · exact called3 h d hh hd
def hcV (r : Hst × Dat × Int × Int) : AV := .tup [hstO r.1, datO r.2.1, .int .i64 r.2.2.1, .int .i64 r.2.2.2]
theorem zero_sh (n : Int) : Sh (.tup [.agg [.emp, .emp, .emp, .int .i64 0, .emp], .agg [.emp, .emp, .emp, .int .i64 0, .int .i64 0, .str []], .int .i64 0, .int .i64 n]) (hcV (hst0, dat0, 0, n)) :=
  Sh.tup ⟨Sh.agg ⟨Sh.emp_own _ _, Sh.emp_own _ _, Sh.emp_own _ _, Sh.refl _, Sh.emp_own _ _, trivial⟩, Sh.agg ⟨Sh.emp_own _ _, Sh.emp_own _ _, Sh.emp_own _ _, Sh.refl _, Sh.refl _, Sh.refl _, trivial⟩, Sh.refl _, Sh.refl _, trivial⟩
section
variable {h : Hst} {d : Dat} {c : Int}
theorem hc_bad (a : hostOK h = false) : hostCallF h d c = (hst0, dat0, 0, 1) := by rw [hostCallF, if_pos (.inl a)]
theorem hc_bad2 (a : dataOK d = false) : hostCallF h d c = (hst0, dat0, 0, 1) := by rw [hostCallF, if_pos (.inr a)]
theorem hc_kind (a : hostOK h = true) (b : dataOK d = true) (e : inR c 0 3 = false) : hostCallF h d c = (hst0, dat0, 0, 9) := by rw [hostCallF, if_neg (by simp [a, b]), if_pos e]
theorem hc_go (a : hostOK h = true) (b : dataOK d = true) (e : inR c 0 3 = true) : hostCallF h d c = ((callF h d c.toNat).1, (callF h d c.toNat).2.1, (callF h d c.toNat).2.2, 0) := by rw [hostCallF, if_neg (by simp [a, b]), if_neg (by simp [e])]
end
theorem c9 (h : Hst) (d : Dat) (c : Int) : Con Try.prog 9 [hstV h, datV d, .int .i64 c] (undefs [hstV h, datV d, .int .i64 c]) (hcV (hostCallF h d c)) := by
  refine Con.ev 41 T_ok mix Try.func9 rfl rfl rfl rfl [.cell 6 27, .cell 7 30, .tmp 8, .tmp 9] rfl ?_
  conv => whnf
  iterate 7 (refine rq_s (by (rfl)) ?_; conv => whnf)
  (refine lend_s ?_; conv => whnf)
  iterate 4 (refine rows_s (by (rfl)) ?_; conv => whnf)
  (refine call_s (c48 ..) ?_; conv => whnf)
  (refine br_s (fun hb => ?_) (fun hb => ?_) <;> (try simp only [beq_iff_eq, bne_iff_ne, ne_eq, decide_eq_true_eq, decide_eq_false_iff_not, Int.not_lt, Int.not_le, Bool.false_eq_true, if_false, if_true, beq_eq_false_iff_ne, bne_eq_false_iff_eq, Bool.not_eq_true', Bool.not_eq_false', Int.ofNat_lt, Int.ofNat_le, Int.ofNat_inj, List.length_map, List.length_nil, List.length_cons] at hb) <;> conv => whnf)
  iterate 4 (refine br_t rfl ?_; conv => whnf)
  iterate 17 (refine rq_s (by (rfl)) ?_; conv => whnf)
  rotate_left
  (refine br_f rfl ?_; conv => whnf)
  iterate 6 (refine rq_s (by (rfl)) ?_; conv => whnf)
  (refine lend_s ?_; conv => whnf)
  iterate 3 (refine rows_s (by (rfl)) ?_; conv => whnf)
  (refine call_s (c49 ..) ?_; conv => whnf)
  (refine br_f rfl ?_; conv => whnf)
  (refine br_s (fun hb => ?_) (fun hb => ?_) <;> (try simp only [beq_iff_eq, bne_iff_ne, ne_eq, decide_eq_true_eq, decide_eq_false_iff_not, Int.not_lt, Int.not_le, Bool.false_eq_true, if_false, if_true, beq_eq_false_iff_ne, bne_eq_false_iff_eq, Bool.not_eq_true', Bool.not_eq_false', Int.ofNat_lt, Int.ofNat_le, Int.ofNat_inj, List.length_map, List.length_nil, List.length_cons] at hb) <;> conv => whnf)
  iterate 17 (refine rq_s (by (rfl)) ?_; conv => whnf)
  rotate_left
  (refine rq_s (by (rfl)) ?_; conv => whnf)
  (refine lend_s ?_; conv => whnf)
  (refine call_s (c50 ..) ?_; conv => whnf)
  (refine br_s (fun hb => ?_) (fun hb => ?_) <;> (try simp only [beq_iff_eq, bne_iff_ne, ne_eq, decide_eq_true_eq, decide_eq_false_iff_not, Int.not_lt, Int.not_le, Bool.false_eq_true, if_false, if_true, beq_eq_false_iff_ne, bne_eq_false_iff_eq, Bool.not_eq_true', Bool.not_eq_false', Int.ofNat_lt, Int.ofNat_le, Int.ofNat_inj, List.length_map, List.length_nil, List.length_cons] at hb) <;> conv => whnf)
  iterate 17 (refine rq_s (by (rfl)) ?_; conv => whnf)
  rotate_left
  iterate 12 (refine rq_s (by (rfl)) ?_; conv => whnf)
  (refine lend_s ?_; conv => whnf)
  iterate 7 (refine rows_s (by (rfl)) ?_; conv => whnf)
  (refine call_s (called _ _ _ (by assumption) (by assumption) (by assumption)) ?_; conv => whnf)
  (refine fac_s (fun hf => ?_); conv => whnf)
  iterate 8 (refine ChkS.mk (by kernel_rfl) ?_; conv => whnf)
  iterate 2 (refine rq_s (by (rfl)) ?_; conv => whnf)
  (refine rq_s (by ((simp only [decide_eq_true_eq, List.length_map, mkS_len, setRow_len]; done))) ?_; conv => whnf)
  (refine rq_s (by (rfl)) ?_; conv => whnf)
  (refine rq_s (by ((simp only [decide_eq_true_eq, List.length_map, mkS_len, setRow_len]; done))) ?_; conv => whnf)
  (refine rq_s (by (rfl)) ?_; conv => whnf)
  (refine rq_s (by ((simp only [decide_eq_true_eq, List.length_map, mkS_len, setRow_len]; done))) ?_; conv => whnf)
  iterate 2 (refine rq_s (by (rfl)) ?_; conv => whnf)
  (refine rq_s (by ((simp only [decide_eq_true_eq, List.length_map, mkS_len, setRow_len]; done))) ?_; conv => whnf)
  (refine rq_s (by (rfl)) ?_; conv => whnf)
  (refine rq_s (by ((simp only [decide_eq_true_eq, List.length_map, mkS_len, setRow_len]; done))) ?_; conv => whnf)
  (refine rq_s (by (rfl)) ?_; conv => whnf)
  (refine rq_s (by ((simp only [decide_eq_true_eq, List.length_map, mkS_len, setRow_len]; done))) ?_; conv => whnf)
  (refine rq_s (by (rfl)) ?_; conv => whnf)
  (refine rq_s (by ((simp only [decide_eq_true_eq, List.length_map, mkS_len, setRow_len]; done))) ?_; conv => whnf)
  iterate 6 (refine rq_s (by (rfl)) ?_; conv => whnf)
  iterate 7 (refine rows_s (by ((refine sub_all ?_; simp [List.length_map, mkS_len, setRow_len]; done))) ?_; conv => whnf)
  rotate_left
  all_goals first
    | exact ⟨by rw [hc_bad (by assumption)]; exact zero_sh _⟩
    | exact ⟨by rw [hc_bad2 (by assumption)]; exact zero_sh _⟩
    | exact ⟨by rw [hc_kind (by assumption) (by assumption) (by assumption)]; exact zero_sh _⟩
    | exact ⟨by rw [hc_go (by assumption) (by assumption) (by assumption)]; exact Sh.refl _⟩
