import Derived.Test.YtdbjklhadnnbdaaGtA
/- Calls of the host: the program's and the reference's functions, contracts. -/
set_option linter.unusedVariables false
set_option linter.unusedSimpArgs false
set_option maxRecDepth 100000
open Go Go.Abs Go.Proofs V1 H1 H2
namespace H3


theorem small_host {h : Hst} (e : HostOk h) : smallHost h := by
  obtain ⟨h1, h2, h3, h4, h5, h6, h7, h8⟩ := e
  exact ⟨by omega, by omega, by omega, by omega⟩
theorem small_data {d : Dat} (e : DataOk d) : smallData d := by
  obtain ⟨h1, h2, h3, h4, h5, h6, h7, h8, h9⟩ := e
  exact ⟨by omega, by omega, by omega, by omega⟩
theorem callF_t {h h' : Hst} {d d' : Dat} {c : Nat} {th : Int} (e : callI h d c = (h', d', th)) (z : th = 0) : callF h d c = (h', d', 0) := by rw [callF, e, if_pos z, z]
theorem callF_f {h h' : Hst} {d d' : Dat} {c : Nat} {th : Int} (e : callI h d c = (h', d', th)) (z : ¬ th = 0) : callF h d c = (h, d, th) := by rw [callF, e, if_neg z]
theorem called0 (h : Hst) (d : Dat) (hh : HostOk h) (hd : DataOk d) : Con Try.prog 51 [hstV h, datV d, .int .i64 0] (undefs [hstV h, datV d, .int .i64 0]) (.tup [hstO (callF h d 0).1, datO (callF h d 0).2.1, .int .i64 (callF h d 0).2.2]) := by
  have s1 := small_host hh
  have s2 := small_data hd
  have k := call0 h d hh.gr hh.st hh.q hh.ds hd.st
  generalize hr : callI h d 0 = r at k
  obtain ⟨h', d', th⟩ := r
  dsimp only at k
  refine Con.ev 27 T_ok mix Try.func51 rfl rfl rfl rfl [.cell 6 27, .cell 7 30, .tmp 8] rfl ?_
  conv => whnf
  iterate 2 (refine rq_s (by (rfl)) ?_; conv => whnf)
  iterate 2 (refine ChkS.mk (by kernel_rfl) ?_; conv => whnf)
  iterate 5 (refine rq_s (by (rfl)) ?_; conv => whnf)
  iterate 4 (refine rows_s (by (rfl)) ?_; conv => whnf)
  (refine call_s (c60 _ s1) ?_; conv => whnf)
  iterate 2 (refine ChkS.mk (by kernel_rfl) ?_; conv => whnf)
  iterate 6 (refine rq_s (by (rfl)) ?_; conv => whnf)
  iterate 3 (refine rows_s (by (rfl)) ?_; conv => whnf)
  (refine call_s (c102 _ s2) ?_; conv => whnf)
  iterate 5 (refine ChkS.mk (by kernel_rfl) ?_; conv => whnf)
  iterate 11 (refine fac_s (fun hf => ?_); conv => whnf)
  (refine handp_s 103 [some 5, some 6, none] ?_; conv => whnf)
  iterate 3 (refine rq_s (by (rfl)) ?_; conv => whnf)
  (focus (apply callpe_s (f := 103); (· repeat' (first | (refine sub_all ?_; simp [List.length_map, mkS_len, setRow_len]; done) | exact sub_map _ _ _ _ | apply cons_eq | apply obj_eq | apply agg_eq | apply own_eq | apply ro_eq | apply rp_eq | apply fnc_eq | rfl)); refine callp_s (f := 103) rfl ((k : Con _ _ _ _ _)) ?_; conv => whnf))
  (refine fac_s (fun hf => ?_); conv => whnf)
  (refine br_s (fun hb => ?_) (fun hb => ?_) <;> (try simp only [beq_iff_eq, bne_iff_ne, ne_eq, decide_eq_true_eq, decide_eq_false_iff_not, Int.not_lt, Int.not_le, Bool.false_eq_true, if_false, if_true, beq_eq_false_iff_ne, bne_eq_false_iff_eq, Bool.not_eq_true', Bool.not_eq_false', Int.ofNat_lt, Int.ofNat_le, Int.ofNat_inj, List.length_map, List.length_nil, List.length_cons] at hb) <;> conv => whnf)
  iterate 2 (refine ChkS.mk (by kernel_rfl) ?_; conv => whnf)
  iterate 5 (refine rq_s (by (rfl)) ?_; conv => whnf)
  iterate 4 (refine rows_s (by (rfl)) ?_; conv => whnf)
  (refine call_s (c60 _ s1) ?_; conv => whnf)
  iterate 2 (refine ChkS.mk (by kernel_rfl) ?_; conv => whnf)
  iterate 6 (refine rq_s (by (rfl)) ?_; conv => whnf)
  iterate 3 (refine rows_s (by (rfl)) ?_; conv => whnf)
  (refine call_s (c102 _ s2) ?_; conv => whnf)
  iterate 5 (refine ChkS.mk (by kernel_rfl) ?_; conv => whnf)
  iterate 11 (refine fac_s (fun hf => ?_); conv => whnf)
  iterate 2 (refine rq_s (by (rfl)) ?_; conv => whnf)
  (refine rq_s (by ((simp only [decide_eq_true_eq, List.length_map, mkS_len, setRow_len]; done))) ?_; conv => whnf)
  (refine rq_s (by (rfl)) ?_; conv => whnf)
  (refine rq_s (by ((simp only [decide_eq_true_eq, List.length_map, mkS_len, setRow_len]; done))) ?_; conv => whnf)
  (refine rq_s (by (rfl)) ?_; conv => whnf)
  (refine rq_s (by ((simp only [decide_eq_true_eq, List.length_map, mkS_len, setRow_len]; done))) ?_; conv => whnf)
  iterate 2 (refine rq_s (by (rfl)) ?_; conv => whnf)
  (refine rq_s (by ((simp only [decide_eq_true_eq, List.length_map, mkS_len, setRow_len]; done))) ?_; conv => whnf)
  (refine rq_s (by (rfl)) ?_; conv => whnf)
  (refine rq_s (by ((simp only [decide_eq_true_eq, List.length_map, mkS_len, setRow_len]; done))) ?_; conv => whnf)
  (refine rq_s (by (rfl)) ?_; conv => whnf)
  (refine rq_s (by ((simp only [decide_eq_true_eq, List.length_map, mkS_len, setRow_len]; done))) ?_; conv => whnf)
  (refine rq_s (by (rfl)) ?_; conv => whnf)
  (refine rq_s (by ((simp only [decide_eq_true_eq, List.length_map, mkS_len, setRow_len]; done))) ?_; conv => whnf)
  iterate 5 (refine rq_s (by (rfl)) ?_; conv => whnf)
  iterate 7 (refine rows_s (by ((refine sub_all ?_; simp [List.length_map, mkS_len, setRow_len]; done))) ?_; conv => whnf)
  (focus (refine sh_s ?_; ((rw [callF_f hr (by assumption)]; first | done | rfl | (simp [hstO, datO, hstC, datC, ownI, ownD, ownB, intR, dealR, subA]; done)))))
  iterate 6 (refine ChkS.mk (by kernel_rfl) ?_; conv => whnf)
  iterate 2 (refine rq_s (by (rfl)) ?_; conv => whnf)
  (refine rq_s (by ((simp only [decide_eq_true_eq, List.length_map, mkS_len, setRow_len]; done))) ?_; conv => whnf)
  (refine rq_s (by (rfl)) ?_; conv => whnf)
  (refine rq_s (by ((simp only [decide_eq_true_eq, List.length_map, mkS_len, setRow_len]; done))) ?_; conv => whnf)
  (refine rq_s (by (rfl)) ?_; conv => whnf)
  (refine rq_s (by ((simp only [decide_eq_true_eq, List.length_map, mkS_len, setRow_len]; done))) ?_; conv => whnf)
  iterate 2 (refine rq_s (by (rfl)) ?_; conv => whnf)
  (refine rq_s (by ((simp only [decide_eq_true_eq, List.length_map, mkS_len, setRow_len]; done))) ?_; conv => whnf)
  (refine rq_s (by (rfl)) ?_; conv => whnf)
  (refine rq_s (by ((simp only [decide_eq_true_eq, List.length_map, mkS_len, setRow_len]; done))) ?_; conv => whnf)
  (refine rq_s (by (rfl)) ?_; conv => whnf)
  (refine rq_s (by ((simp only [decide_eq_true_eq, List.length_map, mkS_len, setRow_len]; done))) ?_; conv => whnf)
  (refine rq_s (by (rfl)) ?_; conv => whnf)
  (refine rq_s (by ((simp only [decide_eq_true_eq, List.length_map, mkS_len, setRow_len]; done))) ?_; conv => whnf)
  iterate 5 (refine rq_s (by (rfl)) ?_; conv => whnf)
  iterate 7 (refine rows_s (by ((refine sub_all ?_; simp [List.length_map, mkS_len, setRow_len]; done))) ?_; conv => whnf)
  (focus (refine sh_s ?_; ((rw [callF_t hr (by assumption)]; first | done | rfl | (simp [hstO, datO, hstC, datC, ownI, ownD, ownB, intR, dealR, subA]; done)))))
theorem called1 (h : Hst) (d : Dat) (hh : HostOk h) (hd : DataOk d) : Con Try.prog 51 [hstV h, datV d, .int .i64 1] (undefs [hstV h, datV d, .int .i64 1]) (.tup [hstO (callF h d 1).1, datO (callF h d 1).2.1, .int .i64 (callF h d 1).2.2]) := by
  have s1 := small_host hh
  have s2 := small_data hd
  have k := call1 h d hh.gr hh.st hh.q hh.ds hd.st
  generalize hr : callI h d 1 = r at k
  obtain ⟨h', d', th⟩ := r
  dsimp only at k
  refine Con.ev 27 T_ok mix Try.func51 rfl rfl rfl rfl [.cell 6 27, .cell 7 30, .tmp 8] rfl ?_
  conv => whnf
  iterate 2 (refine rq_s (by (rfl)) ?_; conv => whnf)
  iterate 2 (refine ChkS.mk (by kernel_rfl) ?_; conv => whnf)
  iterate 5 (refine rq_s (by (rfl)) ?_; conv => whnf)
  iterate 4 (refine rows_s (by (rfl)) ?_; conv => whnf)
  (refine call_s (c60 _ s1) ?_; conv => whnf)
  iterate 2 (refine ChkS.mk (by kernel_rfl) ?_; conv => whnf)
  iterate 6 (refine rq_s (by (rfl)) ?_; conv => whnf)
  iterate 3 (refine rows_s (by (rfl)) ?_; conv => whnf)
  (refine call_s (c102 _ s2) ?_; conv => whnf)
  iterate 5 (refine ChkS.mk (by kernel_rfl) ?_; conv => whnf)
  iterate 11 (refine fac_s (fun hf => ?_); conv => whnf)
  (refine handp_s 103 [some 5, some 6, none] ?_; conv => whnf)
  iterate 3 (refine rq_s (by (rfl)) ?_; conv => whnf)
  (focus (apply callpe_s (f := 103); (· repeat' (first | (refine sub_all ?_; simp [List.length_map, mkS_len, setRow_len]; done) | exact sub_map _ _ _ _ | apply cons_eq | apply obj_eq | apply agg_eq | apply own_eq | apply ro_eq | apply rp_eq | apply fnc_eq | rfl)); refine callp_s (f := 103) rfl ((k : Con _ _ _ _ _)) ?_; conv => whnf))
  (refine fac_s (fun hf => ?_); conv => whnf)
  (refine br_s (fun hb => ?_) (fun hb => ?_) <;> (try simp only [beq_iff_eq, bne_iff_ne, ne_eq, decide_eq_true_eq, decide_eq_false_iff_not, Int.not_lt, Int.not_le, Bool.false_eq_true, if_false, if_true, beq_eq_false_iff_ne, bne_eq_false_iff_eq, Bool.not_eq_true', Bool.not_eq_false', Int.ofNat_lt, Int.ofNat_le, Int.ofNat_inj, List.length_map, List.length_nil, List.length_cons] at hb) <;> conv => whnf)
  iterate 2 (refine ChkS.mk (by kernel_rfl) ?_; conv => whnf)
  iterate 5 (refine rq_s (by (rfl)) ?_; conv => whnf)
  iterate 4 (refine rows_s (by (rfl)) ?_; conv => whnf)
  (refine call_s (c60 _ s1) ?_; conv => whnf)
  iterate 2 (refine ChkS.mk (by kernel_rfl) ?_; conv => whnf)
  iterate 6 (refine rq_s (by (rfl)) ?_; conv => whnf)
  iterate 3 (refine rows_s (by (rfl)) ?_; conv => whnf)
  (refine call_s (c102 _ s2) ?_; conv => whnf)
  iterate 5 (refine ChkS.mk (by kernel_rfl) ?_; conv => whnf)
  iterate 11 (refine fac_s (fun hf => ?_); conv => whnf)
  iterate 2 (refine rq_s (by (rfl)) ?_; conv => whnf)
  (refine rq_s (by ((simp only [decide_eq_true_eq, List.length_map, mkS_len, setRow_len]; done))) ?_; conv => whnf)
  (refine rq_s (by (rfl)) ?_; conv => whnf)
  (refine rq_s (by ((simp only [decide_eq_true_eq, List.length_map, mkS_len, setRow_len]; done))) ?_; conv => whnf)
  (refine rq_s (by (rfl)) ?_; conv => whnf)
  (refine rq_s (by ((simp only [decide_eq_true_eq, List.length_map, mkS_len, setRow_len]; done))) ?_; conv => whnf)
  iterate 2 (refine rq_s (by (rfl)) ?_; conv => whnf)
  (refine rq_s (by ((simp only [decide_eq_true_eq, List.length_map, mkS_len, setRow_len]; done))) ?_; conv => whnf)
  (refine rq_s (by (rfl)) ?_; conv => whnf)
  (refine rq_s (by ((simp only [decide_eq_true_eq, List.length_map, mkS_len, setRow_len]; done))) ?_; conv => whnf)
  (refine rq_s (by (rfl)) ?_; conv => whnf)
  (refine rq_s (by ((simp only [decide_eq_true_eq, List.length_map, mkS_len, setRow_len]; done))) ?_; conv => whnf)
  (refine rq_s (by (rfl)) ?_; conv => whnf)
  (refine rq_s (by ((simp only [decide_eq_true_eq, List.length_map, mkS_len, setRow_len]; done))) ?_; conv => whnf)
  iterate 5 (refine rq_s (by (rfl)) ?_; conv => whnf)
  iterate 7 (refine rows_s (by ((refine sub_all ?_; simp [List.length_map, mkS_len, setRow_len]; done))) ?_; conv => whnf)
  (focus (refine sh_s ?_; ((rw [callF_f hr (by assumption)]; first | done | rfl | (simp [hstO, datO, hstC, datC, ownI, ownD, ownB, intR, dealR, subA]; done)))))
  iterate 6 (refine ChkS.mk (by kernel_rfl) ?_; conv => whnf)
  iterate 2 (refine rq_s (by (rfl)) ?_; conv => whnf)
  (refine rq_s (by ((simp only [decide_eq_true_eq, List.length_map, mkS_len, setRow_len]; done))) ?_; conv => whnf)
  (refine rq_s (by (rfl)) ?_; conv => whnf)
  (refine rq_s (by ((simp only [decide_eq_true_eq, List.length_map, mkS_len, setRow_len]; done))) ?_; conv => whnf)
  (refine rq_s (by (rfl)) ?_; conv => whnf)
  (refine rq_s (by ((simp only [decide_eq_true_eq, List.length_map, mkS_len, setRow_len]; done))) ?_; conv => whnf)
  iterate 2 (refine rq_s (by (rfl)) ?_; conv => whnf)
  (refine rq_s (by ((simp only [decide_eq_true_eq, List.length_map, mkS_len, setRow_len]; done))) ?_; conv => whnf)
  (refine rq_s (by (rfl)) ?_; conv => whnf)
  (refine rq_s (by ((simp only [decide_eq_true_eq, List.length_map, mkS_len, setRow_len]; done))) ?_; conv => whnf)
  (refine rq_s (by (rfl)) ?_; conv => whnf)
  (refine rq_s (by ((simp only [decide_eq_true_eq, List.length_map, mkS_len, setRow_len]; done))) ?_; conv => whnf)
  (refine rq_s (by (rfl)) ?_; conv => whnf)
  (refine rq_s (by ((simp only [decide_eq_true_eq, List.length_map, mkS_len, setRow_len]; done))) ?_; conv => whnf)
  iterate 5 (refine rq_s (by (rfl)) ?_; conv => whnf)
  iterate 7 (refine rows_s (by ((refine sub_all ?_; simp [List.length_map, mkS_len, setRow_len]; done))) ?_; conv => whnf)
  (focus (refine sh_s ?_; ((rw [callF_t hr (by assumption)]; first | done | rfl | (simp [hstO, datO, hstC, datC, ownI, ownD, ownB, intR, dealR, subA]; done)))))
theorem called2 (h : Hst) (d : Dat) (hh : HostOk h) (hd : DataOk d) : Con Try.prog 51 [hstV h, datV d, .int .i64 2] (undefs [hstV h, datV d, .int .i64 2]) (.tup [hstO (callF h d 2).1, datO (callF h d 2).2.1, .int .i64 (callF h d 2).2.2]) := by
  have s1 := small_host hh
  have s2 := small_data hd
  have k := call2 h d hh.gr hh.st hh.q hh.ds hd.st
  generalize hr : callI h d 2 = r at k
  obtain ⟨h', d', th⟩ := r
  dsimp only at k
  refine Con.ev 27 T_ok mix Try.func51 rfl rfl rfl rfl [.cell 6 27, .cell 7 30, .tmp 8] rfl ?_
  conv => whnf
  iterate 2 (refine rq_s (by (rfl)) ?_; conv => whnf)
  iterate 2 (refine ChkS.mk (by kernel_rfl) ?_; conv => whnf)
  iterate 5 (refine rq_s (by (rfl)) ?_; conv => whnf)
  iterate 4 (refine rows_s (by (rfl)) ?_; conv => whnf)
  (refine call_s (c60 _ s1) ?_; conv => whnf)
  iterate 2 (refine ChkS.mk (by kernel_rfl) ?_; conv => whnf)
  iterate 6 (refine rq_s (by (rfl)) ?_; conv => whnf)
  iterate 3 (refine rows_s (by (rfl)) ?_; conv => whnf)
  (refine call_s (c102 _ s2) ?_; conv => whnf)
  iterate 5 (refine ChkS.mk (by kernel_rfl) ?_; conv => whnf)
  iterate 11 (refine fac_s (fun hf => ?_); conv => whnf)
  (refine handp_s 103 [some 5, some 6, none] ?_; conv => whnf)
  iterate 3 (refine rq_s (by (rfl)) ?_; conv => whnf)
  (focus (apply callpe_s (f := 103); (· repeat' (first | (refine sub_all ?_; simp [List.length_map, mkS_len, setRow_len]; done) | exact sub_map _ _ _ _ | apply cons_eq | apply obj_eq | apply agg_eq | apply own_eq | apply ro_eq | apply rp_eq | apply fnc_eq | rfl)); refine callp_s (f := 103) rfl ((k : Con _ _ _ _ _)) ?_; conv => whnf))
  (refine fac_s (fun hf => ?_); conv => whnf)
  (refine br_s (fun hb => ?_) (fun hb => ?_) <;> (try simp only [beq_iff_eq, bne_iff_ne, ne_eq, decide_eq_true_eq, decide_eq_false_iff_not, Int.not_lt, Int.not_le, Bool.false_eq_true, if_false, if_true, beq_eq_false_iff_ne, bne_eq_false_iff_eq, Bool.not_eq_true', Bool.not_eq_false', Int.ofNat_lt, Int.ofNat_le, Int.ofNat_inj, List.length_map, List.length_nil, List.length_cons] at hb) <;> conv => whnf)
  iterate 2 (refine ChkS.mk (by kernel_rfl) ?_; conv => whnf)
  iterate 5 (refine rq_s (by (rfl)) ?_; conv => whnf)
  iterate 4 (refine rows_s (by (rfl)) ?_; conv => whnf)
  (refine call_s (c60 _ s1) ?_; conv => whnf)
  iterate 2 (refine ChkS.mk (by kernel_rfl) ?_; conv => whnf)
  iterate 6 (refine rq_s (by (rfl)) ?_; conv => whnf)
  iterate 3 (refine rows_s (by (rfl)) ?_; conv => whnf)
  (refine call_s (c102 _ s2) ?_; conv => whnf)
  iterate 5 (refine ChkS.mk (by kernel_rfl) ?_; conv => whnf)
  iterate 11 (refine fac_s (fun hf => ?_); conv => whnf)
  iterate 2 (refine rq_s (by (rfl)) ?_; conv => whnf)
  (refine rq_s (by ((simp only [decide_eq_true_eq, List.length_map, mkS_len, setRow_len]; done))) ?_; conv => whnf)
  (refine rq_s (by (rfl)) ?_; conv => whnf)
  (refine rq_s (by ((simp only [decide_eq_true_eq, List.length_map, mkS_len, setRow_len]; done))) ?_; conv => whnf)
  (refine rq_s (by (rfl)) ?_; conv => whnf)
  (refine rq_s (by ((simp only [decide_eq_true_eq, List.length_map, mkS_len, setRow_len]; done))) ?_; conv => whnf)
  iterate 2 (refine rq_s (by (rfl)) ?_; conv => whnf)
  (refine rq_s (by ((simp only [decide_eq_true_eq, List.length_map, mkS_len, setRow_len]; done))) ?_; conv => whnf)
  (refine rq_s (by (rfl)) ?_; conv => whnf)
  (refine rq_s (by ((simp only [decide_eq_true_eq, List.length_map, mkS_len, setRow_len]; done))) ?_; conv => whnf)
  (refine rq_s (by (rfl)) ?_; conv => whnf)
  (refine rq_s (by ((simp only [decide_eq_true_eq, List.length_map, mkS_len, setRow_len]; done))) ?_; conv => whnf)
  (refine rq_s (by (rfl)) ?_; conv => whnf)
  (refine rq_s (by ((simp only [decide_eq_true_eq, List.length_map, mkS_len, setRow_len]; done))) ?_; conv => whnf)
  iterate 5 (refine rq_s (by (rfl)) ?_; conv => whnf)
  iterate 7 (refine rows_s (by ((refine sub_all ?_; simp [List.length_map, mkS_len, setRow_len]; done))) ?_; conv => whnf)
  (focus (refine sh_s ?_; ((rw [callF_f hr (by assumption)]; first | done | rfl | (simp [hstO, datO, hstC, datC, ownI, ownD, ownB, intR, dealR, subA]; done)))))
  iterate 6 (refine ChkS.mk (by kernel_rfl) ?_; conv => whnf)
  iterate 2 (refine rq_s (by (rfl)) ?_; conv => whnf)
  (refine rq_s (by ((simp only [decide_eq_true_eq, List.length_map, mkS_len, setRow_len]; done))) ?_; conv => whnf)
  (refine rq_s (by (rfl)) ?_; conv => whnf)
  (refine rq_s (by ((simp only [decide_eq_true_eq, List.length_map, mkS_len, setRow_len]; done))) ?_; conv => whnf)
  (refine rq_s (by (rfl)) ?_; conv => whnf)
  (refine rq_s (by ((simp only [decide_eq_true_eq, List.length_map, mkS_len, setRow_len]; done))) ?_; conv => whnf)
  iterate 2 (refine rq_s (by (rfl)) ?_; conv => whnf)
  (refine rq_s (by ((simp only [decide_eq_true_eq, List.length_map, mkS_len, setRow_len]; done))) ?_; conv => whnf)
  (refine rq_s (by (rfl)) ?_; conv => whnf)
  (refine rq_s (by ((simp only [decide_eq_true_eq, List.length_map, mkS_len, setRow_len]; done))) ?_; conv => whnf)
  (refine rq_s (by (rfl)) ?_; conv => whnf)
  (refine rq_s (by ((simp only [decide_eq_true_eq, List.length_map, mkS_len, setRow_len]; done))) ?_; conv => whnf)
  (refine rq_s (by (rfl)) ?_; conv => whnf)
  (refine rq_s (by ((simp only [decide_eq_true_eq, List.length_map, mkS_len, setRow_len]; done))) ?_; conv => whnf)
  iterate 5 (refine rq_s (by (rfl)) ?_; conv => whnf)
  iterate 7 (refine rows_s (by ((refine sub_all ?_; simp [List.length_map, mkS_len, setRow_len]; done))) ?_; conv => whnf)
  (focus (refine sh_s ?_; ((rw [callF_t hr (by assumption)]; first | done | rfl | (simp [hstO, datO, hstC, datC, ownI, ownD, ownB, intR, dealR, subA]; done)))))
theorem called3 (h : Hst) (d : Dat) (hh : HostOk h) (hd : DataOk d) : Con Try.prog 51 [hstV h, datV d, .int .i64 3] (undefs [hstV h, datV d, .int .i64 3]) (.tup [hstO (callF h d 3).1, datO (callF h d 3).2.1, .int .i64 (callF h d 3).2.2]) := by
  have s1 := small_host hh
  have s2 := small_data hd
  have k := call3 h d hh.gr hh.st hh.q hh.ds hd.st
  generalize hr : callI h d 3 = r at k
  obtain ⟨h', d', th⟩ := r
  dsimp only at k
  refine Con.ev 27 T_ok mix Try.func51 rfl rfl rfl rfl [.cell 6 27, .cell 7 30, .tmp 8] rfl ?_
  conv => whnf
  iterate 2 (refine rq_s (by (rfl)) ?_; conv => whnf)
  iterate 2 (refine ChkS.mk (by kernel_rfl) ?_; conv => whnf)
  iterate 5 (refine rq_s (by (rfl)) ?_; conv => whnf)
  iterate 4 (refine rows_s (by (rfl)) ?_; conv => whnf)
  (refine call_s (c60 _ s1) ?_; conv => whnf)
  iterate 2 (refine ChkS.mk (by kernel_rfl) ?_; conv => whnf)
  iterate 6 (refine rq_s (by (rfl)) ?_; conv => whnf)
  iterate 3 (refine rows_s (by (rfl)) ?_; conv => whnf)
  (refine call_s (c102 _ s2) ?_; conv => whnf)
  iterate 5 (refine ChkS.mk (by kernel_rfl) ?_; conv => whnf)
  iterate 11 (refine fac_s (fun hf => ?_); conv => whnf)
  (refine handp_s 103 [some 5, some 6, none] ?_; conv => whnf)
  iterate 3 (refine rq_s (by (rfl)) ?_; conv => whnf)
  (focus (apply callpe_s (f := 103); (· repeat' (first | (refine sub_all ?_; simp [List.length_map, mkS_len, setRow_len]; done) | exact sub_map _ _ _ _ | apply cons_eq | apply obj_eq | apply agg_eq | apply own_eq | apply ro_eq | apply rp_eq | apply fnc_eq | rfl)); refine callp_s (f := 103) rfl ((k : Con _ _ _ _ _)) ?_; conv => whnf))
  (refine fac_s (fun hf => ?_); conv => whnf)
  (refine br_s (fun hb => ?_) (fun hb => ?_) <;> (try simp only [beq_iff_eq, bne_iff_ne, ne_eq, decide_eq_true_eq, decide_eq_false_iff_not, Int.not_lt, Int.not_le, Bool.false_eq_true, if_false, if_true, beq_eq_false_iff_ne, bne_eq_false_iff_eq, Bool.not_eq_true', Bool.not_eq_false', Int.ofNat_lt, Int.ofNat_le, Int.ofNat_inj, List.length_map, List.length_nil, List.length_cons] at hb) <;> conv => whnf)
  iterate 2 (refine ChkS.mk (by kernel_rfl) ?_; conv => whnf)
  iterate 5 (refine rq_s (by (rfl)) ?_; conv => whnf)
  iterate 4 (refine rows_s (by (rfl)) ?_; conv => whnf)
  (refine call_s (c60 _ s1) ?_; conv => whnf)
  iterate 2 (refine ChkS.mk (by kernel_rfl) ?_; conv => whnf)
  iterate 6 (refine rq_s (by (rfl)) ?_; conv => whnf)
  iterate 3 (refine rows_s (by (rfl)) ?_; conv => whnf)
  (refine call_s (c102 _ s2) ?_; conv => whnf)
  iterate 5 (refine ChkS.mk (by kernel_rfl) ?_; conv => whnf)
  iterate 11 (refine fac_s (fun hf => ?_); conv => whnf)
  iterate 2 (refine rq_s (by (rfl)) ?_; conv => whnf)
  (refine rq_s (by ((simp only [decide_eq_true_eq, List.length_map, mkS_len, setRow_len]; done))) ?_; conv => whnf)
  (refine rq_s (by (rfl)) ?_; conv => whnf)
  (refine rq_s (by ((simp only [decide_eq_true_eq, List.length_map, mkS_len, setRow_len]; done))) ?_; conv => whnf)
  (refine rq_s (by (rfl)) ?_; conv => whnf)
  (refine rq_s (by ((simp only [decide_eq_true_eq, List.length_map, mkS_len, setRow_len]; done))) ?_; conv => whnf)
  iterate 2 (refine rq_s (by (rfl)) ?_; conv => whnf)
  (refine rq_s (by ((simp only [decide_eq_true_eq, List.length_map, mkS_len, setRow_len]; done))) ?_; conv => whnf)
  (refine rq_s (by (rfl)) ?_; conv => whnf)
  (refine rq_s (by ((simp only [decide_eq_true_eq, List.length_map, mkS_len, setRow_len]; done))) ?_; conv => whnf)
  (refine rq_s (by (rfl)) ?_; conv => whnf)
  (refine rq_s (by ((simp only [decide_eq_true_eq, List.length_map, mkS_len, setRow_len]; done))) ?_; conv => whnf)
  (refine rq_s (by (rfl)) ?_; conv => whnf)
  (refine rq_s (by ((simp only [decide_eq_true_eq, List.length_map, mkS_len, setRow_len]; done))) ?_; conv => whnf)
  iterate 5 (refine rq_s (by (rfl)) ?_; conv => whnf)
  iterate 7 (refine rows_s (by ((refine sub_all ?_; simp [List.length_map, mkS_len, setRow_len]; done))) ?_; conv => whnf)
  (focus (refine sh_s ?_; ((rw [callF_f hr (by assumption)]; first | done | rfl | (simp [hstO, datO, hstC, datC, ownI, ownD, ownB, intR, dealR, subA]; done)))))
  iterate 6 (refine ChkS.mk (by kernel_rfl) ?_; conv => whnf)
  iterate 2 (refine rq_s (by (rfl)) ?_; conv => whnf)
  (refine rq_s (by ((simp only [decide_eq_true_eq, List.length_map, mkS_len, setRow_len]; done))) ?_; conv => whnf)
  (refine rq_s (by (rfl)) ?_; conv => whnf)
  (refine rq_s (by ((simp only [decide_eq_true_eq, List.length_map, mkS_len, setRow_len]; done))) ?_; conv => whnf)
  (refine rq_s (by (rfl)) ?_; conv => whnf)
  (refine rq_s (by ((simp only [decide_eq_true_eq, List.length_map, mkS_len, setRow_len]; done))) ?_; conv => whnf)
  iterate 2 (refine rq_s (by (rfl)) ?_; conv => whnf)
  (refine rq_s (by ((simp only [decide_eq_true_eq, List.length_map, mkS_len, setRow_len]; done))) ?_; conv => whnf)
  (refine rq_s (by (rfl)) ?_; conv => whnf)
  (refine rq_s (by ((simp only [decide_eq_true_eq, List.length_map, mkS_len, setRow_len]; done))) ?_; conv => whnf)
  (refine rq_s (by (rfl)) ?_; conv => whnf)
  (refine rq_s (by ((simp only [decide_eq_true_eq, List.length_map, mkS_len, setRow_len]; done))) ?_; conv => whnf)
  (refine rq_s (by (rfl)) ?_; conv => whnf)
  (refine rq_s (by ((simp only [decide_eq_true_eq, List.length_map, mkS_len, setRow_len]; done))) ?_; conv => whnf)
  iterate 5 (refine rq_s (by (rfl)) ?_; conv => whnf)
  iterate 7 (refine rows_s (by ((refine sub_all ?_; simp [List.length_map, mkS_len, setRow_len]; done))) ?_; conv => whnf)
  (focus (refine sh_s ?_; ((rw [callF_t hr (by assumption)]; first | done | rfl | (simp [hstO, datO, hstC, datC, ownI, ownD, ownB, intR, dealR, subA]; done)))))
end H3

/- HostCall: the program's function, and the reference's. -/
set_option linter.unusedVariables false
set_option linter.unusedSimpArgs false
set_option maxRecDepth 100000
open Go Go.Abs Go.Proofs V1 H1 H2 H3
namespace H4

theorem called (h : Hst) (d : Dat) (c : Int) (hh : hostOK h = true) (hd : dataOK d = true) (hc : inR c 0 3 = true) : Con Try.prog 51 [hstV h, datV d, .int .i64 c] (undefs [hstV h, datV d, .int .i64 c]) (.tup [hstO (callF h d c.toNat).1, datO (callF h d c.toNat).2.1, .int .i64 (callF h d c.toNat).2.2]) := by
  have e := inR_t hc
  have hh := (hostOK_iff h).1 hh
  have hd := (dataOK_iff d).1 hd
  have : c = 0 ∨ c = 1 ∨ c = 2 ∨ c = 3 := by omega
  rcases this with rfl | rfl | rfl | rfl
  · exact called0 h d hh hd
  · exact called1 h d hh hd
  · exact called2 h d hh hd
  · exact called3 h d hh hd
def hcV (r : Hst × Dat × Int × Int) : AV := .tup [hstO r.1, datO r.2.1, .int .i64 r.2.2.1, .int .i64 r.2.2.2]
theorem zero_sh (n : Int) : Sh (.tup [.agg [.emp, .emp, .emp, .int .i64 0, .emp], .agg [.emp, .emp, .emp, .int .i64 0, .int .i64 0, .str []], .int .i64 0, .int .i64 n]) (hcV (hst0, dat0, 0, n)) :=
  Sh.tup ⟨Sh.agg ⟨Sh.emp_own _ _, Sh.emp_own _ _, Sh.emp_own _ _, Sh.refl _, Sh.emp_own _ _, trivial⟩, Sh.agg ⟨Sh.emp_own _ _, Sh.emp_own _ _, Sh.emp_own _ _, Sh.refl _, Sh.refl _, Sh.refl _, trivial⟩, Sh.refl _, Sh.refl _, trivial⟩
section
variable {h : Hst} {d : Dat} {c : Int}
theorem hc_bad (a : hostOK h = false) : hostCallF h d c = (hst0, dat0, 0, 1) := by rw [hostCallF, if_pos (.inl a)]
theorem hc_bad2 (a : dataOK d = false) : hostCallF h d c = (hst0, dat0, 0, 1) := by rw [hostCallF, if_pos (.inr a)]
theorem hc_kind (a : hostOK h = true) (b : dataOK d = true) (e : inR c 0 3 = false) : hostCallF h d c = (hst0, dat0, 0, 9) := by rw [hostCallF, if_neg (by simp [a, b]), if_pos e]
theorem hc_go (a : hostOK h = true) (b : dataOK d = true) (e : inR c 0 3 = true) : hostCallF h d c = ((callF h d c.toNat).1, (callF h d c.toNat).2.1, (callF h d c.toNat).2.2, 0) := by rw [hostCallF, if_neg (by simp [a, b]), if_neg (by simp [e])]
end
theorem c9 (h : Hst) (d : Dat) (c : Int) : Con Try.prog 9 [hstV h, datV d, .int .i64 c] (undefs [hstV h, datV d, .int .i64 c]) (hcV (hostCallF h d c)) := by
  refine Con.ev 41 T_ok mix Try.func9 rfl rfl rfl rfl [.cell 6 27, .cell 7 30, .tmp 8, .tmp 9] rfl ?_
  conv => whnf
  iterate 7 (refine rq_s (by (rfl)) ?_; conv => whnf)
  (refine lend_s ?_; conv => whnf)
  iterate 4 (refine rows_s (by (rfl)) ?_; conv => whnf)
  (refine call_s (c48 ..) ?_; conv => whnf)
  (refine br_s (fun hb => ?_) (fun hb => ?_) <;> (try simp only [beq_iff_eq, bne_iff_ne, ne_eq, decide_eq_true_eq, decide_eq_false_iff_not, Int.not_lt, Int.not_le, Bool.false_eq_true, if_false, if_true, beq_eq_false_iff_ne, bne_eq_false_iff_eq, Bool.not_eq_true', Bool.not_eq_false', Int.ofNat_lt, Int.ofNat_le, Int.ofNat_inj, List.length_map, List.length_nil, List.length_cons] at hb) <;> conv => whnf)
  iterate 4 (refine br_t rfl ?_; conv => whnf)
  iterate 17 (refine rq_s (by (rfl)) ?_; conv => whnf)
  rotate_left
  (refine br_f rfl ?_; conv => whnf)
  iterate 6 (refine rq_s (by (rfl)) ?_; conv => whnf)
  (refine lend_s ?_; conv => whnf)
  iterate 3 (refine rows_s (by (rfl)) ?_; conv => whnf)
  (refine call_s (c49 ..) ?_; conv => whnf)
  (refine br_f rfl ?_; conv => whnf)
  (refine br_s (fun hb => ?_) (fun hb => ?_) <;> (try simp only [beq_iff_eq, bne_iff_ne, ne_eq, decide_eq_true_eq, decide_eq_false_iff_not, Int.not_lt, Int.not_le, Bool.false_eq_true, if_false, if_true, beq_eq_false_iff_ne, bne_eq_false_iff_eq, Bool.not_eq_true', Bool.not_eq_false', Int.ofNat_lt, Int.ofNat_le, Int.ofNat_inj, List.length_map, List.length_nil, List.length_cons] at hb) <;> conv => whnf)
  iterate 17 (refine rq_s (by (rfl)) ?_; conv => whnf)
  rotate_left
  (refine rq_s (by (rfl)) ?_; conv => whnf)
  (refine lend_s ?_; conv => whnf)
  (refine call_s (c50 ..) ?_; conv => whnf)
  (refine br_s (fun hb => ?_) (fun hb => ?_) <;> (try simp only [beq_iff_eq, bne_iff_ne, ne_eq, decide_eq_true_eq, decide_eq_false_iff_not, Int.not_lt, Int.not_le, Bool.false_eq_true, if_false, if_true, beq_eq_false_iff_ne, bne_eq_false_iff_eq, Bool.not_eq_true', Bool.not_eq_false', Int.ofNat_lt, Int.ofNat_le, Int.ofNat_inj, List.length_map, List.length_nil, List.length_cons] at hb) <;> conv => whnf)
  iterate 17 (refine rq_s (by (rfl)) ?_; conv => whnf)
  rotate_left
  iterate 12 (refine rq_s (by (rfl)) ?_; conv => whnf)
  (refine lend_s ?_; conv => whnf)
  iterate 7 (refine rows_s (by (rfl)) ?_; conv => whnf)
  (refine call_s (called _ _ _ (by assumption) (by assumption) (by assumption)) ?_; conv => whnf)
  (refine fac_s (fun hf => ?_); conv => whnf)
  iterate 8 (refine ChkS.mk (by kernel_rfl) ?_; conv => whnf)
  iterate 2 (refine rq_s (by (rfl)) ?_; conv => whnf)
  (refine rq_s (by ((simp only [decide_eq_true_eq, List.length_map, mkS_len, setRow_len]; done))) ?_; conv => whnf)
  (refine rq_s (by (rfl)) ?_; conv => whnf)
  (refine rq_s (by ((simp only [decide_eq_true_eq, List.length_map, mkS_len, setRow_len]; done))) ?_; conv => whnf)
  (refine rq_s (by (rfl)) ?_; conv => whnf)
  (refine rq_s (by ((simp only [decide_eq_true_eq, List.length_map, mkS_len, setRow_len]; done))) ?_; conv => whnf)
  iterate 2 (refine rq_s (by (rfl)) ?_; conv => whnf)
  (refine rq_s (by ((simp only [decide_eq_true_eq, List.length_map, mkS_len, setRow_len]; done))) ?_; conv => whnf)
  (refine rq_s (by (rfl)) ?_; conv => whnf)
  (refine rq_s (by ((simp only [decide_eq_true_eq, List.length_map, mkS_len, setRow_len]; done))) ?_; conv => whnf)
  (refine rq_s (by (rfl)) ?_; conv => whnf)
  (refine rq_s (by ((simp only [decide_eq_true_eq, List.length_map, mkS_len, setRow_len]; done))) ?_; conv => whnf)
  (refine rq_s (by (rfl)) ?_; conv => whnf)
  (refine rq_s (by ((simp only [decide_eq_true_eq, List.length_map, mkS_len, setRow_len]; done))) ?_; conv => whnf)
  iterate 6 (refine rq_s (by (rfl)) ?_; conv => whnf)
  iterate 7 (refine rows_s (by ((refine sub_all ?_; simp [List.length_map, mkS_len, setRow_len]; done))) ?_; conv => whnf)
  rotate_left
  all_goals first
    | exact ⟨by rw [hc_bad (by assumption)]; exact zero_sh _⟩
    | exact ⟨by rw [hc_bad2 (by assumption)]; exact zero_sh _⟩
    | exact ⟨by rw [hc_kind (by assumption) (by assumption) (by assumption)]; exact zero_sh _⟩
    | exact ⟨by rw [hc_go (by assumption) (by assumption) (by assumption)]; exact Sh.refl _⟩
end H4
