import Derived.Test.YtdbjklhadnnbdaaDoorNfA
/- A new Forth: machines compared, marked, held; contracts. -/
set_option linter.unusedVariables false
set_option linter.unusedSimpArgs false
set_option maxRecDepth 100000
open Go Go.Abs Go.Proofs V1 H1 K1 K2 K3
namespace N2

structure Mch where
  ws : List Wd
  co : List Int
  da : Dat
  ho : Hst
  ca : List Cal
  ip : Int
  fu : Int
def mchR (m : Mch) : List AV := [roW m.ws, roI m.co, roI m.da.st, roI m.da.bk, roI m.da.ce, .int .i64 m.da.he, .int .i64 m.da.ba, .str m.da.ou, roB m.ho.gr, roI m.ho.st, roI m.ho.q, .int .i64 m.ho.tk, roD m.ho.ds, roC m.ca, .int .i64 m.ip, .int .i64 m.fu]
def mchV (m : Mch) : AV := .agg (mchR m)
def mchC (m : Mch) : List AV := [ownW m.ws, ownI m.co, ownI m.da.st, ownI m.da.bk, ownI m.da.ce, .int .i64 m.da.he, .int .i64 m.da.ba, .str m.da.ou, ownB m.ho.gr, ownI m.ho.st, ownI m.ho.q, .int .i64 m.ho.tk, ownD m.ho.ds, ownC m.ca, .int .i64 m.ip, .int .i64 m.fu]
def mchO (m : Mch) : AV := .agg (mchC m)

theorem eqM (m : Mch) : Con Tryd.prog 81 [mchV m, mchV m] (undefs [mchV m, mchV m]) (.bool true) := by
  have e1 : Con Tryd.prog 28 [roW m.ws, roW m.ws] (undefs [roW m.ws, roW m.ws]) (.bool true) := by simpa using c28 m.ws m.ws
  have e2 : Con Tryd.prog 52 [roI m.co, roI m.co] (undefs [roI m.co, roI m.co]) (.bool true) := by simpa using c52 m.co m.co
  have e3 : Con Tryd.prog 132 [datV m.da, datV m.da] (undefs [datV m.da, datV m.da]) (.bool true) := by simpa using c132 m.da m.da
  have e4 : Con Tryd.prog 19 [hstV m.ho, hstV m.ho] (undefs [hstV m.ho, hstV m.ho]) (.bool true) := by simpa using c19 m.ho m.ho
  have e5 : Con Tryd.prog 133 [roC m.ca, roC m.ca] (undefs [roC m.ca, roC m.ca]) (.bool true) := by simpa using c133 m.ca m.ca
  refine Con.ev 45 T_ok mix Tryd.func81 rfl rfl rfl rfl [.tmp 4] rfl ?_
  conv => whnf
  iterate 6 (refine rq_s (by (rfl)) ?_; conv => whnf)
  (refine lend_s ?_; conv => whnf)
  iterate 2 (refine rows_s (by (rfl)) ?_; conv => whnf)
  (refine call_s (e1 ..) ?_; conv => whnf)
  (refine br_f rfl ?_; conv => whnf)
  iterate 4 (refine rq_s (by (rfl)) ?_; conv => whnf)
  (refine lend_s ?_; conv => whnf)
  iterate 2 (refine rows_s (by (rfl)) ?_; conv => whnf)
  (refine call_s (e2 ..) ?_; conv => whnf)
  (refine br_f rfl ?_; conv => whnf)
  iterate 14 (refine rq_s (by (rfl)) ?_; conv => whnf)
  (refine lend_s ?_; conv => whnf)
  iterate 6 (refine rows_s (by (rfl)) ?_; conv => whnf)
  (refine call_s (e3 ..) ?_; conv => whnf)
  (refine br_f rfl ?_; conv => whnf)
  iterate 12 (refine rq_s (by (rfl)) ?_; conv => whnf)
  (refine lend_s ?_; conv => whnf)
  iterate 8 (refine rows_s (by (rfl)) ?_; conv => whnf)
  (refine call_s (e4 ..) ?_; conv => whnf)
  (refine br_f rfl ?_; conv => whnf)
  iterate 4 (refine rq_s (by (rfl)) ?_; conv => whnf)
  (refine lend_s ?_; conv => whnf)
  iterate 2 (refine rows_s (by (rfl)) ?_; conv => whnf)
  (refine call_s (e5 ..) ?_; conv => whnf)
  (refine br_f rfl ?_; conv => whnf)
  iterate 2 (refine rq_s (by (rfl)) ?_; conv => whnf)
  (focus (refine br_f (by (simp; done)) ?_; conv => whnf))
  iterate 2 (refine rq_s (by (rfl)) ?_; conv => whnf)
  (focus (refine br_f (by (simp; done)) ?_; conv => whnf))
  (refine rq_s (by (rfl)) ?_; conv => whnf)
  (refine sh_s ?_; (rfl))
def lenM (m : Mch) : Int := 3 * (m.ws.length : Int) + 1 * (m.co.length : Int) + lenData m.da + lenHost m.ho + 4 * (m.ca.length : Int)
def mkM (m : Mch) (k : Int) : Mch := ⟨mkS mksW 3 m.ws.length k, mkS mksI 1 m.co.length (k + 3 * (m.ws.length : Int)), mkData m.da (k + 3 * (m.ws.length : Int) + 1 * (m.co.length : Int)), mkHost m.ho (k + 3 * (m.ws.length : Int) + 1 * (m.co.length : Int) + lenData m.da),
  mkS mksC 4 m.ca.length (k + 3 * (m.ws.length : Int) + 1 * (m.co.length : Int) + lenData m.da + lenHost m.ho), m.ip, m.fu⟩
theorem markM (m : Mch) (k : Int) (h1 : 0 ≤ k) (h2 : k + lenM m ≤ 100000000) (hd : 0 ≤ lenData m.da) (hh : 0 ≤ lenHost m.ho) : Con Tryd.prog 84 [mchO m, .int .i64 k]
    [.agg [ownW (mkM m k).ws, ownI (mkM m k).co, ownI (mkM m k).da.st, ownI (mkM m k).da.bk, ownI (mkM m k).da.ce, .undef, .undef, .undef, ownB (mkM m k).ho.gr, ownI (mkM m k).ho.st, ownI (mkM m k).ho.q, .undef, ownD (mkM m k).ho.ds, ownC (mkM m k).ca, .undef, .undef], .undef] (.int .i64 (k + lenM m)) := by
  unfold lenM at h2
  refine Con.evH 26 [some 500000, some 500001, some 500002, some 500003, some 500004, none, none, none, some 500008, some 500009, some 500010, none, some 500012, some 500013, none, none] [500000, 500001, 500002, 500003, 500004, 500008, 500009, 500010, 500012, 500013] rfl rfl T_ok mix Tryd.func84 rfl rfl rfl rfl [.tmp 4] rfl ?_
  conv => whnf
  iterate 2 (refine rq_s (by (rfl)) ?_; conv => whnf)
  (refine rq_s (by ((simp only [decide_eq_true_eq, List.length_map, mkS_len, mkData, mkHost, ownI, ownB, ownD, ownW, ownT, ownC, ownS]; done))) ?_; conv => whnf)
  iterate 2 (refine rq_s (by (rfl)) ?_; conv => whnf)
  (refine hand_s 136 0 ?_; conv => whnf)
  (refine rq_s (by ((simp only [decide_eq_true_eq, List.length_map, mkS_len, mkData, mkHost, ownI, ownB, ownD, ownW, ownT, ownC, ownS]; done))) ?_; conv => whnf)
  iterate 2 (refine rq_s (by (rfl)) ?_; conv => whnf)
  (refine rows_s (by (rfl)) ?_; conv => whnf)
  (refine handc_s (f := 136) (j := 0) (c136 _ _ (by omega) (by omega)) (by simp [List.length_map, mkS_len, mkData, mkHost, ownI, ownB, ownD, ownW, ownT, ownC, ownS]) (by rfl) (by rfl) ?_; conv => whnf)
  (refine fac_s (fun hf => ?_); conv => whnf)
  (refine rq_s (by (rfl)) ?_; conv => whnf)
  (refine rq_s (by ((simp only [decide_eq_true_eq, List.length_map, mkS_len, mkData, mkHost, ownI, ownB, ownD, ownW, ownT, ownC, ownS]; done))) ?_; conv => whnf)
  iterate 2 (refine rq_s (by (rfl)) ?_; conv => whnf)
  (refine hand_s 64 0 ?_; conv => whnf)
  (refine rq_s (by ((simp only [decide_eq_true_eq, List.length_map, mkS_len, mkData, mkHost, ownI, ownB, ownD, ownW, ownT, ownC, ownS]; done))) ?_; conv => whnf)
  iterate 2 (refine rq_s (by (rfl)) ?_; conv => whnf)
  (refine rows_s (by (rfl)) ?_; conv => whnf)
  (refine handc_s (f := 64) (j := 0) (c64 _ _ (by omega) (by omega)) (by simp [List.length_map, mkS_len, mkData, mkHost, ownI, ownB, ownD, ownW, ownT, ownC, ownS]) (by rfl) (by rfl) ?_; conv => whnf)
  (refine fac_s (fun hf => ?_); conv => whnf)
  (refine rq_s (by (rfl)) ?_; conv => whnf)
  (refine rq_s (by ((simp only [decide_eq_true_eq, List.length_map, mkS_len, mkData, mkHost, ownI, ownB, ownD, ownW, ownT, ownC, ownS]; done))) ?_; conv => whnf)
  (refine rq_s (by (rfl)) ?_; conv => whnf)
  (refine rq_s (by ((simp only [decide_eq_true_eq, List.length_map, mkS_len, mkData, mkHost, ownI, ownB, ownD, ownW, ownT, ownC, ownS]; done))) ?_; conv => whnf)
  (refine rq_s (by (rfl)) ?_; conv => whnf)
  (refine rq_s (by ((simp only [decide_eq_true_eq, List.length_map, mkS_len, mkData, mkHost, ownI, ownB, ownD, ownW, ownT, ownC, ownS]; done))) ?_; conv => whnf)
  iterate 5 (refine rq_s (by (rfl)) ?_; conv => whnf)
  (refine handA_s 137 ?_; conv => whnf)
  (refine rq_s (by (rfl)) ?_; conv => whnf)
  iterate 3 (refine rq_s (by ((simp only [decide_eq_true_eq, List.length_map, mkS_len, mkData, mkHost, ownI, ownB, ownD, ownW, ownT, ownC, ownS]; done))) ?_; conv => whnf)
  iterate 3 (refine rows_s (by (rfl)) ?_; conv => whnf)
  (refine handAc_s (f := 137) (c137 m.da _ (by omega) (by omega)) (by simp [szOk, List.length_map, mkS_len, mkData, mkHost, ownI, ownB, ownD, ownW, ownT, ownC, ownS]) ?_; conv => whnf)
  (refine fac_s (fun hf => ?_); conv => whnf)
  (refine rq_s (by (rfl)) ?_; conv => whnf)
  (refine rq_s (by ((simp only [decide_eq_true_eq, List.length_map, mkS_len, mkData, mkHost, ownI, ownB, ownD, ownW, ownT, ownC, ownS]; done))) ?_; conv => whnf)
  (refine rq_s (by (rfl)) ?_; conv => whnf)
  (refine rq_s (by ((simp only [decide_eq_true_eq, List.length_map, mkS_len, mkData, mkHost, ownI, ownB, ownD, ownW, ownT, ownC, ownS]; done))) ?_; conv => whnf)
  (refine rq_s (by (rfl)) ?_; conv => whnf)
  (refine rq_s (by ((simp only [decide_eq_true_eq, List.length_map, mkS_len, mkData, mkHost, ownI, ownB, ownD, ownW, ownT, ownC, ownS]; done))) ?_; conv => whnf)
  iterate 2 (refine rq_s (by (rfl)) ?_; conv => whnf)
  (refine rq_s (by ((simp only [decide_eq_true_eq, List.length_map, mkS_len, mkData, mkHost, ownI, ownB, ownD, ownW, ownT, ownC, ownS]; done))) ?_; conv => whnf)
  iterate 2 (refine rq_s (by (rfl)) ?_; conv => whnf)
  (refine handA_s 20 ?_; conv => whnf)
  (refine rq_s (by (rfl)) ?_; conv => whnf)
  iterate 4 (refine rq_s (by ((simp only [decide_eq_true_eq, List.length_map, mkS_len, mkData, mkHost, ownI, ownB, ownD, ownW, ownT, ownC, ownS]; done))) ?_; conv => whnf)
  iterate 4 (refine rows_s (by (rfl)) ?_; conv => whnf)
  (refine handAc_s (f := 20) (c20 m.ho _ (by omega) (by omega)) (by simp [szOk, List.length_map, mkS_len, mkData, mkHost, ownI, ownB, ownD, ownW, ownT, ownC, ownS]) ?_; conv => whnf)
  (refine fac_s (fun hf => ?_); conv => whnf)
  (refine rq_s (by (rfl)) ?_; conv => whnf)
  (refine rq_s (by ((simp only [decide_eq_true_eq, List.length_map, mkS_len, mkData, mkHost, ownI, ownB, ownD, ownW, ownT, ownC, ownS]; done))) ?_; conv => whnf)
  iterate 2 (refine rq_s (by (rfl)) ?_; conv => whnf)
  (refine hand_s 138 0 ?_; conv => whnf)
  (refine rq_s (by ((simp only [decide_eq_true_eq, List.length_map, mkS_len, mkData, mkHost, ownI, ownB, ownD, ownW, ownT, ownC, ownS]; done))) ?_; conv => whnf)
  iterate 2 (refine rq_s (by (rfl)) ?_; conv => whnf)
  (refine rows_s (by (rfl)) ?_; conv => whnf)
  (refine handc_s (f := 138) (j := 0) (c138 _ _ (by omega) (by omega)) (by simp [List.length_map, mkS_len, mkData, mkHost, ownI, ownB, ownD, ownW, ownT, ownC, ownS]) (by rfl) (by rfl) ?_; conv => whnf)
  (refine fac_s (fun hf => ?_); conv => whnf)
  (refine rq_s (by (rfl)) ?_; conv => whnf)
  iterate 10 (focus (refine aft_s (by (simp [AV.rowsN, List.length_map, mkS_len, mkData, mkHost, ownI, ownB, ownD, ownW, ownT, ownC, ownS]; done)) rfl ?_; conv => whnf))
  (refine sh_s ?_; ((simp only [lenM]; congr 1; omega)))
end N2

/- A new Forth: compared, marked, held; contracts. -/
set_option linter.unusedVariables false
set_option linter.unusedSimpArgs false
set_option maxRecDepth 100000
open Go Go.Abs Go.Proofs V1 H1 K1 K2 K3 N2
namespace N3


theorem heldM (m : Mch) (k : Int) (h1 : 0 ≤ k) (h2 : k + lenM m ≤ 100000000) (hd : 0 ≤ lenData m.da) (hh : 0 ≤ lenHost m.ho) : Con Tryd.prog 87 [mchV (mkM m k), .int .i64 k] (undefs [mchV (mkM m k), .int .i64 k]) (.int .i64 (k + lenM m)) := by
  unfold lenM at h2
  have e1 := c139 (mkS mksW 3 m.ws.length k) k (by omega) (by rw [mkS_len]; omega)
  rw [heldS_mk] at e1
  have e2 := c140 (mkS mksI 1 m.co.length (k + 3 * (m.ws.length : Int))) (k + 3 * (m.ws.length : Int)) (by omega) (by rw [mkS_len]; omega)
  rw [heldS_mk] at e2
  have e3 := c141 (mkData m.da (k + 3 * (m.ws.length : Int) + 1 * (m.co.length : Int))) (k + 3 * (m.ws.length : Int) + 1 * (m.co.length : Int)) (by omega) (by rw [lenData_mk]; omega)
  rw [heldData_mk _ _ (by omega)] at e3
  have e4 := c142 (mkHost m.ho (k + 3 * (m.ws.length : Int) + 1 * (m.co.length : Int) + lenData m.da)) (k + 3 * (m.ws.length : Int) + 1 * (m.co.length : Int) + lenData m.da) (by omega) (by rw [lenHost_mk]; omega)
  rw [heldHost_mk _ _ (by omega)] at e4
  have e5 := c143 (mkS mksC 4 m.ca.length (k + 3 * (m.ws.length : Int) + 1 * (m.co.length : Int) + lenData m.da + lenHost m.ho)) (k + 3 * (m.ws.length : Int) + 1 * (m.co.length : Int) + lenData m.da + lenHost m.ho) (by omega) (by rw [mkS_len]; omega)
  rw [heldS_mk] at e5
  refine Con.ev 36 T_ok mix Tryd.func87 rfl rfl rfl rfl [.tmp 4] rfl ?_
  conv => whnf
  iterate 4 (refine rq_s (by (rfl)) ?_; conv => whnf)
  (refine lend_s ?_; conv => whnf)
  (refine rows_s (by (rfl)) ?_; conv => whnf)
  (refine call_s (e1 ..) ?_; conv => whnf)
  (refine fac_s (fun hf => ?_); conv => whnf)
  (refine br_s (fun hb => ?_) (fun hb => ?_) <;> (try simp only [beq_iff_eq, bne_iff_ne, ne_eq, decide_eq_true_eq, decide_eq_false_iff_not, Int.not_lt, Int.not_le, Bool.false_eq_true, if_false, if_true, beq_eq_false_iff_ne, bne_eq_false_iff_eq, Bool.not_eq_true', Bool.not_eq_false', Int.ofNat_lt, Int.ofNat_le, Int.ofNat_inj, List.length_map, List.length_nil, List.length_cons] at hb) <;> conv => whnf)
  (refine rq_s (by (rfl)) ?_; conv => whnf)
  (refine sh_s ?_; (first | (exfalso; omega) | (simp only [lenM]; congr 1; omega)))
  iterate 3 (refine rq_s (by (rfl)) ?_; conv => whnf)
  (refine lend_s ?_; conv => whnf)
  (refine rows_s (by (rfl)) ?_; conv => whnf)
  (refine call_s (e2 ..) ?_; conv => whnf)
  (refine fac_s (fun hf => ?_); conv => whnf)
  (refine br_s (fun hb => ?_) (fun hb => ?_) <;> (try simp only [beq_iff_eq, bne_iff_ne, ne_eq, decide_eq_true_eq, decide_eq_false_iff_not, Int.not_lt, Int.not_le, Bool.false_eq_true, if_false, if_true, beq_eq_false_iff_ne, bne_eq_false_iff_eq, Bool.not_eq_true', Bool.not_eq_false', Int.ofNat_lt, Int.ofNat_le, Int.ofNat_inj, List.length_map, List.length_nil, List.length_cons] at hb) <;> conv => whnf)
  (refine rq_s (by (rfl)) ?_; conv => whnf)
  (refine sh_s ?_; (first | (exfalso; omega) | (simp only [lenM]; congr 1; omega)))
  iterate 8 (refine rq_s (by (rfl)) ?_; conv => whnf)
  (refine lend_s ?_; conv => whnf)
  iterate 3 (refine rows_s (by (rfl)) ?_; conv => whnf)
  (refine call_s (e3 ..) ?_; conv => whnf)
  (refine fac_s (fun hf => ?_); conv => whnf)
  (refine br_s (fun hb => ?_) (fun hb => ?_) <;> (try simp only [beq_iff_eq, bne_iff_ne, ne_eq, decide_eq_true_eq, decide_eq_false_iff_not, Int.not_lt, Int.not_le, Bool.false_eq_true, if_false, if_true, beq_eq_false_iff_ne, bne_eq_false_iff_eq, Bool.not_eq_true', Bool.not_eq_false', Int.ofNat_lt, Int.ofNat_le, Int.ofNat_inj, List.length_map, List.length_nil, List.length_cons] at hb) <;> conv => whnf)
  (refine rq_s (by (rfl)) ?_; conv => whnf)
  (refine sh_s ?_; (first | (exfalso; omega) | (simp only [lenM]; congr 1; omega)))
  iterate 7 (refine rq_s (by (rfl)) ?_; conv => whnf)
  (refine lend_s ?_; conv => whnf)
  iterate 4 (refine rows_s (by (rfl)) ?_; conv => whnf)
  (refine call_s (e4 ..) ?_; conv => whnf)
  (refine fac_s (fun hf => ?_); conv => whnf)
  (refine br_s (fun hb => ?_) (fun hb => ?_) <;> (try simp only [beq_iff_eq, bne_iff_ne, ne_eq, decide_eq_true_eq, decide_eq_false_iff_not, Int.not_lt, Int.not_le, Bool.false_eq_true, if_false, if_true, beq_eq_false_iff_ne, bne_eq_false_iff_eq, Bool.not_eq_true', Bool.not_eq_false', Int.ofNat_lt, Int.ofNat_le, Int.ofNat_inj, List.length_map, List.length_nil, List.length_cons] at hb) <;> conv => whnf)
  (refine rq_s (by (rfl)) ?_; conv => whnf)
  (refine sh_s ?_; (first | (exfalso; omega) | (simp only [lenM]; congr 1; omega)))
  iterate 3 (refine rq_s (by (rfl)) ?_; conv => whnf)
  (refine lend_s ?_; conv => whnf)
  (refine rows_s (by (rfl)) ?_; conv => whnf)
  (refine call_s (e5 ..) ?_; conv => whnf)
  (refine fac_s (fun hf => ?_); conv => whnf)
  (refine br_s (fun hb => ?_) (fun hb => ?_) <;> (try simp only [beq_iff_eq, bne_iff_ne, ne_eq, decide_eq_true_eq, decide_eq_false_iff_not, Int.not_lt, Int.not_le, Bool.false_eq_true, if_false, if_true, beq_eq_false_iff_ne, bne_eq_false_iff_eq, Bool.not_eq_true', Bool.not_eq_false', Int.ofNat_lt, Int.ofNat_le, Int.ofNat_inj, List.length_map, List.length_nil, List.length_cons] at hb) <;> conv => whnf)
  (refine rq_s (by (rfl)) ?_; conv => whnf)
  (refine sh_s ?_; (first | (exfalso; omega) | (simp only [lenM]; congr 1; omega)))
  (refine rq_s (by (rfl)) ?_; conv => whnf)
  (refine sh_s ?_; (first | (exfalso; omega) | (simp only [lenM]; congr 1; omega)))
abbrev zDf : List AV := [.int .i64 0, .emp]
theorem eqDf : Con Tryd.prog 82 [.ro zDf [], .ro zDf []] (undefs [.ro zDf [], .ro zDf []]) (.bool true) := by
  refine Con.ev 27 T_ok mix Tryd.func82 rfl rfl rfl rfl [.tmp 4] rfl ?_
  conv => whnf
  (refine br_f rfl ?_; conv => whnf)
  rotate_left
  refine LoopG.rounds (α := Unit) T_ok mix [0, 1, 5] [] (fun _ => [(0, .ro zDf []), (1, .ro zDf []), (5, .int .i64 0)]) (fun _ => []) (fun _ => True) (fun _ => 0) ?_ ?_
  · conv => whnf
    exact head_s () trivial rfl rfl
  · intro _ _ _ _
    conv => whnf
    (refine br_f rfl ?_; conv => whnf)
    (refine rq_s (by (rfl)) ?_; conv => whnf)
    (refine sh_s ?_; (rfl))
theorem markDf (k : Int) : Con Tryd.prog 85 [.own 0 zDf [], .int .i64 k] [.own 0 zDf [], .undef] (.int .i64 k) := by
  refine Con.evM 27 [true, false] [some 500000, none] [500000] rfl rfl rfl T_ok mix Tryd.func85 rfl rfl rfl rfl [.tmp 4] rfl ?_
  conv => whnf
  rotate_left
  refine LoopG.rounds (α := Unit) T_ok mix [0, 1, 5] [(500000, 500000)] (fun _ => [(0, .ref 500000 0 0), (1, .int .i64 k), (5, .int .i64 0)]) (fun _ => [(500000, .live ⟨true, 0, zDf, []⟩)]) (fun _ => True) (fun _ => 0) ?_ ?_
  · conv => whnf
    exact head_s () trivial rfl rfl
  · intro _ _ _ _
    conv => whnf
    (refine br_f rfl ?_; conv => whnf)
    (refine rq_s (by (rfl)) ?_; conv => whnf)
    (refine aft_s (by rfl) rfl ?_; conv => whnf)
    (refine sh_s ?_; (rfl))
theorem heldDf (k : Int) : Con Tryd.prog 88 [.ro zDf [], .int .i64 k] (undefs [.ro zDf [], .int .i64 k]) (.int .i64 k) := by
  refine Con.ev 31 T_ok mix Tryd.func88 rfl rfl rfl rfl [.tmp 4] rfl ?_
  conv => whnf
  rotate_left
  refine LoopG.rounds (α := Unit) T_ok mix [0, 1, 5] [] (fun _ => [(0, .ro zDf []), (1, .int .i64 k), (5, .int .i64 0)]) (fun _ => []) (fun _ => True) (fun _ => 0) ?_ ?_
  · conv => whnf
    exact head_s () trivial rfl rfl
  · intro _ _ _ _
    conv => whnf
    (refine br_f rfl ?_; conv => whnf)
    (refine rq_s (by (rfl)) ?_; conv => whnf)
    (refine sh_s ?_; (rfl))
def fthV (m : Mch) : AV := .agg [roW m.ws, roI m.co, roI m.da.st, roI m.da.bk, roI m.da.ce, .int .i64 m.da.he, .int .i64 m.da.ba, .str m.da.ou, roB m.ho.gr, roI m.ho.st, roI m.ho.q, .int .i64 m.ho.tk, roD m.ho.ds, roC m.ca, .int .i64 m.ip, .int .i64 m.fu, .ro zDf [], .bool false, .str [], roT []]
def fthO (m : Mch) : AV := .agg [ownW m.ws, ownI m.co, ownI m.da.st, ownI m.da.bk, ownI m.da.ce, .int .i64 m.da.he, .int .i64 m.da.ba, .str m.da.ou, ownB m.ho.gr, ownI m.ho.st, ownI m.ho.q, .int .i64 m.ho.tk, ownD m.ho.ds, ownC m.ca, .int .i64 m.ip, .int .i64 m.fu, .own 0 zDf [], .bool false, .str [], ownT []]
theorem eqF (m : Mch) : Con Tryd.prog 34 [fthV m, fthV m] (undefs [fthV m, fthV m]) (.bool true) := by
  have e3 : Con Tryd.prog 83 [roT [], roT []] (undefs [roT [], roT []]) (.bool true) := by simpa using c83 [] []
  refine Con.ev 33 T_ok mix Tryd.func34 rfl rfl rfl rfl [.tmp 4] rfl ?_
  conv => whnf
  iterate 36 (refine rq_s (by (rfl)) ?_; conv => whnf)
  (refine lend_s ?_; conv => whnf)
  iterate 20 (refine rows_s (by (rfl)) ?_; conv => whnf)
  (refine call_s (eqM m ..) ?_; conv => whnf)
  (refine br_f rfl ?_; conv => whnf)
  iterate 4 (refine rq_s (by (rfl)) ?_; conv => whnf)
  (refine lend_s ?_; conv => whnf)
  iterate 2 (refine rows_s (by (rfl)) ?_; conv => whnf)
  (refine call_s (eqDf ..) ?_; conv => whnf)
  (refine br_f rfl ?_; conv => whnf)
  iterate 2 (refine rq_s (by (rfl)) ?_; conv => whnf)
  (refine br_f rfl ?_; conv => whnf)
  iterate 2 (refine rq_s (by (rfl)) ?_; conv => whnf)
  (refine br_f rfl ?_; conv => whnf)
  iterate 4 (refine rq_s (by (rfl)) ?_; conv => whnf)
  (refine lend_s ?_; conv => whnf)
  iterate 2 (refine rows_s (by (rfl)) ?_; conv => whnf)
  (refine call_s (e3 ..) ?_; conv => whnf)
  (refine br_f rfl ?_; conv => whnf)
  (refine rq_s (by (rfl)) ?_; conv => whnf)
  (refine sh_s ?_; (rfl))
theorem heldF (m : Mch) (k : Int) (h1 : 0 ≤ k) (h2 : k + lenM m ≤ 100000000) (hd : 0 ≤ lenData m.da) (hh : 0 ≤ lenHost m.ho) : Con Tryd.prog 36 [fthV (mkM m k), .int .i64 k] (undefs [fthV (mkM m k), .int .i64 k]) (.int .i64 (k + lenM m)) := by
  have hl : 0 ≤ lenM m := by unfold lenM; omega
  have e1 := heldM m k h1 h2 hd hh
  have e3 := c89 [] (k + lenM m) (by omega) (by simp; omega)
  rw [show heldS mksT 2 [] (k + lenM m) = k + lenM m by simpa [mkS] using heldS_mk (mks := mksT) (c := 2) (n := 0) (k := k + lenM m)] at e3
  refine Con.ev 24 T_ok mix Tryd.func36 rfl rfl rfl rfl [.tmp 4] rfl ?_
  conv => whnf
  iterate 19 (refine rq_s (by (rfl)) ?_; conv => whnf)
  (refine lend_s ?_; conv => whnf)
  iterate 10 (refine rows_s (by (rfl)) ?_; conv => whnf)
  (refine call_s (e1 ..) ?_; conv => whnf)
  (refine fac_s (fun hf => ?_); conv => whnf)
  (refine br_s (fun hb => ?_) (fun hb => ?_) <;> (try simp only [beq_iff_eq, bne_iff_ne, ne_eq, decide_eq_true_eq, decide_eq_false_iff_not, Int.not_lt, Int.not_le, Bool.false_eq_true, if_false, if_true, beq_eq_false_iff_ne, bne_eq_false_iff_eq, Bool.not_eq_true', Bool.not_eq_false', Int.ofNat_lt, Int.ofNat_le, Int.ofNat_inj, List.length_map, List.length_nil, List.length_cons] at hb) <;> conv => whnf)
  (refine rq_s (by (rfl)) ?_; conv => whnf)
  (refine sh_s ?_; (first | rfl | (exfalso; omega)))
  iterate 3 (refine rq_s (by (rfl)) ?_; conv => whnf)
  (refine lend_s ?_; conv => whnf)
  (refine rows_s (by (rfl)) ?_; conv => whnf)
  (refine call_s (heldDf ..) ?_; conv => whnf)
  (refine fac_s (fun hf => ?_); conv => whnf)
  (refine br_s (fun hb => ?_) (fun hb => ?_) <;> (try simp only [beq_iff_eq, bne_iff_ne, ne_eq, decide_eq_true_eq, decide_eq_false_iff_not, Int.not_lt, Int.not_le, Bool.false_eq_true, if_false, if_true, beq_eq_false_iff_ne, bne_eq_false_iff_eq, Bool.not_eq_true', Bool.not_eq_false', Int.ofNat_lt, Int.ofNat_le, Int.ofNat_inj, List.length_map, List.length_nil, List.length_cons] at hb) <;> conv => whnf)
  (refine rq_s (by (rfl)) ?_; conv => whnf)
  (refine sh_s ?_; (first | rfl | (exfalso; omega)))
  iterate 3 (refine rq_s (by (rfl)) ?_; conv => whnf)
  (refine lend_s ?_; conv => whnf)
  (refine rows_s (by (rfl)) ?_; conv => whnf)
  (refine call_s (e3 ..) ?_; conv => whnf)
  (refine fac_s (fun hf => ?_); conv => whnf)
  (refine br_s (fun hb => ?_) (fun hb => ?_) <;> (try simp only [beq_iff_eq, bne_iff_ne, ne_eq, decide_eq_true_eq, decide_eq_false_iff_not, Int.not_lt, Int.not_le, Bool.false_eq_true, if_false, if_true, beq_eq_false_iff_ne, bne_eq_false_iff_eq, Bool.not_eq_true', Bool.not_eq_false', Int.ofNat_lt, Int.ofNat_le, Int.ofNat_inj, List.length_map, List.length_nil, List.length_cons] at hb) <;> conv => whnf)
  (refine rq_s (by (rfl)) ?_; conv => whnf)
  (refine sh_s ?_; (first | rfl | (exfalso; omega)))
  (refine rq_s (by (rfl)) ?_; conv => whnf)
  (refine sh_s ?_; (first | rfl | (exfalso; omega)))

theorem markF (m : Mch) (k : Int) (h1 : 0 ≤ k) (h2 : k + lenM m ≤ 100000000) (hd : 0 ≤ lenData m.da) (hh : 0 ≤ lenHost m.ho) : Con Tryd.prog 35 [fthO m, .int .i64 k]
    [.agg [ownW (mkM m k).ws, ownI (mkM m k).co, ownI (mkM m k).da.st, ownI (mkM m k).da.bk, ownI (mkM m k).da.ce, .undef, .undef, .undef, ownB (mkM m k).ho.gr, ownI (mkM m k).ho.st, ownI (mkM m k).ho.q, .undef, ownD (mkM m k).ho.ds, ownC (mkM m k).ca, .undef, .undef, .own 0 zDf [], .undef, .undef, ownT []], .undef] (.int .i64 (k + lenM m)) := by
  have hl : 0 ≤ lenM m := by unfold lenM; omega
  refine Con.evH 18 [some 500000, some 500001, some 500002, some 500003, some 500004, none, none, none, some 500008, some 500009, some 500010, none, some 500012, some 500013, none, none, some 500016, none, none, some 500019] [500000, 500001, 500002, 500003, 500004, 500008, 500009, 500010, 500012, 500013, 500016, 500019] rfl rfl T_ok mix Tryd.func35 rfl rfl rfl rfl [.tmp 4] rfl ?_
  conv => whnf
  iterate 2 (refine rq_s (by (rfl)) ?_; conv => whnf)
  (refine rq_s (by ((simp only [decide_eq_true_eq, List.length_map, mkS_len, mkData, mkHost, mkM, ownI, ownB, ownD, ownW, ownT, ownC, ownS]; done))) ?_; conv => whnf)
  (refine rq_s (by (rfl)) ?_; conv => whnf)
  (refine rq_s (by ((simp only [decide_eq_true_eq, List.length_map, mkS_len, mkData, mkHost, mkM, ownI, ownB, ownD, ownW, ownT, ownC, ownS]; done))) ?_; conv => whnf)
  (refine rq_s (by (rfl)) ?_; conv => whnf)
  (refine rq_s (by ((simp only [decide_eq_true_eq, List.length_map, mkS_len, mkData, mkHost, mkM, ownI, ownB, ownD, ownW, ownT, ownC, ownS]; done))) ?_; conv => whnf)
  (refine rq_s (by (rfl)) ?_; conv => whnf)
  (refine rq_s (by ((simp only [decide_eq_true_eq, List.length_map, mkS_len, mkData, mkHost, mkM, ownI, ownB, ownD, ownW, ownT, ownC, ownS]; done))) ?_; conv => whnf)
  (refine rq_s (by (rfl)) ?_; conv => whnf)
  (refine rq_s (by ((simp only [decide_eq_true_eq, List.length_map, mkS_len, mkData, mkHost, mkM, ownI, ownB, ownD, ownW, ownT, ownC, ownS]; done))) ?_; conv => whnf)
  iterate 4 (refine rq_s (by (rfl)) ?_; conv => whnf)
  (refine rq_s (by ((simp only [decide_eq_true_eq, List.length_map, mkS_len, mkData, mkHost, mkM, ownI, ownB, ownD, ownW, ownT, ownC, ownS]; done))) ?_; conv => whnf)
  (refine rq_s (by (rfl)) ?_; conv => whnf)
  (refine rq_s (by ((simp only [decide_eq_true_eq, List.length_map, mkS_len, mkData, mkHost, mkM, ownI, ownB, ownD, ownW, ownT, ownC, ownS]; done))) ?_; conv => whnf)
  (refine rq_s (by (rfl)) ?_; conv => whnf)
  (refine rq_s (by ((simp only [decide_eq_true_eq, List.length_map, mkS_len, mkData, mkHost, mkM, ownI, ownB, ownD, ownW, ownT, ownC, ownS]; done))) ?_; conv => whnf)
  iterate 2 (refine rq_s (by (rfl)) ?_; conv => whnf)
  (refine rq_s (by ((simp only [decide_eq_true_eq, List.length_map, mkS_len, mkData, mkHost, mkM, ownI, ownB, ownD, ownW, ownT, ownC, ownS]; done))) ?_; conv => whnf)
  (refine rq_s (by (rfl)) ?_; conv => whnf)
  (refine rq_s (by ((simp only [decide_eq_true_eq, List.length_map, mkS_len, mkData, mkHost, mkM, ownI, ownB, ownD, ownW, ownT, ownC, ownS]; done))) ?_; conv => whnf)
  iterate 4 (refine rq_s (by (rfl)) ?_; conv => whnf)
  (refine handA_s 84 ?_; conv => whnf)
  (refine rq_s (by (rfl)) ?_; conv => whnf)
  iterate 10 (refine rq_s (by ((simp only [decide_eq_true_eq, List.length_map, mkS_len, mkData, mkHost, mkM, ownI, ownB, ownD, ownW, ownT, ownC, ownS]; done))) ?_; conv => whnf)
  iterate 10 (refine rows_s (by (rfl)) ?_; conv => whnf)
  (refine handAc_s (f := 84) (markM m _ (by omega) (by omega) hd hh) (by simp [szOk, List.length_map, mkS_len, mkData, mkHost, mkM, ownI, ownB, ownD, ownW, ownT, ownC, ownS]) ?_; conv => whnf)
  (refine fac_s (fun hf => ?_); conv => whnf)
  (refine rq_s (by (rfl)) ?_; conv => whnf)
  (refine rq_s (by ((simp only [decide_eq_true_eq, List.length_map, mkS_len, mkData, mkHost, mkM, ownI, ownB, ownD, ownW, ownT, ownC, ownS]; done))) ?_; conv => whnf)
  iterate 2 (refine rq_s (by (rfl)) ?_; conv => whnf)
  (refine hand_s 85 0 ?_; conv => whnf)
  (refine rq_s (by ((simp only [decide_eq_true_eq, List.length_map, mkS_len, mkData, mkHost, mkM, ownI, ownB, ownD, ownW, ownT, ownC, ownS]; done))) ?_; conv => whnf)
  iterate 2 (refine rq_s (by (rfl)) ?_; conv => whnf)
  (refine rows_s (by (rfl)) ?_; conv => whnf)
  (refine handc_s (f := 85) (j := 0) (markDf _) (by simp [List.length_map, mkS_len, mkData, mkHost, mkM, ownI, ownB, ownD, ownW, ownT, ownC, ownS]) (by rfl) (by rfl) ?_; conv => whnf)
  (refine fac_s (fun hf => ?_); conv => whnf)
  (refine rq_s (by (rfl)) ?_; conv => whnf)
  (refine rq_s (by ((simp only [decide_eq_true_eq, List.length_map, mkS_len, mkData, mkHost, mkM, ownI, ownB, ownD, ownW, ownT, ownC, ownS]; done))) ?_; conv => whnf)
  iterate 2 (refine rq_s (by (rfl)) ?_; conv => whnf)
  (refine hand_s 86 0 ?_; conv => whnf)
  (refine rq_s (by ((simp only [decide_eq_true_eq, List.length_map, mkS_len, mkData, mkHost, mkM, ownI, ownB, ownD, ownW, ownT, ownC, ownS]; done))) ?_; conv => whnf)
  iterate 2 (refine rq_s (by (rfl)) ?_; conv => whnf)
  (refine rows_s (by (rfl)) ?_; conv => whnf)
  (refine handc_s (f := 86) (j := 0) (c86 [] _ (by omega) (by simp; omega)) (by simp [List.length_map, mkS_len, mkData, mkHost, mkM, ownI, ownB, ownD, ownW, ownT, ownC, ownS]) (by rfl) (by rfl) ?_; conv => whnf)
  (refine fac_s (fun hf => ?_); conv => whnf)
  (refine rq_s (by (rfl)) ?_; conv => whnf)
  iterate 10 (focus (refine aft_s (by (simp [AV.rowsN, List.length_map, mkS_len, mkData, mkHost, mkM, ownI, ownB, ownD, ownW, ownT, ownC, ownS]; done)) rfl ?_; conv => whnf))
  iterate 2 (refine aft_s (by rfl) rfl ?_; conv => whnf)
  (focus (refine sh_s ?_; (first | rfl | (simp [mkS]; done))))
end N3
