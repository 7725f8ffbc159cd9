import Derived.Test.YtdbjklhadnnbdaaDoorNfB
import Derived.Test.YtdbjklhadnnbdaaDoorRows
import Derived.Test.YtdbjklhadnnbdaaDoorTie
import Derived.Test.YtdbjklhadnnbdaaDoorCards
import Derived.SevenTiedAt
import Derived.LaidMore
import Derived.LaidLaws
import Derived.Lay
import Derived.Test.YtdbjklhadnnbdaaDoorAbs8
/- A new Forth, by both; the law. -/
set_option linter.unusedVariables false
set_option linter.unusedSimpArgs false
set_option maxRecDepth 100000
open Go Go.Abs Go.Proofs V1 H1 K1 K2 K3 N2 N3
namespace N4


def m0 : Mch := ⟨kernelW, [], ⟨[], [], List.replicate 32 0, 0, 10, []⟩, ⟨List.replicate 4 false, List.replicate 8 0, [], 0, []⟩, [], 0, 0⟩
def daE : AV := .agg [.emp, .emp, ownI (List.replicate 32 0), .int .i64 0, .int .i64 10, .str []]
def hoE : AV := .agg [ownB (List.replicate 4 false), ownI (List.replicate 8 0), .emp, .int .i64 0, .emp]
theorem c163 : Con Tryd.prog 163 [] (undefs []) daE := by
  refine Con.ev 5 T_ok mix Tryd.func163 rfl rfl rfl rfl [.cell 0 67] rfl ?_
  conv => whnf
  iterate 9 (refine rq_s (by (rfl)) ?_; conv => whnf)
  (refine rq_s (by ((simp only [decide_eq_true_eq, List.length_map, mkS_len, mkData, mkHost, mkM, ownI, ownB, ownD, ownW, ownT, ownC, ownS]; done))) ?_; conv => whnf)
  iterate 4 (refine rq_s (by (rfl)) ?_; conv => whnf)
  (refine rows_s (by ((refine sub_all ?_; simp [List.length_map, mkS_len, mkData, mkHost, mkM, ownI, ownB, ownD, ownW, ownT, ownC, ownS]; done))) ?_; conv => whnf)
  (refine sh_s ?_; (rfl))
theorem c164 : Con Tryd.prog 164 [] (undefs []) hoE := by
  refine Con.ev 6 T_ok mix Tryd.func164 rfl rfl rfl rfl [.cell 0 42] rfl ?_
  conv => whnf
  (refine ChkS.mk (by kernel_rfl) ?_; conv => whnf)
  iterate 3 (refine rq_s (by (rfl)) ?_; conv => whnf)
  (refine ChkS.mk (by kernel_rfl) ?_; conv => whnf)
  iterate 3 (refine rq_s (by (rfl)) ?_; conv => whnf)
  (refine ChkS.mk (by kernel_rfl) ?_; conv => whnf)
  (refine rq_s (by (rfl)) ?_; conv => whnf)
  (refine ChkS.mk (by kernel_rfl) ?_; conv => whnf)
  (refine rq_s (by (rfl)) ?_; conv => whnf)
  (refine ChkS.mk (by kernel_rfl) ?_; conv => whnf)
  (refine rq_s (by (rfl)) ?_; conv => whnf)
  iterate 2 (refine ChkS.mk (by kernel_rfl) ?_; conv => whnf)
  (refine rq_s (by (rfl)) ?_; conv => whnf)
  (refine rq_s (by ((simp only [decide_eq_true_eq, List.length_map, mkS_len, mkData, mkHost, mkM, ownI, ownB, ownD, ownW, ownT, ownC, ownS]; done))) ?_; conv => whnf)
  (refine rq_s (by (rfl)) ?_; conv => whnf)
  (refine rq_s (by ((simp only [decide_eq_true_eq, List.length_map, mkS_len, mkData, mkHost, mkM, ownI, ownB, ownD, ownW, ownT, ownC, ownS]; done))) ?_; conv => whnf)
  iterate 4 (refine rq_s (by (rfl)) ?_; conv => whnf)
  iterate 2 (refine rows_s (by ((refine sub_all ?_; simp [List.length_map, mkS_len, mkData, mkHost, mkM, ownI, ownB, ownD, ownW, ownT, ownC, ownS]; done))) ?_; conv => whnf)
  (refine sh_s ?_; (rfl))
theorem c130 : Con Tryd.prog 130 [] (undefs []) daE := by
  refine Con.ev 3 T_ok mix Tryd.func130 rfl rfl rfl rfl [.cell 0 67] rfl ?_
  conv => whnf
  iterate 7 (refine rq_s (by (rfl)) ?_; conv => whnf)
  (refine rq_s (by ((simp only [decide_eq_true_eq, List.length_map, mkS_len, mkData, mkHost, mkM, ownI, ownB, ownD, ownW, ownT, ownC, ownS]; done))) ?_; conv => whnf)
  iterate 4 (refine rq_s (by (rfl)) ?_; conv => whnf)
  (refine rows_s (by ((refine sub_all ?_; simp [List.length_map, mkS_len, mkData, mkHost, mkM, ownI, ownB, ownD, ownW, ownT, ownC, ownS]; done))) ?_; conv => whnf)
  (refine sh_s ?_; (rfl))
theorem c131 : Con Tryd.prog 131 [] (undefs []) hoE := by
  refine Con.ev 4 T_ok mix Tryd.func131 rfl rfl rfl rfl [.cell 0 42] rfl ?_
  conv => whnf
  (refine ChkS.mk (by kernel_rfl) ?_; conv => whnf)
  iterate 3 (refine rq_s (by (rfl)) ?_; conv => whnf)
  (refine ChkS.mk (by kernel_rfl) ?_; conv => whnf)
  iterate 3 (refine rq_s (by (rfl)) ?_; conv => whnf)
  (refine ChkS.mk (by kernel_rfl) ?_; conv => whnf)
  (refine rq_s (by (rfl)) ?_; conv => whnf)
  iterate 2 (refine ChkS.mk (by kernel_rfl) ?_; conv => whnf)
  (refine rq_s (by (rfl)) ?_; conv => whnf)
  (refine rq_s (by ((simp only [decide_eq_true_eq, List.length_map, mkS_len, mkData, mkHost, mkM, ownI, ownB, ownD, ownW, ownT, ownC, ownS]; done))) ?_; conv => whnf)
  (refine rq_s (by (rfl)) ?_; conv => whnf)
  (refine rq_s (by ((simp only [decide_eq_true_eq, List.length_map, mkS_len, mkData, mkHost, mkM, ownI, ownB, ownD, ownW, ownT, ownC, ownS]; done))) ?_; conv => whnf)
  iterate 4 (refine rq_s (by (rfl)) ?_; conv => whnf)
  iterate 2 (refine rows_s (by ((refine sub_all ?_; simp [List.length_map, mkS_len, mkData, mkHost, mkM, ownI, ownB, ownD, ownW, ownT, ownC, ownS]; done))) ?_; conv => whnf)
  (refine sh_s ?_; (rfl))
def mcE : AV := .agg [ownW kernelW, .emp, .emp, .emp, ownI (List.replicate 32 0), .int .i64 0, .int .i64 10, .str [], ownB (List.replicate 4 false), ownI (List.replicate 8 0), .emp, .int .i64 0, .emp, .emp, .int .i64 0, .int .i64 0]
theorem c128 : Con Tryd.prog 128 [] (undefs []) mcE := by
  refine Con.ev 7 T_ok mix Tryd.func128 rfl rfl rfl rfl [.cell 0 70] rfl ?_
  conv => whnf
  (refine lend_s ?_; conv => whnf)
  (refine call_s (c151 ..) ?_; conv => whnf)
  (refine rq_s (by (rfl)) ?_; conv => whnf)
  (refine lend_s ?_; conv => whnf)
  (refine call_s (c163 ..) ?_; conv => whnf)
  (refine lend_s ?_; conv => whnf)
  (refine call_s (c164 ..) ?_; conv => whnf)
  iterate 2 (refine rq_s (by (rfl)) ?_; conv => whnf)
  iterate 8 (refine fac_s (fun hf => ?_); conv => whnf)
  (refine rq_s (by (rfl)) ?_; conv => whnf)
  (refine rq_s (by ((simp only [decide_eq_true_eq, List.length_map, mkS_len, mkData, mkHost, mkM, ownI, ownB, ownD, ownW, ownT, ownC, ownS]; done))) ?_; conv => whnf)
  iterate 4 (refine rq_s (by (rfl)) ?_; conv => whnf)
  (refine rq_s (by ((simp only [decide_eq_true_eq, List.length_map, mkS_len, mkData, mkHost, mkM, ownI, ownB, ownD, ownW, ownT, ownC, ownS]; done))) ?_; conv => whnf)
  iterate 4 (refine rq_s (by (rfl)) ?_; conv => whnf)
  (refine rq_s (by ((simp only [decide_eq_true_eq, List.length_map, mkS_len, mkData, mkHost, mkM, ownI, ownB, ownD, ownW, ownT, ownC, ownS]; done))) ?_; conv => whnf)
  (refine rq_s (by (rfl)) ?_; conv => whnf)
  (refine rq_s (by ((simp only [decide_eq_true_eq, List.length_map, mkS_len, mkData, mkHost, mkM, ownI, ownB, ownD, ownW, ownT, ownC, ownS]; done))) ?_; conv => whnf)
  iterate 7 (refine rq_s (by (rfl)) ?_; conv => whnf)
  iterate 4 (refine rows_s (by ((refine sub_all ?_; simp [List.length_map, mkS_len, mkData, mkHost, mkM, ownI, ownB, ownD, ownW, ownT, ownC, ownS]; done))) ?_; conv => whnf)
  (refine sh_s ?_; (rfl))
theorem c80 : Con Tryd.prog 80 [] (undefs []) mcE := by
  refine Con.ev 5 T_ok mix Tryd.func80 rfl rfl rfl rfl [.cell 0 70] rfl ?_
  conv => whnf
  (refine lend_s ?_; conv => whnf)
  (refine call_s (c129 ..) ?_; conv => whnf)
  (refine lend_s ?_; conv => whnf)
  (refine call_s (c130 ..) ?_; conv => whnf)
  (refine lend_s ?_; conv => whnf)
  (refine call_s (c131 ..) ?_; conv => whnf)
  (refine rq_s (by (rfl)) ?_; conv => whnf)
  iterate 8 (refine fac_s (fun hf => ?_); conv => whnf)
  (refine rq_s (by (rfl)) ?_; conv => whnf)
  (refine rq_s (by ((simp only [decide_eq_true_eq, List.length_map, mkS_len, mkData, mkHost, mkM, ownI, ownB, ownD, ownW, ownT, ownC, ownS]; done))) ?_; conv => whnf)
  iterate 4 (refine rq_s (by (rfl)) ?_; conv => whnf)
  (refine rq_s (by ((simp only [decide_eq_true_eq, List.length_map, mkS_len, mkData, mkHost, mkM, ownI, ownB, ownD, ownW, ownT, ownC, ownS]; done))) ?_; conv => whnf)
  iterate 4 (refine rq_s (by (rfl)) ?_; conv => whnf)
  (refine rq_s (by ((simp only [decide_eq_true_eq, List.length_map, mkS_len, mkData, mkHost, mkM, ownI, ownB, ownD, ownW, ownT, ownC, ownS]; done))) ?_; conv => whnf)
  (refine rq_s (by (rfl)) ?_; conv => whnf)
  (refine rq_s (by ((simp only [decide_eq_true_eq, List.length_map, mkS_len, mkData, mkHost, mkM, ownI, ownB, ownD, ownW, ownT, ownC, ownS]; done))) ?_; conv => whnf)
  iterate 7 (refine rq_s (by (rfl)) ?_; conv => whnf)
  iterate 4 (refine rows_s (by ((refine sub_all ?_; simp [List.length_map, mkS_len, mkData, mkHost, mkM, ownI, ownB, ownD, ownW, ownT, ownC, ownS]; done))) ?_; conv => whnf)
  (refine sh_s ?_; (rfl))
def ftE : AV := .agg [ownW kernelW, .emp, .emp, .emp, ownI (List.replicate 32 0), .int .i64 0, .int .i64 10, .str [], ownB (List.replicate 4 false), ownI (List.replicate 8 0), .emp, .int .i64 0, .emp, .emp, .int .i64 0, .int .i64 0, .emp, .bool false, .str [], .emp]
theorem ft_sh : Sh ftE (fthO m0) := Sh.agg ⟨Sh.refl _, Sh.emp_own _ _, Sh.emp_own _ _, Sh.emp_own _ _, Sh.refl _, Sh.refl _, Sh.refl _, Sh.refl _, Sh.refl _, Sh.refl _, Sh.emp_own _ _, Sh.refl _, Sh.emp_own _ _, Sh.emp_own _ _, Sh.refl _, Sh.refl _, Sh.emp_own _ _, Sh.refl _, Sh.refl _, Sh.emp_own _ _, trivial⟩
theorem l10New : Con Tryd.prog 79 [] (undefs []) ftE := by
  refine Con.ev 5 T_ok mix Tryd.func79 rfl rfl rfl rfl [.cell 0 74] rfl ?_
  conv => whnf
  (refine lend_s ?_; conv => whnf)
  (refine call_s (c128 ..) ?_; conv => whnf)
  iterate 3 (refine rq_s (by (rfl)) ?_; conv => whnf)
  iterate 10 (refine fac_s (fun hf => ?_); conv => whnf)
  (refine rq_s (by (rfl)) ?_; conv => whnf)
  (refine rq_s (by ((simp only [decide_eq_true_eq, List.length_map, mkS_len, mkData, mkHost, mkM, ownI, ownB, ownD, ownW, ownT, ownC, ownS]; done))) ?_; conv => whnf)
  iterate 4 (refine rq_s (by (rfl)) ?_; conv => whnf)
  (refine rq_s (by ((simp only [decide_eq_true_eq, List.length_map, mkS_len, mkData, mkHost, mkM, ownI, ownB, ownD, ownW, ownT, ownC, ownS]; done))) ?_; conv => whnf)
  iterate 4 (refine rq_s (by (rfl)) ?_; conv => whnf)
  (refine rq_s (by ((simp only [decide_eq_true_eq, List.length_map, mkS_len, mkData, mkHost, mkM, ownI, ownB, ownD, ownW, ownT, ownC, ownS]; done))) ?_; conv => whnf)
  (refine rq_s (by (rfl)) ?_; conv => whnf)
  (refine rq_s (by ((simp only [decide_eq_true_eq, List.length_map, mkS_len, mkData, mkHost, mkM, ownI, ownB, ownD, ownW, ownT, ownC, ownS]; done))) ?_; conv => whnf)
  iterate 11 (refine rq_s (by (rfl)) ?_; conv => whnf)
  iterate 4 (refine rows_s (by ((refine sub_all ?_; simp [List.length_map, mkS_len, mkData, mkHost, mkM, ownI, ownB, ownD, ownW, ownT, ownC, ownS]; done))) ?_; conv => whnf)
  (refine sh_s ?_; (rfl))
theorem c32 : Con Tryd.prog 32 [] (undefs []) (fthO m0) := by
  refine Con.sh (res := ftE) ?_ ft_sh
  refine Con.ev 2 T_ok mix Tryd.func32 rfl rfl rfl rfl [.cell 0 74] rfl ?_
  conv => whnf
  (refine lend_s ?_; conv => whnf)
  (refine call_s (l10New ..) ?_; conv => whnf)
  iterate 11 (refine fac_s (fun hf => ?_); conv => whnf)
  (refine rq_s (by (rfl)) ?_; conv => whnf)
  (refine rq_s (by ((simp only [decide_eq_true_eq, List.length_map, mkS_len, mkData, mkHost, mkM, ownI, ownB, ownD, ownW, ownT, ownC, ownS]; done))) ?_; conv => whnf)
  iterate 4 (refine rq_s (by (rfl)) ?_; conv => whnf)
  (refine rq_s (by ((simp only [decide_eq_true_eq, List.length_map, mkS_len, mkData, mkHost, mkM, ownI, ownB, ownD, ownW, ownT, ownC, ownS]; done))) ?_; conv => whnf)
  iterate 4 (refine rq_s (by (rfl)) ?_; conv => whnf)
  (refine rq_s (by ((simp only [decide_eq_true_eq, List.length_map, mkS_len, mkData, mkHost, mkM, ownI, ownB, ownD, ownW, ownT, ownC, ownS]; done))) ?_; conv => whnf)
  (refine rq_s (by (rfl)) ?_; conv => whnf)
  (refine rq_s (by ((simp only [decide_eq_true_eq, List.length_map, mkS_len, mkData, mkHost, mkM, ownI, ownB, ownD, ownW, ownT, ownC, ownS]; done))) ?_; conv => whnf)
  iterate 11 (refine rq_s (by (rfl)) ?_; conv => whnf)
  iterate 4 (refine rows_s (by ((refine sub_all ?_; simp [List.length_map, mkS_len, mkData, mkHost, mkM, ownI, ownB, ownD, ownW, ownT, ownC, ownS]; done))) ?_; conv => whnf)
  (refine sh_s ?_; (rfl))
theorem c33 : Con Tryd.prog 33 [] (undefs []) (fthO m0) := by
  refine Con.sh (res := ftE) ?_ ft_sh
  refine Con.ev 3 T_ok mix Tryd.func33 rfl rfl rfl rfl [.cell 0 74] rfl ?_
  conv => whnf
  (refine lend_s ?_; conv => whnf)
  (refine call_s (c80 ..) ?_; conv => whnf)
  (refine rq_s (by (rfl)) ?_; conv => whnf)
  iterate 10 (refine fac_s (fun hf => ?_); conv => whnf)
  (refine rq_s (by (rfl)) ?_; conv => whnf)
  (refine rq_s (by ((simp only [decide_eq_true_eq, List.length_map, mkS_len, mkData, mkHost, mkM, ownI, ownB, ownD, ownW, ownT, ownC, ownS]; done))) ?_; conv => whnf)
  iterate 4 (refine rq_s (by (rfl)) ?_; conv => whnf)
  (refine rq_s (by ((simp only [decide_eq_true_eq, List.length_map, mkS_len, mkData, mkHost, mkM, ownI, ownB, ownD, ownW, ownT, ownC, ownS]; done))) ?_; conv => whnf)
  iterate 4 (refine rq_s (by (rfl)) ?_; conv => whnf)
  (refine rq_s (by ((simp only [decide_eq_true_eq, List.length_map, mkS_len, mkData, mkHost, mkM, ownI, ownB, ownD, ownW, ownT, ownC, ownS]; done))) ?_; conv => whnf)
  (refine rq_s (by (rfl)) ?_; conv => whnf)
  (refine rq_s (by ((simp only [decide_eq_true_eq, List.length_map, mkS_len, mkData, mkHost, mkM, ownI, ownB, ownD, ownW, ownT, ownC, ownS]; done))) ?_; conv => whnf)
  iterate 11 (refine rq_s (by (rfl)) ?_; conv => whnf)
  iterate 4 (refine rows_s (by ((refine sub_all ?_; simp [List.length_map, mkS_len, mkData, mkHost, mkM, ownI, ownB, ownD, ownW, ownT, ownC, ownS]; done))) ?_; conv => whnf)
  (refine sh_s ?_; (rfl))
theorem d0 : lenData m0.da = 32 := by simp [lenData, m0]
theorem g0 : lenHost m0.ho = 12 := by simp [lenHost, m0]
theorem l0 : lenM m0 = 293 := by
  rw [lenM, d0, g0]
  simp [m0, kernelW_len]
set_option maxHeartbeats 40000000 in
theorem law : Con Tryd.prog 7 [] (undefs []) (.bool true) := by
  have hd : 0 ≤ lenData m0.da := by rw [d0]; omega
  have hh : 0 ≤ lenHost m0.ho := by rw [g0]; omega
  have k1 := c32
  have k2 := c33
  have k3 := eqF m0
  have k4 := markF m0 1 (by omega) (by rw [l0]; omega) hd hh
  have k5 := heldF m0 1 (by omega) (by rw [l0]; omega) hd hh
  rw [l0] at k4 k5
  generalize m0 = m at *
  refine Con.ev 36 T_ok mix Tryd.func7 rfl rfl rfl rfl [.tmp 0] rfl ?_
  conv => whnf
  (refine lend_s ?_; conv => whnf)
  (refine call_s (k1 ..) ?_; conv => whnf)
  iterate 19 (refine fac_s (fun hf => ?_); conv => whnf)
  (refine lend_s ?_; conv => whnf)
  (refine call_s (k2 ..) ?_; conv => whnf)
  iterate 19 (refine fac_s (fun hf => ?_); conv => whnf)
  (refine rq_s (by ((simp only [decide_eq_true_eq, List.length_map, mkS_len, mkData, mkHost, mkM, ownI, ownB, ownD, ownW, ownT, ownC, ownS]; done))) ?_; conv => whnf)
  (refine rq_s (by (rfl)) ?_; conv => whnf)
  (refine rq_s (by ((simp only [decide_eq_true_eq, List.length_map, mkS_len, mkData, mkHost, mkM, ownI, ownB, ownD, ownW, ownT, ownC, ownS]; done))) ?_; conv => whnf)
  (refine rq_s (by (rfl)) ?_; conv => whnf)
  (refine rq_s (by ((simp only [decide_eq_true_eq, List.length_map, mkS_len, mkData, mkHost, mkM, ownI, ownB, ownD, ownW, ownT, ownC, ownS]; done))) ?_; conv => whnf)
  (refine rq_s (by (rfl)) ?_; conv => whnf)
  (refine rq_s (by ((simp only [decide_eq_true_eq, List.length_map, mkS_len, mkData, mkHost, mkM, ownI, ownB, ownD, ownW, ownT, ownC, ownS]; done))) ?_; conv => whnf)
  (refine rq_s (by (rfl)) ?_; conv => whnf)
  (refine rq_s (by ((simp only [decide_eq_true_eq, List.length_map, mkS_len, mkData, mkHost, mkM, ownI, ownB, ownD, ownW, ownT, ownC, ownS]; done))) ?_; conv => whnf)
  iterate 4 (refine rq_s (by (rfl)) ?_; conv => whnf)
  (refine rq_s (by ((simp only [decide_eq_true_eq, List.length_map, mkS_len, mkData, mkHost, mkM, ownI, ownB, ownD, ownW, ownT, ownC, ownS]; done))) ?_; conv => whnf)
  (refine rq_s (by (rfl)) ?_; conv => whnf)
  (refine rq_s (by ((simp only [decide_eq_true_eq, List.length_map, mkS_len, mkData, mkHost, mkM, ownI, ownB, ownD, ownW, ownT, ownC, ownS]; done))) ?_; conv => whnf)
  (refine rq_s (by (rfl)) ?_; conv => whnf)
  (refine rq_s (by ((simp only [decide_eq_true_eq, List.length_map, mkS_len, mkData, mkHost, mkM, ownI, ownB, ownD, ownW, ownT, ownC, ownS]; done))) ?_; conv => whnf)
  iterate 2 (refine rq_s (by (rfl)) ?_; conv => whnf)
  (refine rq_s (by ((simp only [decide_eq_true_eq, List.length_map, mkS_len, mkData, mkHost, mkM, ownI, ownB, ownD, ownW, ownT, ownC, ownS]; done))) ?_; conv => whnf)
  (refine rq_s (by (rfl)) ?_; conv => whnf)
  (refine rq_s (by ((simp only [decide_eq_true_eq, List.length_map, mkS_len, mkData, mkHost, mkM, ownI, ownB, ownD, ownW, ownT, ownC, ownS]; done))) ?_; conv => whnf)
  iterate 3 (refine rq_s (by (rfl)) ?_; conv => whnf)
  (refine rq_s (by ((simp only [decide_eq_true_eq, List.length_map, mkS_len, mkData, mkHost, mkM, ownI, ownB, ownD, ownW, ownT, ownC, ownS]; done))) ?_; conv => whnf)
  iterate 3 (refine rq_s (by (rfl)) ?_; conv => whnf)
  (refine rq_s (by ((simp only [decide_eq_true_eq, List.length_map, mkS_len, mkData, mkHost, mkM, ownI, ownB, ownD, ownW, ownT, ownC, ownS]; done))) ?_; conv => whnf)
  (refine rq_s (by (rfl)) ?_; conv => whnf)
  (refine rq_s (by ((simp only [decide_eq_true_eq, List.length_map, mkS_len, mkData, mkHost, mkM, ownI, ownB, ownD, ownW, ownT, ownC, ownS]; done))) ?_; conv => whnf)
  (refine rq_s (by (rfl)) ?_; conv => whnf)
  (refine rq_s (by ((simp only [decide_eq_true_eq, List.length_map, mkS_len, mkData, mkHost, mkM, ownI, ownB, ownD, ownW, ownT, ownC, ownS]; done))) ?_; conv => whnf)
  (refine rq_s (by (rfl)) ?_; conv => whnf)
  (refine rq_s (by ((simp only [decide_eq_true_eq, List.length_map, mkS_len, mkData, mkHost, mkM, ownI, ownB, ownD, ownW, ownT, ownC, ownS]; done))) ?_; conv => whnf)
  (refine rq_s (by (rfl)) ?_; conv => whnf)
  (refine rq_s (by ((simp only [decide_eq_true_eq, List.length_map, mkS_len, mkData, mkHost, mkM, ownI, ownB, ownD, ownW, ownT, ownC, ownS]; done))) ?_; conv => whnf)
  (refine rq_s (by (rfl)) ?_; conv => whnf)
  (refine rq_s (by ((simp only [decide_eq_true_eq, List.length_map, mkS_len, mkData, mkHost, mkM, ownI, ownB, ownD, ownW, ownT, ownC, ownS]; done))) ?_; conv => whnf)
  iterate 4 (refine rq_s (by (rfl)) ?_; conv => whnf)
  (refine rq_s (by ((simp only [decide_eq_true_eq, List.length_map, mkS_len, mkData, mkHost, mkM, ownI, ownB, ownD, ownW, ownT, ownC, ownS]; done))) ?_; conv => whnf)
  (refine rq_s (by (rfl)) ?_; conv => whnf)
  (refine rq_s (by ((simp only [decide_eq_true_eq, List.length_map, mkS_len, mkData, mkHost, mkM, ownI, ownB, ownD, ownW, ownT, ownC, ownS]; done))) ?_; conv => whnf)
  (refine rq_s (by (rfl)) ?_; conv => whnf)
  (refine rq_s (by ((simp only [decide_eq_true_eq, List.length_map, mkS_len, mkData, mkHost, mkM, ownI, ownB, ownD, ownW, ownT, ownC, ownS]; done))) ?_; conv => whnf)
  iterate 2 (refine rq_s (by (rfl)) ?_; conv => whnf)
  (refine rq_s (by ((simp only [decide_eq_true_eq, List.length_map, mkS_len, mkData, mkHost, mkM, ownI, ownB, ownD, ownW, ownT, ownC, ownS]; done))) ?_; conv => whnf)
  (refine rq_s (by (rfl)) ?_; conv => whnf)
  (refine rq_s (by ((simp only [decide_eq_true_eq, List.length_map, mkS_len, mkData, mkHost, mkM, ownI, ownB, ownD, ownW, ownT, ownC, ownS]; done))) ?_; conv => whnf)
  iterate 3 (refine rq_s (by (rfl)) ?_; conv => whnf)
  (refine rq_s (by ((simp only [decide_eq_true_eq, List.length_map, mkS_len, mkData, mkHost, mkM, ownI, ownB, ownD, ownW, ownT, ownC, ownS]; done))) ?_; conv => whnf)
  iterate 3 (refine rq_s (by (rfl)) ?_; conv => whnf)
  (refine rq_s (by ((simp only [decide_eq_true_eq, List.length_map, mkS_len, mkData, mkHost, mkM, ownI, ownB, ownD, ownW, ownT, ownC, ownS]; done))) ?_; conv => whnf)
  (refine rq_s (by (rfl)) ?_; conv => whnf)
  (refine lend_s ?_; conv => whnf)
  iterate 24 (refine rows_s (by ((refine sub_all ?_; simp [List.length_map, mkS_len, mkData, mkHost, mkM, ownI, ownB, ownD, ownW, ownT, ownC, ownS]; done))) ?_; conv => whnf)
  (refine call_s (k3 ..) ?_; conv => whnf)
  (refine br_f rfl ?_; conv => whnf)
  (refine rq_s (by ((simp only [decide_eq_true_eq, List.length_map, mkS_len, mkData, mkHost, mkM, ownI, ownB, ownD, ownW, ownT, ownC, ownS]; done))) ?_; conv => whnf)
  (refine rq_s (by (rfl)) ?_; conv => whnf)
  (refine rq_s (by ((simp only [decide_eq_true_eq, List.length_map, mkS_len, mkData, mkHost, mkM, ownI, ownB, ownD, ownW, ownT, ownC, ownS]; done))) ?_; conv => whnf)
  (refine rq_s (by (rfl)) ?_; conv => whnf)
  (refine rq_s (by ((simp only [decide_eq_true_eq, List.length_map, mkS_len, mkData, mkHost, mkM, ownI, ownB, ownD, ownW, ownT, ownC, ownS]; done))) ?_; conv => whnf)
  (refine rq_s (by (rfl)) ?_; conv => whnf)
  (refine rq_s (by ((simp only [decide_eq_true_eq, List.length_map, mkS_len, mkData, mkHost, mkM, ownI, ownB, ownD, ownW, ownT, ownC, ownS]; done))) ?_; conv => whnf)
  (refine rq_s (by (rfl)) ?_; conv => whnf)
  (refine rq_s (by ((simp only [decide_eq_true_eq, List.length_map, mkS_len, mkData, mkHost, mkM, ownI, ownB, ownD, ownW, ownT, ownC, ownS]; done))) ?_; conv => whnf)
  iterate 4 (refine rq_s (by (rfl)) ?_; conv => whnf)
  (refine rq_s (by ((simp only [decide_eq_true_eq, List.length_map, mkS_len, mkData, mkHost, mkM, ownI, ownB, ownD, ownW, ownT, ownC, ownS]; done))) ?_; conv => whnf)
  (refine rq_s (by (rfl)) ?_; conv => whnf)
  (refine rq_s (by ((simp only [decide_eq_true_eq, List.length_map, mkS_len, mkData, mkHost, mkM, ownI, ownB, ownD, ownW, ownT, ownC, ownS]; done))) ?_; conv => whnf)
  (refine rq_s (by (rfl)) ?_; conv => whnf)
  (refine rq_s (by ((simp only [decide_eq_true_eq, List.length_map, mkS_len, mkData, mkHost, mkM, ownI, ownB, ownD, ownW, ownT, ownC, ownS]; done))) ?_; conv => whnf)
  iterate 2 (refine rq_s (by (rfl)) ?_; conv => whnf)
  (refine rq_s (by ((simp only [decide_eq_true_eq, List.length_map, mkS_len, mkData, mkHost, mkM, ownI, ownB, ownD, ownW, ownT, ownC, ownS]; done))) ?_; conv => whnf)
  (refine rq_s (by (rfl)) ?_; conv => whnf)
  (refine rq_s (by ((simp only [decide_eq_true_eq, List.length_map, mkS_len, mkData, mkHost, mkM, ownI, ownB, ownD, ownW, ownT, ownC, ownS]; done))) ?_; conv => whnf)
  iterate 3 (refine rq_s (by (rfl)) ?_; conv => whnf)
  (refine rq_s (by ((simp only [decide_eq_true_eq, List.length_map, mkS_len, mkData, mkHost, mkM, ownI, ownB, ownD, ownW, ownT, ownC, ownS]; done))) ?_; conv => whnf)
  iterate 3 (refine rq_s (by (rfl)) ?_; conv => whnf)
  (refine rq_s (by ((simp only [decide_eq_true_eq, List.length_map, mkS_len, mkData, mkHost, mkM, ownI, ownB, ownD, ownW, ownT, ownC, ownS]; done))) ?_; conv => whnf)
  iterate 2 (refine rq_s (by (rfl)) ?_; conv => whnf)
  (refine handA_s 35 ?_; conv => whnf)
  (refine rq_s (by (rfl)) ?_; conv => whnf)
  iterate 12 (refine rq_s (by ((simp only [decide_eq_true_eq, List.length_map, mkS_len, mkData, mkHost, mkM, ownI, ownB, ownD, ownW, ownT, ownC, ownS]; done))) ?_; conv => whnf)
  iterate 12 (refine rows_s (by (rfl)) ?_; conv => whnf)
  (refine handAc_s (f := 35) (k4 ..) (by simp [szOk, List.length_map, mkS_len, mkData, mkHost, mkM, ownI, ownB, ownD, ownW, ownT, ownC, ownS]) ?_; conv => whnf)
  (refine fac_s (fun hf => ?_); conv => whnf)
  (refine rq_s (by ((simp only [decide_eq_true_eq, List.length_map, mkS_len, mkData, mkHost, mkM, ownI, ownB, ownD, ownW, ownT, ownC, ownS]; done))) ?_; conv => whnf)
  (refine rq_s (by (rfl)) ?_; conv => whnf)
  (refine rq_s (by ((simp only [decide_eq_true_eq, List.length_map, mkS_len, mkData, mkHost, mkM, ownI, ownB, ownD, ownW, ownT, ownC, ownS]; done))) ?_; conv => whnf)
  (refine rq_s (by (rfl)) ?_; conv => whnf)
  (refine rq_s (by ((simp only [decide_eq_true_eq, List.length_map, mkS_len, mkData, mkHost, mkM, ownI, ownB, ownD, ownW, ownT, ownC, ownS]; done))) ?_; conv => whnf)
  (refine rq_s (by (rfl)) ?_; conv => whnf)
  (refine rq_s (by ((simp only [decide_eq_true_eq, List.length_map, mkS_len, mkData, mkHost, mkM, ownI, ownB, ownD, ownW, ownT, ownC, ownS]; done))) ?_; conv => whnf)
  (refine rq_s (by (rfl)) ?_; conv => whnf)
  (refine rq_s (by ((simp only [decide_eq_true_eq, List.length_map, mkS_len, mkData, mkHost, mkM, ownI, ownB, ownD, ownW, ownT, ownC, ownS]; done))) ?_; conv => whnf)
  iterate 4 (refine rq_s (by (rfl)) ?_; conv => whnf)
  (refine rq_s (by ((simp only [decide_eq_true_eq, List.length_map, mkS_len, mkData, mkHost, mkM, ownI, ownB, ownD, ownW, ownT, ownC, ownS]; done))) ?_; conv => whnf)
  (refine rq_s (by (rfl)) ?_; conv => whnf)
  (refine rq_s (by ((simp only [decide_eq_true_eq, List.length_map, mkS_len, mkData, mkHost, mkM, ownI, ownB, ownD, ownW, ownT, ownC, ownS]; done))) ?_; conv => whnf)
  (refine rq_s (by (rfl)) ?_; conv => whnf)
  (refine rq_s (by ((simp only [decide_eq_true_eq, List.length_map, mkS_len, mkData, mkHost, mkM, ownI, ownB, ownD, ownW, ownT, ownC, ownS]; done))) ?_; conv => whnf)
  iterate 2 (refine rq_s (by (rfl)) ?_; conv => whnf)
  (refine rq_s (by ((simp only [decide_eq_true_eq, List.length_map, mkS_len, mkData, mkHost, mkM, ownI, ownB, ownD, ownW, ownT, ownC, ownS]; done))) ?_; conv => whnf)
  (refine rq_s (by (rfl)) ?_; conv => whnf)
  (refine rq_s (by ((simp only [decide_eq_true_eq, List.length_map, mkS_len, mkData, mkHost, mkM, ownI, ownB, ownD, ownW, ownT, ownC, ownS]; done))) ?_; conv => whnf)
  iterate 3 (refine rq_s (by (rfl)) ?_; conv => whnf)
  (refine rq_s (by ((simp only [decide_eq_true_eq, List.length_map, mkS_len, mkData, mkHost, mkM, ownI, ownB, ownD, ownW, ownT, ownC, ownS]; done))) ?_; conv => whnf)
  iterate 3 (refine rq_s (by (rfl)) ?_; conv => whnf)
  (refine rq_s (by ((simp only [decide_eq_true_eq, List.length_map, mkS_len, mkData, mkHost, mkM, ownI, ownB, ownD, ownW, ownT, ownC, ownS]; done))) ?_; conv => whnf)
  iterate 2 (refine rq_s (by (rfl)) ?_; conv => whnf)
  (refine lend_s ?_; conv => whnf)
  iterate 12 (refine rows_s (by ((refine sub_all ?_; simp [List.length_map, mkS_len, mkData, mkHost, mkM, ownI, ownB, ownD, ownW, ownT, ownC, ownS]; done))) ?_; conv => whnf)
  (refine call_s (k5 ..) ?_; conv => whnf)
  (refine fac_s (fun hf => ?_); conv => whnf)
  iterate 2 (refine br_f rfl ?_; conv => whnf)
  (refine lend_s ?_; conv => whnf)
  (refine call_s (k2 ..) ?_; conv => whnf)
  iterate 19 (refine fac_s (fun hf => ?_); conv => whnf)
  (refine rq_s (by ((simp only [decide_eq_true_eq, List.length_map, mkS_len, mkData, mkHost, mkM, ownI, ownB, ownD, ownW, ownT, ownC, ownS]; done))) ?_; conv => whnf)
  (refine rq_s (by (rfl)) ?_; conv => whnf)
  (refine rq_s (by ((simp only [decide_eq_true_eq, List.length_map, mkS_len, mkData, mkHost, mkM, ownI, ownB, ownD, ownW, ownT, ownC, ownS]; done))) ?_; conv => whnf)
  (refine rq_s (by (rfl)) ?_; conv => whnf)
  (refine rq_s (by ((simp only [decide_eq_true_eq, List.length_map, mkS_len, mkData, mkHost, mkM, ownI, ownB, ownD, ownW, ownT, ownC, ownS]; done))) ?_; conv => whnf)
  (refine rq_s (by (rfl)) ?_; conv => whnf)
  (refine rq_s (by ((simp only [decide_eq_true_eq, List.length_map, mkS_len, mkData, mkHost, mkM, ownI, ownB, ownD, ownW, ownT, ownC, ownS]; done))) ?_; conv => whnf)
  (refine rq_s (by (rfl)) ?_; conv => whnf)
  (refine rq_s (by ((simp only [decide_eq_true_eq, List.length_map, mkS_len, mkData, mkHost, mkM, ownI, ownB, ownD, ownW, ownT, ownC, ownS]; done))) ?_; conv => whnf)
  iterate 4 (refine rq_s (by (rfl)) ?_; conv => whnf)
  (refine rq_s (by ((simp only [decide_eq_true_eq, List.length_map, mkS_len, mkData, mkHost, mkM, ownI, ownB, ownD, ownW, ownT, ownC, ownS]; done))) ?_; conv => whnf)
  (refine rq_s (by (rfl)) ?_; conv => whnf)
  (refine rq_s (by ((simp only [decide_eq_true_eq, List.length_map, mkS_len, mkData, mkHost, mkM, ownI, ownB, ownD, ownW, ownT, ownC, ownS]; done))) ?_; conv => whnf)
  (refine rq_s (by (rfl)) ?_; conv => whnf)
  (refine rq_s (by ((simp only [decide_eq_true_eq, List.length_map, mkS_len, mkData, mkHost, mkM, ownI, ownB, ownD, ownW, ownT, ownC, ownS]; done))) ?_; conv => whnf)
  iterate 2 (refine rq_s (by (rfl)) ?_; conv => whnf)
  (refine rq_s (by ((simp only [decide_eq_true_eq, List.length_map, mkS_len, mkData, mkHost, mkM, ownI, ownB, ownD, ownW, ownT, ownC, ownS]; done))) ?_; conv => whnf)
  (refine rq_s (by (rfl)) ?_; conv => whnf)
  (refine rq_s (by ((simp only [decide_eq_true_eq, List.length_map, mkS_len, mkData, mkHost, mkM, ownI, ownB, ownD, ownW, ownT, ownC, ownS]; done))) ?_; conv => whnf)
  iterate 3 (refine rq_s (by (rfl)) ?_; conv => whnf)
  (refine rq_s (by ((simp only [decide_eq_true_eq, List.length_map, mkS_len, mkData, mkHost, mkM, ownI, ownB, ownD, ownW, ownT, ownC, ownS]; done))) ?_; conv => whnf)
  iterate 3 (refine rq_s (by (rfl)) ?_; conv => whnf)
  (refine rq_s (by ((simp only [decide_eq_true_eq, List.length_map, mkS_len, mkData, mkHost, mkM, ownI, ownB, ownD, ownW, ownT, ownC, ownS]; done))) ?_; conv => whnf)
  (refine rq_s (by (rfl)) ?_; conv => whnf)
  (refine rq_s (by ((simp only [decide_eq_true_eq, List.length_map, mkS_len, mkData, mkHost, mkM, ownI, ownB, ownD, ownW, ownT, ownC, ownS]; done))) ?_; conv => whnf)
  (refine rq_s (by (rfl)) ?_; conv => whnf)
  (refine rq_s (by ((simp only [decide_eq_true_eq, List.length_map, mkS_len, mkData, mkHost, mkM, ownI, ownB, ownD, ownW, ownT, ownC, ownS]; done))) ?_; conv => whnf)
  (refine rq_s (by (rfl)) ?_; conv => whnf)
  (refine rq_s (by ((simp only [decide_eq_true_eq, List.length_map, mkS_len, mkData, mkHost, mkM, ownI, ownB, ownD, ownW, ownT, ownC, ownS]; done))) ?_; conv => whnf)
  (refine rq_s (by (rfl)) ?_; conv => whnf)
  (refine rq_s (by ((simp only [decide_eq_true_eq, List.length_map, mkS_len, mkData, mkHost, mkM, ownI, ownB, ownD, ownW, ownT, ownC, ownS]; done))) ?_; conv => whnf)
  (refine rq_s (by (rfl)) ?_; conv => whnf)
  (refine rq_s (by ((simp only [decide_eq_true_eq, List.length_map, mkS_len, mkData, mkHost, mkM, ownI, ownB, ownD, ownW, ownT, ownC, ownS]; done))) ?_; conv => whnf)
  iterate 4 (refine rq_s (by (rfl)) ?_; conv => whnf)
  (refine rq_s (by ((simp only [decide_eq_true_eq, List.length_map, mkS_len, mkData, mkHost, mkM, ownI, ownB, ownD, ownW, ownT, ownC, ownS]; done))) ?_; conv => whnf)
  (refine rq_s (by (rfl)) ?_; conv => whnf)
  (refine rq_s (by ((simp only [decide_eq_true_eq, List.length_map, mkS_len, mkData, mkHost, mkM, ownI, ownB, ownD, ownW, ownT, ownC, ownS]; done))) ?_; conv => whnf)
  (refine rq_s (by (rfl)) ?_; conv => whnf)
  (refine rq_s (by ((simp only [decide_eq_true_eq, List.length_map, mkS_len, mkData, mkHost, mkM, ownI, ownB, ownD, ownW, ownT, ownC, ownS]; done))) ?_; conv => whnf)
  iterate 2 (refine rq_s (by (rfl)) ?_; conv => whnf)
  (refine rq_s (by ((simp only [decide_eq_true_eq, List.length_map, mkS_len, mkData, mkHost, mkM, ownI, ownB, ownD, ownW, ownT, ownC, ownS]; done))) ?_; conv => whnf)
  (refine rq_s (by (rfl)) ?_; conv => whnf)
  (refine rq_s (by ((simp only [decide_eq_true_eq, List.length_map, mkS_len, mkData, mkHost, mkM, ownI, ownB, ownD, ownW, ownT, ownC, ownS]; done))) ?_; conv => whnf)
  iterate 3 (refine rq_s (by (rfl)) ?_; conv => whnf)
  (refine rq_s (by ((simp only [decide_eq_true_eq, List.length_map, mkS_len, mkData, mkHost, mkM, ownI, ownB, ownD, ownW, ownT, ownC, ownS]; done))) ?_; conv => whnf)
  iterate 3 (refine rq_s (by (rfl)) ?_; conv => whnf)
  (refine rq_s (by ((simp only [decide_eq_true_eq, List.length_map, mkS_len, mkData, mkHost, mkM, ownI, ownB, ownD, ownW, ownT, ownC, ownS]; done))) ?_; conv => whnf)
  (refine rq_s (by (rfl)) ?_; conv => whnf)
  (refine lend_s ?_; conv => whnf)
  iterate 24 (refine rows_s (by ((refine sub_all ?_; simp [List.length_map, mkS_len, mkData, mkHost, mkM, ownI, ownB, ownD, ownW, ownT, ownC, ownS]; done))) ?_; conv => whnf)
  (refine call_s (k3 ..) ?_; conv => whnf)
  (refine br_f rfl ?_; conv => whnf)
  (refine rq_s (by ((simp only [decide_eq_true_eq, List.length_map, mkS_len, mkData, mkHost, mkM, ownI, ownB, ownD, ownW, ownT, ownC, ownS]; done))) ?_; conv => whnf)
  (refine rq_s (by (rfl)) ?_; conv => whnf)
  (refine rq_s (by ((simp only [decide_eq_true_eq, List.length_map, mkS_len, mkData, mkHost, mkM, ownI, ownB, ownD, ownW, ownT, ownC, ownS]; done))) ?_; conv => whnf)
  (refine rq_s (by (rfl)) ?_; conv => whnf)
  (refine rq_s (by ((simp only [decide_eq_true_eq, List.length_map, mkS_len, mkData, mkHost, mkM, ownI, ownB, ownD, ownW, ownT, ownC, ownS]; done))) ?_; conv => whnf)
  (refine rq_s (by (rfl)) ?_; conv => whnf)
  (refine rq_s (by ((simp only [decide_eq_true_eq, List.length_map, mkS_len, mkData, mkHost, mkM, ownI, ownB, ownD, ownW, ownT, ownC, ownS]; done))) ?_; conv => whnf)
  (refine rq_s (by (rfl)) ?_; conv => whnf)
  (refine rq_s (by ((simp only [decide_eq_true_eq, List.length_map, mkS_len, mkData, mkHost, mkM, ownI, ownB, ownD, ownW, ownT, ownC, ownS]; done))) ?_; conv => whnf)
  iterate 4 (refine rq_s (by (rfl)) ?_; conv => whnf)
  (refine rq_s (by ((simp only [decide_eq_true_eq, List.length_map, mkS_len, mkData, mkHost, mkM, ownI, ownB, ownD, ownW, ownT, ownC, ownS]; done))) ?_; conv => whnf)
  (refine rq_s (by (rfl)) ?_; conv => whnf)
  (refine rq_s (by ((simp only [decide_eq_true_eq, List.length_map, mkS_len, mkData, mkHost, mkM, ownI, ownB, ownD, ownW, ownT, ownC, ownS]; done))) ?_; conv => whnf)
  (refine rq_s (by (rfl)) ?_; conv => whnf)
  (refine rq_s (by ((simp only [decide_eq_true_eq, List.length_map, mkS_len, mkData, mkHost, mkM, ownI, ownB, ownD, ownW, ownT, ownC, ownS]; done))) ?_; conv => whnf)
  iterate 2 (refine rq_s (by (rfl)) ?_; conv => whnf)
  (refine rq_s (by ((simp only [decide_eq_true_eq, List.length_map, mkS_len, mkData, mkHost, mkM, ownI, ownB, ownD, ownW, ownT, ownC, ownS]; done))) ?_; conv => whnf)
  (refine rq_s (by (rfl)) ?_; conv => whnf)
  (refine rq_s (by ((simp only [decide_eq_true_eq, List.length_map, mkS_len, mkData, mkHost, mkM, ownI, ownB, ownD, ownW, ownT, ownC, ownS]; done))) ?_; conv => whnf)
  iterate 3 (refine rq_s (by (rfl)) ?_; conv => whnf)
  (refine rq_s (by ((simp only [decide_eq_true_eq, List.length_map, mkS_len, mkData, mkHost, mkM, ownI, ownB, ownD, ownW, ownT, ownC, ownS]; done))) ?_; conv => whnf)
  iterate 3 (refine rq_s (by (rfl)) ?_; conv => whnf)
  (refine rq_s (by ((simp only [decide_eq_true_eq, List.length_map, mkS_len, mkData, mkHost, mkM, ownI, ownB, ownD, ownW, ownT, ownC, ownS]; done))) ?_; conv => whnf)
  iterate 2 (refine rq_s (by (rfl)) ?_; conv => whnf)
  (refine lend_s ?_; conv => whnf)
  iterate 12 (refine rows_s (by ((refine sub_all ?_; simp [List.length_map, mkS_len, mkData, mkHost, mkM, ownI, ownB, ownD, ownW, ownT, ownC, ownS]; done))) ?_; conv => whnf)
  (refine call_s (k5 ..) ?_; conv => whnf)
  (refine fac_s (fun hf => ?_); conv => whnf)
  iterate 2 (refine br_f rfl ?_; conv => whnf)
  (refine rq_s (by (rfl)) ?_; conv => whnf)
  (refine sh_s ?_; (rfl))
end N4

/- FnExactNewForth: the law returns true at every input, and its arguments read behind the call as they did. -/
set_option linter.unusedVariables false
set_option linter.unusedSimpArgs false
namespace Go.Proofs.YtdbjklhadnnbdaaDoor.FnExactNewForth
open Go.ChangeShapes Go.WideShapes Go.ChangeAt Go.RowKit Go.Joins
open Go.Abs V1 N4
theorem own : ownKnob Tryd.prog.godebug = none := by kernel_rfl
theorem laidOut : laidOutB Tryd.prog = true := by kernel_rfl
theorem tabs_met {W : World} (h : laidMetH Tryd.prog Rows.fnExactNewForthRow.laid W) : Tabs Tryd.prog W none2 := by
  rw [MakeChecks.laidMetH_plain _ _ _ (by kernel_rfl)] at h
  obtain ⟨ps, hl, _⟩ := h
  have m0 : ("strings.asciiSpace", (Lib.tabData .u8 Lib.asciiSpaceTab : DataW Unit)) ∈ Rows.fnExactNewForthRow.laid := List.mem_of_getElem? (i := 2) (by kernel_rfl)
  have t0 := tab_of_laid (t := 186) (e := 5) (n := 256) (g := 0) (by kernel_rfl) (by kernel_rfl) Tryd.underlying186 Tryd.underlying5 (by kernel_rfl) (by kernel_rfl) hl m0
  intro x hx g hg
  simp only [tabL, List.mem_cons, List.not_mem_nil, or_false] at hx
  subst hx
  exact ⟨tab_cells t0 hg, fun _ k => k⟩
set_option maxRecDepth 100000 in
theorem lifted (os : Os) (started : os.Started) (H : Type) (enc : TypeId × Value → H) :
    ReturnsInHanded {} Tryd.checked os 7 .any (fun w args => (Rows.fnExactNewForthSpec.pre enc Tryd.prog Tryd.f7 [] false w args ∧ laidMetH Tryd.prog Rows.fnExactNewForthRow.laid w) ∧ sizedMet enc Tryd.prog Tryd.f7 (OpenSpec.ofChange Rows.fnExactNewForthSpec) false w args) (Rows.fnExactNewForthSpec.post enc Tryd.prog Tryd.f7 false true false false) := by
  refine returnsInHanded_of_change_and (C := Tryd.checked) (X := fun w _ => laidMetH Tryd.prog Rows.fnExactNewForthRow.laid w) (fun _ _ _ hh h => h.of_heap hh) own started (by kernel_rfl) Tryd.func7
    (ChangeSpec.witness_shaped (enc := enc) (C := Tryd.checked) (os := os) (X := fun w _ => laidMetH Tryd.prog Rows.fnExactNewForthRow.laid w) false (World.laidAll Tryd.prog os Rows.fnExactNewForthRow.laid) #[] 8 (World.laidAll_os _ _ _) (World.shaped_of_ZipB (by kernel_rfl) (by kernel_rfl)) (by kernel_rfl) (by kernel_rfl) (by kernel_rfl) (by rw [MakeChecks.laidMetH_plain _ _ _ (by kernel_rfl)]; exact laidMet_laidAll _ (by kernel_rfl) (by kernel_rfl))) ?_
  intro W base args ds gs before hval0 hW _ _ hL _
  have hval : ∀ (j : Nat) t v, Tryd.f7.params[j]? = some t → args[j]? = some v → Value.okWide Tryd.prog W .any base t v := hval0
  have hW' := hW
  obtain ⟨p, q, hA0, hV, rfl, hfz, hnd⟩ := hW
  have hA : DataW.TrodAll enc Tryd.prog W 0 (fun _ => true) true Tryd.f7.params.toList args.toList ds p := hA0
  rw [Tryd.params7] at hA hval
  obtain ⟨hnil, rfl, rfl⟩ := trodAll_nil hA
  obtain rfl : args = #[] := by
    cases args
    simp_all
  obtain ⟨rfl, rfl⟩ := trodVars_none hV
  clear hA0 hval0
  have hcon := (N4.law).law W (tabs_met hL) [] (parts_nil _ _ _)
  refine hcon.mono fun e W' ⟨he, bel⟩ => ?_
  subst he
  exact ⟨_, rfl, _, _, _, [], _, [], hW', trodAll_mk1 (shut_bool Tryd.underlying4 _), trodAll_mk0, rfl, bel.frame _, fun h => by cases h⟩
theorem said : Rows.FnExactNewForthSaid :=
  OpenClaim.holds_of_wide 7 Tryd.f7 rfl rfl rfl rfl rfl rfl rfl ⟨rfl, rfl, rfl, rfl, rfl⟩ rfl rfl rfl rfl rfl (by kernel_rfl) Tryd.func7 (by kernel_rfl)
    (of_decide_eq_true (by kernel_rfl)) (by unfold Func.isWrapper; first | (rw [if_pos (by decide +kernel)]; kernel_rfl) | (rw [if_neg (by decide +kernel)]; exact ⟨rfl, rfl⟩))
    (fun os started H enc _ => lifted os started H enc)
theorem proved : Rows.FnExactNewForthCardSaid :=
  Claim7.holds_tied_plain_at .later [] [.data, .listed, .data, .pinned] true (true, "7121e581b6220beb3c718ca565e1c8f610d09025ca9fa5c89fbee4f0583089c9") true
    said (fun _ h => by cases h) (by kernel_rfl) (fun _ h => by cases h) fnExactNewForth_row_tie rfl ⟨rfl, rfl⟩ (by kernel_rfl) rfl
    (fun f fn hf hfn => by
      obtain rfl : f = 7 := Option.some.inj ((show Tryd.prog.funcNamed "loop.example/g00787/laws.FnExactNewForth" = some 7 by kernel_rfl).symm.trans hf) |>.symm
      obtain rfl : fn = Tryd.f7 := (Option.some.inj (Tryd.func7.symm.trans hfn)).symm
      exact ⟨by kernel_rfl, fun j t ht => by
        rw [Tryd.params7] at ht
        simp at ht⟩)
    (by kernel_rfl)
#print axioms proved
end Go.Proofs.YtdbjklhadnnbdaaDoor.FnExactNewForth
