/- The reference's compiler: contracts. -/
import Derived.Test.YtdbjklhadnnbdaaCiI
set_option linter.unusedVariables false
set_option linter.unusedSimpArgs false
set_option maxRecDepth 100000
open Go Go.Abs Go.Proofs V1 H1 I1 I2 I3 I4 I5 I6 I7 I8
namespace I9

def mkR (m : Mk) : List AV := [.int .i64 m.1, .int .i64 m.2]
def mkV (m : Mk) : AV := .agg (mkR m)
abbrev zM : List AV := [.int .i64 0, .int .i64 0]
def madC (a : Int) (c : List Int) (ms : List Mk) : List AV := [.int .i64 a, ownI c, .own 0 zM (ms.map mkR)]
def roMk (ms : List Mk) : AV := .ro zM (ms.map mkR)
theorem w57 : Con Try.prog 123 [.str [40, 76, 73, 84, 41]] (undefs [.str [40, 76, 73, 84, 41]]) (.int .i64 57) := by
  have h := c123 [40, 76, 73, 84, 41]
  rw [show wnoF [40, 76, 73, 84, 41] = 57 by decide +kernel] at h
  exact h
theorem w58 : Con Try.prog 123 [.str [40, 66, 82, 65, 78, 67, 72, 41]] (undefs [.str [40, 66, 82, 65, 78, 67, 72, 41]]) (.int .i64 58) := by
  have h := c123 [40, 66, 82, 65, 78, 67, 72, 41]
  rw [show wnoF [40, 66, 82, 65, 78, 67, 72, 41] = 58 by decide +kernel] at h
  exact h
theorem w59 : Con Try.prog 123 [.str [40, 48, 66, 82, 65, 78, 67, 72, 41]] (undefs [.str [40, 48, 66, 82, 65, 78, 67, 72, 41]]) (.int .i64 59) := by
  have h := c123 [40, 48, 66, 82, 65, 78, 67, 72, 41]
  rw [show wnoF [40, 48, 66, 82, 65, 78, 67, 72, 41] = 59 by decide +kernel] at h
  exact h
theorem w60 : Con Try.prog 123 [.str [40, 68, 79, 41]] (undefs [.str [40, 68, 79, 41]]) (.int .i64 60) := by
  have h := c123 [40, 68, 79, 41]
  rw [show wnoF [40, 68, 79, 41] = 60 by decide +kernel] at h
  exact h
theorem w61 : Con Try.prog 123 [.str [40, 76, 79, 79, 80, 41]] (undefs [.str [40, 76, 79, 79, 80, 41]]) (.int .i64 61) := by
  have h := c123 [40, 76, 79, 79, 80, 41]
  rw [show wnoF [40, 76, 79, 79, 80, 41] = 61 by decide +kernel] at h
  exact h
theorem w62 : Con Try.prog 123 [.str [40, 43, 76, 79, 79, 80, 41]] (undefs [.str [40, 43, 76, 79, 79, 80, 41]]) (.int .i64 62) := by
  have h := c123 [40, 43, 76, 79, 79, 80, 41]
  rw [show wnoF [40, 43, 76, 79, 79, 80, 41] = 62 by decide +kernel] at h
  exact h
theorem w53 : Con Try.prog 123 [.str [69, 88, 73, 84]] (undefs [.str [69, 88, 73, 84]]) (.int .i64 53) := by
  have h := c123 [69, 88, 73, 84]
  rw [show wnoF [69, 88, 73, 84] = 53 by decide +kernel] at h
  exact h

theorem c145 (a : Int) (c : List Int) (ms : List Mk) (h1 : 0 ≤ a) (h2 : a ≤ 100000) (h3 : c.length ≤ 1000) :
    Con Try.prog 145 [.rp [.int .i64 a, roI c, roMk ms] 0] (undefs [.rp [.int .i64 a, roI c, roMk ms] 0]) (.int .i64 (a + c.length)) := by
  refine Con.ev 13 T_ok mix Try.func145 rfl rfl rfl rfl [.tmp 2] rfl ?_
  conv => whnf
  iterate 3 (refine ChkS.mk (by kernel_rfl) ?_; conv => whnf)
  (refine rq_s (by (rfl)) ?_; conv => whnf)
  (refine ChkS.mk (by kernel_rfl) ?_; conv => whnf)
  (refine row_s (by (rfl)) ?_; conv => whnf)
  iterate 3 (refine ChkS.mk (by kernel_rfl) ?_; conv => whnf)
  (refine rq_s (by (rfl)) ?_; conv => whnf)
  (refine ChkS.mk (by kernel_rfl) ?_; conv => whnf)
  (refine row_s (by (rfl)) ?_; conv => whnf)
  iterate 4 (refine ChkS.mk (by kernel_rfl) ?_; conv => whnf)
  (refine rq_s (by (rfl)) ?_; conv => whnf)
  (refine sh_s ?_; ((rw [wrap64 (by simp; omega) (by simp; omega)]; simp)))

theorem c122 (a : Int) (c l : List Int) (ms : List Mk) (h3 : c.length ≤ 1000) (h4 : l.length ≤ 1000) :
    Con Try.prog 122 [.obj (madC a c ms), roI l] [.obj (madC a (c ++ l) ms), .undef] (.tup []) := by
  refine Con.evP 13 [500000] rfl T_ok mix Try.func122 rfl rfl rfl rfl [] rfl ?_
  conv => whnf
  iterate 3 (refine rq_s (by (rfl)) ?_; conv => whnf)
  (refine rq_s (by ((simp only [decide_eq_true_eq, List.length_map, mkS_len, setRow_len]; done))) ?_; conv => whnf)
  (refine rq_s (by (((simp [maxBytes, subA]; omega)))) ?_; conv => whnf)
  (refine applm_s intR ?_; conv => whnf)
  (refine rq_s (by (rfl)) ?_; conv => whnf)
  (refine aftp_s (by rfl) ?_; conv => whnf)
  iterate 2 (refine rows_s (by ((refine sub_all ?_; simp [List.length_map, mkS_len, setRow_len]; done))) ?_; conv => whnf)
  rotate_left
  refine aftps_s (Sh.agg ⟨Sh.refl _, Sh.flat_map (fun _ => rfl) _, Sh.refl _, trivial⟩) ?_
  conv => whnf
  exact True.intro

theorem row_mark (ms : List Mk) (z : List AV) (e : 1 ≤ ms.length) (h1 : ms.length ≤ 1000) : rowA (ms.map mkR) (Int.toNat (IntKind.i64.wrap ((ms.length : Int) - 1))) z = [.int .i64 (lastM ms).1, .int .i64 (lastM ms).2] := by
  rw [wrap64 (by omega) (by omega), show ((ms.length : Int) - 1).toNat = ms.length - 1 by omega]
  exact row_map mkR ms _ _ (0, 0) (by omega)

theorem c143 (a : Int) (c : List Int) (ms : List Mk) (h1 : 1 ≤ ms.length) (h2 : ms.length ≤ 1000) :
    Con Try.prog 143 [.obj (madC a c ms)] [.obj (madC a c (ms.take (ms.length - 1)))] (mkV (lastM ms)) := by
  have w1 : IntKind.i64.wrap ((ms.length : Int) - 1) = (ms.length : Int) - 1 := wrap64 (by omega) (by omega)
  have w2 : (IntKind.i64.wrap ((ms.length : Int) - 1)).toNat = ms.length - 1 := by omega
  refine Con.evP 28 [500000] rfl T_ok mix Try.func143 rfl rfl rfl rfl [.cell 2 142] rfl ?_
  conv => whnf
  iterate 2 (refine rq_s (by (rfl)) ?_; conv => whnf)
  (refine rq_s (by ((simp only [Bool.and_eq_true, decide_eq_true_eq, List.length_map]; omega))) ?_; conv => whnf)
  (refine rq_s (by ((simp only [decide_eq_true_eq, List.length_map, mkS_len, setRow_len]; done))) ?_; conv => whnf)
  (refine rq_s (by ((refine and_s rfl ?_; simp only [decide_eq_true_eq, List.length_map]; omega))) ?_; conv => whnf)
  (refine row_s (by ((try simp only [Nat.zero_add, List.length_map]); exact row_mark _ _ (by omega) (by omega))) ?_; conv => whnf)
  (refine rq_s (by (rfl)) ?_; conv => whnf)
  (refine rq_s (by ((simp only [Bool.and_eq_true, decide_eq_true_eq, List.length_map]; omega))) ?_; conv => whnf)
  (refine rq_s (by ((refine and_s rfl ?_; simp only [decide_eq_true_eq, List.length_map]; omega))) ?_; conv => whnf)
  (refine rq_s (by ((simp only [decide_eq_true_eq, List.length_map, mkS_len, setRow_len]; done))) ?_; conv => whnf)
  iterate 5 (refine rq_s (by (rfl)) ?_; conv => whnf)
  (refine aftp_s (by rfl) ?_; conv => whnf)
  (refine rows_s (by ((refine sub_all ?_; simp [List.length_map, mkS_len, setRow_len]; done))) ?_; conv => whnf)
  (refine rows_s (by (exact sub_map _ _ _ _)) ?_; conv => whnf)
  (refine aftp_s (by ((simp [madC, ownI, w2, subA, List.map_take]))) ?_; conv => whnf)
  exact True.intro


theorem c144 (a : Int) (c : List Int) (ms : List Mk) (i : Int) (h1 : 0 ≤ a) (h2 : a ≤ 100000) (h3 : c.length ≤ 1000) (h4 : 0 ≤ i) (h5 : i < c.length) :
    Con Try.prog 144 [.obj (madC a c ms), .int .i64 i] [.obj (madC a (c.set i.toNat (a + c.length)) ms), .undef] (.tup []) := by
  refine Con.evP 12 [500000] rfl T_ok mix Try.func144 rfl rfl rfl rfl [] rfl ?_
  conv => whnf
  iterate 3 (refine ChkS.mk (by kernel_rfl) ?_; conv => whnf)
  (refine rq_s (by (rfl)) ?_; conv => whnf)
  iterate 4 (refine ChkS.mk (by kernel_rfl) ?_; conv => whnf)
  (refine handp_s 145 [none] ?_; conv => whnf)
  iterate 3 (refine rq_s (by (rfl)) ?_; conv => whnf)
  (refine rq_s (by ((simp only [decide_eq_true_eq, List.length_map, mkS_len, setRow_len]; done))) ?_; conv => whnf)
  iterate 2 (refine rq_s (by (rfl)) ?_; conv => whnf)
  (refine rq_s (by ((simp only [decide_eq_true_eq, List.length_map, mkS_len, setRow_len]; done))) ?_; conv => whnf)
  (refine rq_s (by (rfl)) ?_; conv => whnf)
  (focus (apply callpe_s (f := 145); (· repeat' (first | (refine sub_all ?_; simp [List.length_map, mkS_len, setRow_len]; done) | exact sub_map _ _ _ _ | apply cons_eq | apply obj_eq | apply agg_eq | apply own_eq | apply ro_eq | apply rp_eq | apply fnc_eq | rfl)); refine callp_s (f := 145) rfl (c145 _ _ _ h1 h2 h3) ?_; conv => whnf))
  (refine ChkS.mk (by kernel_rfl) ?_; conv => whnf)
  (refine rq_s (by ((simp only [Bool.and_eq_true, decide_eq_true_eq, List.length_map]; omega))) ?_; conv => whnf)
  (refine rq_s (by ((simp only [decide_eq_true_eq, List.length_map, mkS_len, setRow_len]; done))) ?_; conv => whnf)
  (refine rq_s (by ((refine and_s rfl ?_; simp only [decide_eq_true_eq, List.length_map]; omega))) ?_; conv => whnf)
  (refine ChkS.mk (by kernel_rfl) ?_; conv => whnf)
  (refine rows_s (by ((rw [Nat.zero_add, setRow_int _ _ _ _ (by omega)]))) ?_; conv => whnf)
  (refine ChkS.mk (by kernel_rfl) ?_; conv => whnf)
  (refine fac_s (fun hf => ?_); conv => whnf)
  (refine aftp_s (by rfl) ?_; conv => whnf)
  iterate 2 (refine rows_s (by ((refine sub_all ?_; simp [List.length_map, mkS_len, setRow_len]; done))) ?_; conv => whnf)
  (refine aftp_s (by rfl) ?_; conv => whnf)
  exact True.intro

