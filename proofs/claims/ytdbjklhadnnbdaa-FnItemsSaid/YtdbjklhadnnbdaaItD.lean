import Derived.Test.YtdbjklhadnnbdaaItC
/- The reference's words of the kernel; the parts of its compiler: contracts. -/
set_option linter.unusedVariables false
set_option linter.unusedSimpArgs false
set_option maxRecDepth 100000
open Go Go.Abs Go.Proofs V1 H1 I1 I2 I3 I4 I5 I6 I7
namespace I8


def grpV (g : List (List UInt8)) : AV := .ro [.str []] (g.map strR)
theorem c156 : Con Try.prog 156 [] (undefs []) (grpV (kernelG.getD 0 [])) := by
  refine Con.ev 2 T_ok mix Try.func156 rfl rfl rfl rfl [.tmp 0] rfl ?_
  conv => whnf
  (refine rq_s (by (rfl)) ?_; conv => whnf)
  (refine rq_s (by ((simp only [decide_eq_true_eq, List.length_map, mkS_len, setRow_len]; done))) ?_; conv => whnf)
  (refine rq_s (by (rfl)) ?_; conv => whnf)
  (refine rows_s (by ((refine sub_all ?_; simp [List.length_map, mkS_len, setRow_len]; done))) ?_; conv => whnf)
  rotate_left
  exact ⟨Sh.own_ro (by omega) _ _⟩
theorem c157 : Con Try.prog 157 [] (undefs []) (grpV (kernelG.getD 1 [])) := by
  refine Con.ev 2 T_ok mix Try.func157 rfl rfl rfl rfl [.tmp 0] rfl ?_
  conv => whnf
  (refine rq_s (by (rfl)) ?_; conv => whnf)
  (refine rq_s (by ((simp only [decide_eq_true_eq, List.length_map, mkS_len, setRow_len]; done))) ?_; conv => whnf)
  (refine rq_s (by (rfl)) ?_; conv => whnf)
  (refine rows_s (by ((refine sub_all ?_; simp [List.length_map, mkS_len, setRow_len]; done))) ?_; conv => whnf)
  rotate_left
  exact ⟨Sh.own_ro (by omega) _ _⟩
theorem c158 : Con Try.prog 158 [] (undefs []) (grpV (kernelG.getD 2 [])) := by
  refine Con.ev 2 T_ok mix Try.func158 rfl rfl rfl rfl [.tmp 0] rfl ?_
  conv => whnf
  (refine rq_s (by (rfl)) ?_; conv => whnf)
  (refine rq_s (by ((simp only [decide_eq_true_eq, List.length_map, mkS_len, setRow_len]; done))) ?_; conv => whnf)
  (refine rq_s (by (rfl)) ?_; conv => whnf)
  (refine rows_s (by ((refine sub_all ?_; simp [List.length_map, mkS_len, setRow_len]; done))) ?_; conv => whnf)
  rotate_left
  exact ⟨Sh.own_ro (by omega) _ _⟩
theorem c159 : Con Try.prog 159 [] (undefs []) (grpV (kernelG.getD 3 [])) := by
  refine Con.ev 2 T_ok mix Try.func159 rfl rfl rfl rfl [.tmp 0] rfl ?_
  conv => whnf
  (refine rq_s (by (rfl)) ?_; conv => whnf)
  (refine rq_s (by ((simp only [decide_eq_true_eq, List.length_map, mkS_len, setRow_len]; done))) ?_; conv => whnf)
  (refine rq_s (by (rfl)) ?_; conv => whnf)
  (refine rows_s (by ((refine sub_all ?_; simp [List.length_map, mkS_len, setRow_len]; done))) ?_; conv => whnf)
  rotate_left
  exact ⟨Sh.own_ro (by omega) _ _⟩
theorem c160 : Con Try.prog 160 [] (undefs []) (grpV (kernelG.getD 4 [])) := by
  refine Con.ev 2 T_ok mix Try.func160 rfl rfl rfl rfl [.tmp 0] rfl ?_
  conv => whnf
  (refine rq_s (by (rfl)) ?_; conv => whnf)
  (refine rq_s (by ((simp only [decide_eq_true_eq, List.length_map, mkS_len, setRow_len]; done))) ?_; conv => whnf)
  (refine rq_s (by (rfl)) ?_; conv => whnf)
  (refine rows_s (by ((refine sub_all ?_; simp [List.length_map, mkS_len, setRow_len]; done))) ?_; conv => whnf)
  rotate_left
  exact ⟨Sh.own_ro (by omega) _ _⟩
def kg (i : Nat) : List Wd := (kernelG.getD i []).zipIdx.map fun p => ⟨p.1, (i : Int) + 1, (p.2 : Int) + 1⟩
def kpre (i : Nat) : List Wd := (List.range i).flatMap kg
theorem kpre_5 : kpre 5 = kernelW := by decide +kernel
theorem kpre_next (i : Nat) : kpre (i + 1) = kpre i ++ kg i := by simp [kpre, List.range_succ]
theorem kg_len (i : Nat) : (kg i).length = (kernelG.getD i []).length := by simp [kg]
theorem kg_take {i j : Nat} (h : j < (kernelG.getD i []).length) : (kg i).take (j + 1) = (kg i).take j ++ [⟨(kernelG.getD i []).getD j [], (i : Int) + 1, (j : Int) + 1⟩] := by
  rw [List.take_succ_eq_append_getElem (by rw [kg_len]; exact h)]
  have hl : j < (kg i).length := by rw [kg_len]; exact h
  have : (kg i)[j] = ⟨(kernelG.getD i []).getD j [], (i : Int) + 1, (j : Int) + 1⟩ := by
    unfold kg at hl ⊢
    generalize kernelG.getD i [] = g at h hl ⊢
    simp [h]
  rw [this]
theorem kpre_len (i : Nat) (h : i ≤ 5) : (kpre i).length ≤ 260 := by
  have : i = 0 ∨ i = 1 ∨ i = 2 ∨ i = 3 ∨ i = 4 ∨ i = 5 := by omega
  rcases this with rfl | rfl | rfl | rfl | rfl | rfl <;> decide +kernel
def gR (g : List (List UInt8)) : List AV := [grpV g]
theorem grp_le (i : Nat) : (kernelG.getD i []).length ≤ 52 := by
  by_cases h : i < 5
  · have : i = 0 ∨ i = 1 ∨ i = 2 ∨ i = 3 ∨ i = 4 := by omega
    rcases this with rfl | rfl | rfl | rfl | rfl <;> decide +kernel
  · have : kernelG.getD i [] = [] := by
      rw [List.getD_eq_getElem?_getD, List.getElem?_eq_none (by show 5 ≤ i; omega)]
      rfl
    rw [this]; simp


theorem c146 : Con Try.prog 146 [] (undefs []) (ownW kernelW) := by
  refine Con.ev 43 T_ok mix Try.func146 rfl rfl rfl rfl [.tmp 0] rfl ?_
  conv => whnf
  (refine rq_s (by (rfl)) ?_; conv => whnf)
  (refine lend_s ?_; conv => whnf)
  (refine call_s (c156 ..) ?_; conv => whnf)
  (refine lend_s ?_; conv => whnf)
  (refine call_s (c157 ..) ?_; conv => whnf)
  (refine lend_s ?_; conv => whnf)
  (refine call_s (c158 ..) ?_; conv => whnf)
  (refine lend_s ?_; conv => whnf)
  (refine call_s (c159 ..) ?_; conv => whnf)
  (refine lend_s ?_; conv => whnf)
  (refine call_s (c160 ..) ?_; conv => whnf)
  (refine rq_s (by (rfl)) ?_; conv => whnf)
  iterate 5 (refine fac_s (fun hf => ?_); conv => whnf)
  rotate_left
  refine LoopG.frz 2 ?_
  conv => whnf
  refine LoopG.bearT 1 101 zW rfl rfl ?_
  refine LoopG.auto (α := Nat) T_ok mix [1, 2, 3] (fun i => [(1, .ref 1 0 (kpre i).length), (2, .ro [.emp] (kernelG.map gR)), (3, .int .i64 i)]) (fun i => [(1, .live ⟨true, 0, zW, (kpre i).map wdR⟩)]) (fun i => i ≤ 5) (fun i => 5 - i) ?_ ?_
  · conv => whnf
    (refine ChkS.mk (by kernel_rfl) ?_; conv => whnf)
    rotate_left
    exact head_s 0 (by omega) rfl rfl
  · intro i hi _ _
    conv => whnf
    (refine br_s (fun hb => ?_) (fun hb => ?_) <;> (try simp only [beq_iff_eq, bne_iff_ne, ne_eq, decide_eq_true_eq, decide_eq_false_iff_not, Int.not_lt, Int.not_le, Bool.false_eq_true, if_false, if_true, beq_eq_false_iff_ne, bne_eq_false_iff_eq, Bool.not_eq_true', Bool.not_eq_false', Int.ofNat_lt, Int.ofNat_le, Int.ofNat_inj, List.length_map, List.length_nil, List.length_cons] at hb) <;> conv => whnf)
    rotate_left
    (refine rq_s (by ((simp only [decide_eq_true_eq, List.length_map, mkS_len, setRow_len]; done))) ?_; conv => whnf)
    (refine rq_s (by (rfl)) ?_; conv => whnf)
    (refine rows_s (by ((refine sub_all ?_; simp [List.length_map, mkS_len, setRow_len]; done))) ?_; conv => whnf)
    rotate_left
    · have hi5 : i < 5 := by simpa [kernelG] using hb
      refine LoopG.auto (α := Nat) T_ok mix [1, 2, 3, 4] (fun j => [(1, .ref 1 0 (kpre i ++ (kg i).take j).length), (2, .ro [.emp] (kernelG.map gR)), (3, .int .i64 i), (4, .int .i64 j)]) (fun j => [(1, .live ⟨true, 0, zW, (kpre i ++ (kg i).take j).map wdR⟩)]) (fun j => j ≤ (kernelG.getD i []).length) (fun j => (kernelG.getD i []).length - j) ?_ ?_
      · conv => whnf
        (refine ChkS.mk (by kernel_rfl) ?_; conv => whnf)
        rotate_left
        exact head_s 0 (by omega) (by simp) (by simp)
      · intro j hj _ _
        have h52 := grp_le i
        have h26 := kpre_len i hi
        conv => whnf
        (refine rq_s (by (rfl)) ?_; conv => whnf)
        (refine rq_s (by ((refine and_s rfl ?_; simp only [decide_eq_true_eq, List.length_map]; omega))) ?_; conv => whnf)
        (refine row_s (by ((try simp only [Int.toNat_natCast]); exact row_map gR kernelG _ _ [] (by show _ < 5; omega))) ?_; conv => whnf)
        (refine br_s (fun hb => ?_) (fun hb => ?_) <;> (try simp only [beq_iff_eq, bne_iff_ne, ne_eq, decide_eq_true_eq, decide_eq_false_iff_not, Int.not_lt, Int.not_le, Bool.false_eq_true, if_false, if_true, beq_eq_false_iff_ne, bne_eq_false_iff_eq, Bool.not_eq_true', Bool.not_eq_false', Int.ofNat_lt, Int.ofNat_le, Int.ofNat_inj, List.length_map, List.length_nil, List.length_cons] at hb) <;> conv => whnf)
        (refine rq_s (by (rfl)) ?_; conv => whnf)
        (refine rq_s (by ((refine and_s rfl ?_; simp only [decide_eq_true_eq, List.length_map]; omega))) ?_; conv => whnf)
        (refine row_s (by ((try simp only [Int.toNat_natCast]); exact row_map gR kernelG _ _ [] (by show _ < 5; omega))) ?_; conv => whnf)
        (refine rq_s (by (rfl)) ?_; conv => whnf)
        (refine rq_s (by ((refine and_s rfl ?_; simp only [decide_eq_true_eq, List.length_map]; omega))) ?_; conv => whnf)
        (refine row_s (by ((try simp only [Int.toNat_natCast]); exact row_map strR _ _ _ [] (by omega))) ?_; conv => whnf)
        iterate 2 (refine rq_s (by (rfl)) ?_; conv => whnf)
        (refine rq_s (by ((simp only [decide_eq_true_eq, List.length_map, mkS_len, setRow_len]; done))) ?_; conv => whnf)
        iterate 2 (refine rq_s (by (rfl)) ?_; conv => whnf)
        (refine rq_s (by ((simp only [decide_eq_true_eq, List.length_map, mkS_len, setRow_len]; done))) ?_; conv => whnf)
        (refine rq_s (by (((simp [maxBytes, subA]; omega)))) ?_; conv => whnf)
        (refine appf_s wdR (y := ⟨(kernelG.getD i []).getD j [], IntKind.i64.wrap ((i : Int) + 1), IntKind.i64.wrap ((j : Int) + 1)⟩) rfl ?_; conv => whnf)
        (refine ChkS.mk (by kernel_rfl) ?_; conv => whnf)
        rotate_left
        (refine ChkS.mk (by kernel_rfl) ?_; conv => whnf)
        rotate_left
        · have hj2 : j < (kernelG.getD i []).length := by simpa using hb
          exact head_s (j + 1) ⟨by omega, by omega⟩ (by rw [kg_take hj2, wrap64 (n := (j : Int) + 1) (by omega) (by omega), wrap64 (by omega) (by omega), ← List.append_assoc]; rfl) (by rw [kg_take hj2, ← List.append_assoc, wrap64 (by omega) (by omega), wrap64 (by omega) (by omega)])
        · obtain rfl : j = (kernelG.getD i []).length := (by have : ¬ j < (kernelG.getD i []).length := (by simpa using hb); omega)
          have e : (kg i).take (kernelG.getD i []).length = kg i := by rw [← kg_len, List.take_length]
          exact head_s (i + 1) ⟨by omega, by omega⟩ (by rw [e, ← kpre_next, wrap64 (by omega) (by omega)]; first | done | rfl) (by rw [e, ← kpre_next])
    · have h5 : ¬ i < 5 := by simpa [kernelG] using hb
      obtain rfl : i = 5 := by omega
      exact ⟨by rw [kpre_5]; exact Sh.refl _⟩
def wnoP (nm : List UInt8) (w : Wd) : Bool := decide (w.nm = nm) && decide (w.k ≠ 5)
def wnoF (nm : List UInt8) : Int := findI (wnoP nm) kernelW + 1


theorem c123 (nm : List UInt8) : Con Try.prog 123 [.str nm] (undefs [.str nm]) (.int .i64 (wnoF nm)) := by
  have h83 := kernelW_len
  refine Con.ev 29 T_ok mix Try.func123 rfl rfl rfl rfl [.tmp 2] rfl ?_
  conv => whnf
  (refine lend_s ?_; conv => whnf)
  (refine call_s (c146 ..) ?_; conv => whnf)
  (refine fac_s (fun hf => ?_); conv => whnf)
  rotate_left
  refine LoopG.auto (α := Nat) T_ok mix [0, 3, 4] (fun i => [(0, .str nm), (3, .ref 1 0 kernelW.length), (4, .int .i64 i)]) (fun _ => [(1, .live ⟨true, 0, zW, kernelW.map wdR⟩)]) (fun i => i ≤ 83 ∧ ∀ j, j < i → wnoP nm (kernelW.getD j default) = false) (fun i => 83 - i) ?_ ?_
  · conv => whnf
    (refine ChkS.mk (by kernel_rfl) ?_; conv => whnf)
    rotate_left
    exact head_s 0 ⟨by omega, fun j hj => by omega⟩ (by simp) rfl
  · rintro i ⟨h1, h2⟩ _ _
    conv => whnf
    (refine br_s (fun hb => ?_) (fun hb => ?_) <;> (try simp only [beq_iff_eq, bne_iff_ne, ne_eq, decide_eq_true_eq, decide_eq_false_iff_not, Int.not_lt, Int.not_le, Bool.false_eq_true, if_false, if_true, beq_eq_false_iff_ne, bne_eq_false_iff_eq, Bool.not_eq_true', Bool.not_eq_false', Int.ofNat_lt, Int.ofNat_le, Int.ofNat_inj, List.length_map, List.length_nil, List.length_cons] at hb) <;> conv => whnf)
    (refine rq_s (by (rfl)) ?_; conv => whnf)
    (refine rq_s (by ((simp only [decide_eq_true_eq, List.length_map, mkS_len, setRow_len]; done))) ?_; conv => whnf)
    (refine rq_s (by ((refine and_s rfl ?_; simp only [decide_eq_true_eq, List.length_map]; omega))) ?_; conv => whnf)
    (refine rq_s (by (rfl)) ?_; conv => whnf)
    (refine row_s (by ((try simp only [Int.toNat_natCast]); exact row_map wdR kernelW _ _ default (by omega))) ?_; conv => whnf)
    (refine br_s (fun hb => ?_) (fun hb => ?_) <;> (try simp only [beq_iff_eq, bne_iff_ne, ne_eq, decide_eq_true_eq, decide_eq_false_iff_not, Int.not_lt, Int.not_le, Bool.false_eq_true, if_false, if_true, beq_eq_false_iff_ne, bne_eq_false_iff_eq, Bool.not_eq_true', Bool.not_eq_false', Int.ofNat_lt, Int.ofNat_le, Int.ofNat_inj, List.length_map, List.length_nil, List.length_cons] at hb) <;> conv => whnf)
    iterate 2 (refine br_t rfl ?_; conv => whnf)
    (refine rq_s (by (rfl)) ?_; conv => whnf)
    (refine rq_s (by ((simp only [decide_eq_true_eq, List.length_map, mkS_len, setRow_len]; done))) ?_; conv => whnf)
    (refine rq_s (by ((refine and_s rfl ?_; simp only [decide_eq_true_eq, List.length_map]; omega))) ?_; conv => whnf)
    (refine br_t rfl ?_; conv => whnf)
    (refine rq_s (by (rfl)) ?_; conv => whnf)
    (refine br_t rfl ?_; conv => whnf)
    (refine row_s (by ((try simp only [Int.toNat_natCast]); exact row_map wdR kernelW _ _ default (by omega))) ?_; conv => whnf)
    (refine br_t rfl ?_; conv => whnf)
    (refine br_s (fun hb => ?_) (fun hb => ?_) <;> (try simp only [beq_iff_eq, bne_iff_ne, ne_eq, decide_eq_true_eq, decide_eq_false_iff_not, Int.not_lt, Int.not_le, Bool.false_eq_true, if_false, if_true, beq_eq_false_iff_ne, bne_eq_false_iff_eq, Bool.not_eq_true', Bool.not_eq_false', Int.ofNat_lt, Int.ofNat_le, Int.ofNat_inj, List.length_map, List.length_nil, List.length_cons] at hb) <;> conv => whnf)
    (refine rq_s (by (rfl)) ?_; conv => whnf)
    rotate_left
    (refine ChkS.mk (by kernel_rfl) ?_; conv => whnf)
    rotate_left
    iterate 7 (refine br_f rfl ?_; conv => whnf)
    (refine ChkS.mk (by kernel_rfl) ?_; conv => whnf)
    rotate_left
    (refine rq_s (by (rfl)) ?_; conv => whnf)
    rotate_left
    · rename_i q1 q2
      rw [Nat.zero_add] at q2 hb
      have hp : wnoP nm (kernelW.getD i default) = true := by simp only [wnoP, q2, decide_true, Bool.true_and, decide_eq_true_eq]; exact hb
      exact sh_s (by rw [wnoF, findI_hit default (by omega) hp h2, wrap64 (by omega) (by omega)])
    · rename_i q1 q2
      rw [Nat.zero_add] at q2 hb
      have hp : wnoP nm (kernelW.getD i default) = false := by
        unfold wnoP
        rw [hb]
        simp
      refine head_s (i + 1) ⟨⟨by omega, fun j hj => ?_⟩, by omega⟩ (by rw [wrap64 (by omega) (by omega)]; rfl) rfl
      by_cases hji : j = i
      · subst hji; exact hp
      · exact h2 j (by omega)
    · rw [Nat.zero_add] at hb
      have hp : wnoP nm (kernelW.getD i default) = false := by simp only [wnoP, hb, decide_false, Bool.false_and]
      refine head_s (i + 1) ⟨⟨by omega, fun j hj => ?_⟩, by omega⟩ (by rw [wrap64 (by omega) (by omega)]; rfl) rfl
      by_cases hji : j = i
      · subst hji; exact hp
      · exact h2 j (by omega)
    · exact sh_s (by rw [wnoF, findI_none default fun j hj => h2 j (by omega)]; rfl)
end I8

/- The reference's compiler: contracts. -/
set_option linter.unusedVariables false
set_option linter.unusedSimpArgs false
set_option maxRecDepth 100000
open Go Go.Abs Go.Proofs V1 H1 I1 I2 I3 I4 I5 I6 I7 I8
namespace I9

def mkR (m : Mk) : List AV := [.int .i64 m.1, .int .i64 m.2]
def mkV (m : Mk) : AV := .agg (mkR m)
abbrev zM : List AV := [.int .i64 0, .int .i64 0]
def madC (a : Int) (c : List Int) (ms : List Mk) : List AV := [.int .i64 a, ownI c, .own 0 zM (ms.map mkR)]
def roMk (ms : List Mk) : AV := .ro zM (ms.map mkR)
theorem w57 : Con Try.prog 123 [.str [40, 76, 73, 84, 41]] (undefs [.str [40, 76, 73, 84, 41]]) (.int .i64 57) := by
  have h := c123 [40, 76, 73, 84, 41]
  rw [show wnoF [40, 76, 73, 84, 41] = 57 by decide +kernel] at h
  exact h
theorem w58 : Con Try.prog 123 [.str [40, 66, 82, 65, 78, 67, 72, 41]] (undefs [.str [40, 66, 82, 65, 78, 67, 72, 41]]) (.int .i64 58) := by
  have h := c123 [40, 66, 82, 65, 78, 67, 72, 41]
  rw [show wnoF [40, 66, 82, 65, 78, 67, 72, 41] = 58 by decide +kernel] at h
  exact h
theorem w59 : Con Try.prog 123 [.str [40, 48, 66, 82, 65, 78, 67, 72, 41]] (undefs [.str [40, 48, 66, 82, 65, 78, 67, 72, 41]]) (.int .i64 59) := by
  have h := c123 [40, 48, 66, 82, 65, 78, 67, 72, 41]
  rw [show wnoF [40, 48, 66, 82, 65, 78, 67, 72, 41] = 59 by decide +kernel] at h
  exact h
theorem w60 : Con Try.prog 123 [.str [40, 68, 79, 41]] (undefs [.str [40, 68, 79, 41]]) (.int .i64 60) := by
  have h := c123 [40, 68, 79, 41]
  rw [show wnoF [40, 68, 79, 41] = 60 by decide +kernel] at h
  exact h
theorem w61 : Con Try.prog 123 [.str [40, 76, 79, 79, 80, 41]] (undefs [.str [40, 76, 79, 79, 80, 41]]) (.int .i64 61) := by
  have h := c123 [40, 76, 79, 79, 80, 41]
  rw [show wnoF [40, 76, 79, 79, 80, 41] = 61 by decide +kernel] at h
  exact h
theorem w62 : Con Try.prog 123 [.str [40, 43, 76, 79, 79, 80, 41]] (undefs [.str [40, 43, 76, 79, 79, 80, 41]]) (.int .i64 62) := by
  have h := c123 [40, 43, 76, 79, 79, 80, 41]
  rw [show wnoF [40, 43, 76, 79, 79, 80, 41] = 62 by decide +kernel] at h
  exact h
theorem w53 : Con Try.prog 123 [.str [69, 88, 73, 84]] (undefs [.str [69, 88, 73, 84]]) (.int .i64 53) := by
  have h := c123 [69, 88, 73, 84]
  rw [show wnoF [69, 88, 73, 84] = 53 by decide +kernel] at h
  exact h

theorem c145 (a : Int) (c : List Int) (ms : List Mk) (h1 : 0 ≤ a) (h2 : a ≤ 100000) (h3 : c.length ≤ 1000) :
    Con Try.prog 145 [.rp [.int .i64 a, roI c, roMk ms] 0] (undefs [.rp [.int .i64 a, roI c, roMk ms] 0]) (.int .i64 (a + c.length)) := by
  refine Con.ev 13 T_ok mix Try.func145 rfl rfl rfl rfl [.tmp 2] rfl ?_
  conv => whnf
  iterate 3 (refine ChkS.mk (by kernel_rfl) ?_; conv => whnf)
  (refine rq_s (by (rfl)) ?_; conv => whnf)
  (refine ChkS.mk (by kernel_rfl) ?_; conv => whnf)
  (refine row_s (by (rfl)) ?_; conv => whnf)
  iterate 3 (refine ChkS.mk (by kernel_rfl) ?_; conv => whnf)
  (refine rq_s (by (rfl)) ?_; conv => whnf)
  (refine ChkS.mk (by kernel_rfl) ?_; conv => whnf)
  (refine row_s (by (rfl)) ?_; conv => whnf)
  iterate 4 (refine ChkS.mk (by kernel_rfl) ?_; conv => whnf)
  (refine rq_s (by (rfl)) ?_; conv => whnf)
  (refine sh_s ?_; ((rw [wrap64 (by simp; omega) (by simp; omega)]; simp)))

theorem c122 (a : Int) (c l : List Int) (ms : List Mk) (h3 : c.length ≤ 1000) (h4 : l.length ≤ 1000) :
    Con Try.prog 122 [.obj (madC a c ms), roI l] [.obj (madC a (c ++ l) ms), .undef] (.tup []) := by
  refine Con.evP 13 [500000] rfl T_ok mix Try.func122 rfl rfl rfl rfl [] rfl ?_
  conv => whnf
  iterate 3 (refine rq_s (by (rfl)) ?_; conv => whnf)
  (refine rq_s (by ((simp only [decide_eq_true_eq, List.length_map, mkS_len, setRow_len]; done))) ?_; conv => whnf)
  (refine rq_s (by (((simp [maxBytes, subA]; omega)))) ?_; conv => whnf)
  (refine applm_s intR ?_; conv => whnf)
  (refine rq_s (by (rfl)) ?_; conv => whnf)
  (refine aftp_s (by rfl) ?_; conv => whnf)
  iterate 2 (refine rows_s (by ((refine sub_all ?_; simp [List.length_map, mkS_len, setRow_len]; done))) ?_; conv => whnf)
  rotate_left
  refine aftps_s (Sh.agg ⟨Sh.refl _, Sh.flat_map (fun _ => rfl) _, Sh.refl _, trivial⟩) ?_
  conv => whnf
  exact True.intro

theorem row_mark (ms : List Mk) (z : List AV) (e : 1 ≤ ms.length) (h1 : ms.length ≤ 1000) : rowA (ms.map mkR) (Int.toNat (IntKind.i64.wrap ((ms.length : Int) - 1))) z = [.int .i64 (lastM ms).1, .int .i64 (lastM ms).2] := by
  rw [wrap64 (by omega) (by omega), show ((ms.length : Int) - 1).toNat = ms.length - 1 by omega]
  exact row_map mkR ms _ _ (0, 0) (by omega)

theorem c143 (a : Int) (c : List Int) (ms : List Mk) (h1 : 1 ≤ ms.length) (h2 : ms.length ≤ 1000) :
    Con Try.prog 143 [.obj (madC a c ms)] [.obj (madC a c (ms.take (ms.length - 1)))] (mkV (lastM ms)) := by
  have w1 : IntKind.i64.wrap ((ms.length : Int) - 1) = (ms.length : Int) - 1 := wrap64 (by omega) (by omega)
  have w2 : (IntKind.i64.wrap ((ms.length : Int) - 1)).toNat = ms.length - 1 := by omega
  refine Con.evP 28 [500000] rfl T_ok mix Try.func143 rfl rfl rfl rfl [.cell 2 142] rfl ?_
  conv => whnf
  iterate 2 (refine rq_s (by (rfl)) ?_; conv => whnf)
  (refine rq_s (by ((simp only [Bool.and_eq_true, decide_eq_true_eq, List.length_map]; omega))) ?_; conv => whnf)
  (refine rq_s (by ((simp only [decide_eq_true_eq, List.length_map, mkS_len, setRow_len]; done))) ?_; conv => whnf)
  (refine rq_s (by ((refine and_s rfl ?_; simp only [decide_eq_true_eq, List.length_map]; omega))) ?_; conv => whnf)
  (refine row_s (by ((try simp only [Nat.zero_add, List.length_map]); exact row_mark _ _ (by omega) (by omega))) ?_; conv => whnf)
  (refine rq_s (by (rfl)) ?_; conv => whnf)
  (refine rq_s (by ((simp only [Bool.and_eq_true, decide_eq_true_eq, List.length_map]; omega))) ?_; conv => whnf)
  (refine rq_s (by ((refine and_s rfl ?_; simp only [decide_eq_true_eq, List.length_map]; omega))) ?_; conv => whnf)
  (refine rq_s (by ((simp only [decide_eq_true_eq, List.length_map, mkS_len, setRow_len]; done))) ?_; conv => whnf)
  iterate 5 (refine rq_s (by (rfl)) ?_; conv => whnf)
  (refine aftp_s (by rfl) ?_; conv => whnf)
  (refine rows_s (by ((refine sub_all ?_; simp [List.length_map, mkS_len, setRow_len]; done))) ?_; conv => whnf)
  (refine rows_s (by (exact sub_map _ _ _ _)) ?_; conv => whnf)
  (refine aftp_s (by ((simp [madC, ownI, w2, subA, List.map_take]))) ?_; conv => whnf)
  exact True.intro


theorem c144 (a : Int) (c : List Int) (ms : List Mk) (i : Int) (h1 : 0 ≤ a) (h2 : a ≤ 100000) (h3 : c.length ≤ 1000) (h4 : 0 ≤ i) (h5 : i < c.length) :
    Con Try.prog 144 [.obj (madC a c ms), .int .i64 i] [.obj (madC a (c.set i.toNat (a + c.length)) ms), .undef] (.tup []) := by
  refine Con.evP 12 [500000] rfl T_ok mix Try.func144 rfl rfl rfl rfl [] rfl ?_
  conv => whnf
  iterate 3 (refine ChkS.mk (by kernel_rfl) ?_; conv => whnf)
  (refine rq_s (by (rfl)) ?_; conv => whnf)
  iterate 4 (refine ChkS.mk (by kernel_rfl) ?_; conv => whnf)
  (refine handp_s 145 [none] ?_; conv => whnf)
  iterate 3 (refine rq_s (by (rfl)) ?_; conv => whnf)
  (refine rq_s (by ((simp only [decide_eq_true_eq, List.length_map, mkS_len, setRow_len]; done))) ?_; conv => whnf)
  iterate 2 (refine rq_s (by (rfl)) ?_; conv => whnf)
  (refine rq_s (by ((simp only [decide_eq_true_eq, List.length_map, mkS_len, setRow_len]; done))) ?_; conv => whnf)
  (refine rq_s (by (rfl)) ?_; conv => whnf)
  (focus (apply callpe_s (f := 145); (· repeat' (first | (refine sub_all ?_; simp [List.length_map, mkS_len, setRow_len]; done) | exact sub_map _ _ _ _ | apply cons_eq | apply obj_eq | apply agg_eq | apply own_eq | apply ro_eq | apply rp_eq | apply fnc_eq | rfl)); refine callp_s (f := 145) rfl (c145 _ _ _ h1 h2 h3) ?_; conv => whnf))
  (refine ChkS.mk (by kernel_rfl) ?_; conv => whnf)
  (refine rq_s (by ((simp only [Bool.and_eq_true, decide_eq_true_eq, List.length_map]; omega))) ?_; conv => whnf)
  (refine rq_s (by ((simp only [decide_eq_true_eq, List.length_map, mkS_len, setRow_len]; done))) ?_; conv => whnf)
  (refine rq_s (by ((refine and_s rfl ?_; simp only [decide_eq_true_eq, List.length_map]; omega))) ?_; conv => whnf)
  (refine ChkS.mk (by kernel_rfl) ?_; conv => whnf)
  (refine rows_s (by ((rw [Nat.zero_add, setRow_int _ _ _ _ (by omega)]))) ?_; conv => whnf)
  (refine ChkS.mk (by kernel_rfl) ?_; conv => whnf)
  (refine fac_s (fun hf => ?_); conv => whnf)
  (refine aftp_s (by rfl) ?_; conv => whnf)
  iterate 2 (refine rows_s (by ((refine sub_all ?_; simp [List.length_map, mkS_len, setRow_len]; done))) ?_; conv => whnf)
  (refine aftp_s (by rfl) ?_; conv => whnf)
  exact True.intro
end I9
