/- The lines of a host, by the reference: contracts. -/
import Derived.Test.YtdbjklhadnnbdaaDoorHlB
set_option linter.unusedVariables false
set_option linter.unusedSimpArgs false
set_option maxRecDepth 100000
open Go Go.Abs Go.Proofs V1 H1 D2 D3
namespace D4



set_option maxHeartbeats 4000000 in
theorem c56 (h : Hst) (ok : HostOk h) : Con Tryd.prog 56 [hstV h] (undefs [hstV h]) (ownS (hostT h)) := by
  have hgr := ok.gr
  have hst := ok.st
  have hq := ok.q
  have htk := ok.tk
  have hds := ok.ds
  have i1 := itoa_len (n := h.tk) (by omega) (by omega)
  have i2 := itoa_len (n := (h.q.length : Int)) (by omega) (by omega)
  have g4 := grT_len h.gr 4
  refine Con.ev 97 T_ok mix Tryd.func56 rfl rfl rfl rfl [.tmp 2] rfl ?_
  conv => whnf
  (refine rq_s (by (rfl)) ?_; conv => whnf)
  rotate_left
  refine LoopG.auto (α := Nat) T_ok mix [1, 3, 4] (fun i => [(1, .ptr 1 0 0), (3, .str (grT h.gr i)), (4, .int .i64 i)]) (fun _ => [(1, hstB h)]) (fun i => i ≤ 4) (fun i => 4 - i) ?_ ?_
  · conv => whnf
    (refine ChkS.mk (by kernel_rfl) ?_; conv => whnf)
    rotate_left
    exact head_s 0 (by simp) (by simp [grT]) rfl
  · intro i hi _ _
    have gi := grT_len h.gr i
    have ci := capW_len i
    rw [List.getD_eq_getElem?_getD] at ci
    by_cases hi2 : i < 4
    · have hlt : decide ((i : Int) < 4) = true := by simp; omega
      have hnx := grT_next h.gr i
      conv => whnf
      (refine br_t (by assumption) ?_; conv => whnf)
      iterate 2 (refine rq_s (by (rfl)) ?_; conv => whnf)
      (refine rq_s (by ((refine and_s rfl ?_; simp only [decide_eq_true_eq, List.length_map]; omega))) ?_; conv => whnf)
      (refine row_s (by (exact row_map boolR _ _ _ false (by omega))) ?_; conv => whnf)
      (refine br_s (fun hb => ?_) (fun hb => ?_) <;> (try simp only [beq_iff_eq, bne_iff_ne, ne_eq, decide_eq_true_eq, decide_eq_false_iff_not, Int.not_lt, Int.not_le, Bool.false_eq_true, if_false, if_true, beq_eq_false_iff_ne, bne_eq_false_iff_eq, Bool.not_eq_true', Bool.not_eq_false', Int.ofNat_lt, Int.ofNat_le, Int.ofNat_inj, List.length_map, List.length_nil, List.length_cons] at hb) <;> conv => whnf)
      (refine lend_s ?_; conv => whnf)
      (refine call_s (c105 ..) ?_; conv => whnf)
      (refine rq_s (by (rfl)) ?_; conv => whnf)
      (refine rq_s (by ((simp only [decide_eq_true_eq, List.length_map]; done))) ?_; conv => whnf)
      (refine rq_s (by (((first | (simp [maxStr]; done) | (simp [maxStr]; omega) | (simp [capW]; omega))))) ?_; conv => whnf)
      (refine row_s (by (exact row_map strR _ _ _ [] (by simp [capW]; omega))) ?_; conv => whnf)
      iterate 2 (refine rq_s (by (((first | (simp [maxStr]; done) | (simp [maxStr]; omega) | (simp [capW]; omega))))) ?_; conv => whnf)
      (refine fac_s (fun hf => ?_); conv => whnf)
      (refine ChkS.mk (by kernel_rfl) ?_; conv => whnf)
      rotate_left
      (refine ChkS.mk (by kernel_rfl) ?_; conv => whnf)
      rotate_left
      all_goals (
        simp only [Int.toNat_natCast] at hb
        refine head_s (i + 1) ⟨by omega, by omega⟩ ?_ rfl
        rw [wrap64 (by omega) (by omega), hnx, hb]
        simp only [Int.toNat_natCast, Nat.zero_add, if_true, Bool.false_eq_true, if_false]
        rfl)
    · have hlt : decide ((i : Int) < 4) = false := by simp; omega
      obtain rfl : i = 4 := by omega
      conv => whnf
      (refine br_f rfl ?_; conv => whnf)
      iterate 2 (refine ChkS.mk (by kernel_rfl) ?_; conv => whnf)
      (refine rq_s (by (rfl)) ?_; conv => whnf)
      iterate 2 (refine ChkS.mk (by kernel_rfl) ?_; conv => whnf)
      (refine rq_s (by (rfl)) ?_; conv => whnf)
      (refine call_s (c98 ..) ?_; conv => whnf)
      (refine ChkS.mk (by kernel_rfl) ?_; conv => whnf)
      (refine rq_s (by (((first | (simp [maxStr]; done) | (simp [maxStr]; omega) | (simp [capW]; omega))))) ?_; conv => whnf)
      (refine ChkS.mk (by kernel_rfl) ?_; conv => whnf)
      (refine rq_s (by (((first | (simp [maxStr]; done) | (simp [maxStr]; omega) | (simp [capW]; omega))))) ?_; conv => whnf)
      (refine ChkS.mk (by kernel_rfl) ?_; conv => whnf)
      (refine rq_s (by (rfl)) ?_; conv => whnf)
      iterate 3 (refine ChkS.mk (by kernel_rfl) ?_; conv => whnf)
      (refine rq_s (by (rfl)) ?_; conv => whnf)
      (refine call_s (c98 ..) ?_; conv => whnf)
      (refine ChkS.mk (by kernel_rfl) ?_; conv => whnf)
      (refine rq_s (by (((first | (simp [maxStr]; done) | (simp [maxStr]; omega) | (simp [capW]; omega))))) ?_; conv => whnf)
      (refine ChkS.mk (by kernel_rfl) ?_; conv => whnf)
      (refine rq_s (by (rfl)) ?_; conv => whnf)
      iterate 2 (refine ChkS.mk (by kernel_rfl) ?_; conv => whnf)
      iterate 2 (refine fac_s (fun hf => ?_); conv => whnf)
      rotate_left
      refine LoopG.auto (α := Nat) T_ok mix [1, 5, 6] (fun i => [(1, .ptr 1 0 0), (5, .ref 2 0 (L2 h i).length), (6, .int .i64 i)]) (fun i => [(1, hstB h), (2, linB (L2 h i))]) (fun i => i ≤ 8) (fun i => 8 - i) ?_ ?_
      · conv => whnf
        (refine ChkS.mk (by kernel_rfl) ?_; conv => whnf)
        rotate_left
        refine head_s 0 (by simp) ?_ ?_
        · simp [L2, storeT]
        · simp [L2, storeT, clockT, spaced_one, linB, strR, hstB, roB, roI, roD]
      · intro i hi _ _
        have hL : (L2 h i).length ≤ 20 := by
          have : (storeT h.st i).length ≤ i := storeT_len _ _
          simp only [L2, List.length_append, List.length_cons, List.length_nil]
          omega
        by_cases hi2 : i < 8
        · have hlt : decide ((i : Int) < 8) = true := by simp; omega
          have hc := cells_get ok.cst (i := i) (by omega) 0
          have hnx : L2 h (i + 1) = if h.st.getD i 0 = 0 then L2 h i else L2 h i ++ [[115, 116, 111, 114, 101] ++ spacedL [(i : Int), h.st.getD i 0]] := by
            rw [L2, storeT_next]
            split
            · rfl
            · rw [← List.append_assoc]
          have hrow : ∀ z, rowA (h.st.map intR) i z = intR (h.st.getD i 0) := fun z => row_map intR _ _ _ 0 (by omega)
          generalize h.st.getD i 0 = y at *
          generalize L2 h i = ls at *
          have i3 := itoa_len (n := (i : Int)) (by omega) (by omega)
          have i4 := itoa_len (n := y) (by omega) (by omega)
          conv => whnf
          (refine br_t (by assumption) ?_; conv => whnf)
          iterate 2 (refine rq_s (by (rfl)) ?_; conv => whnf)
          (refine rq_s (by ((refine and_s rfl ?_; simp only [decide_eq_true_eq, List.length_map]; omega))) ?_; conv => whnf)
          (refine row_s (by (exact hrow _)) ?_; conv => whnf)
          (refine br_s (fun hb => ?_) (fun hb => ?_) <;> (try simp only [beq_iff_eq, bne_iff_ne, ne_eq, decide_eq_true_eq, decide_eq_false_iff_not, Int.not_lt, Int.not_le, Bool.false_eq_true, if_false, if_true, beq_eq_false_iff_ne, bne_eq_false_iff_eq, Bool.not_eq_true', Bool.not_eq_false', Int.ofNat_lt, Int.ofNat_le, Int.ofNat_inj, List.length_map, List.length_nil, List.length_cons] at hb) <;> conv => whnf)
          iterate 3 (refine ChkS.mk (by kernel_rfl) ?_; conv => whnf)
          (refine rq_s (by (rfl)) ?_; conv => whnf)
          (refine call_s (c98 ..) ?_; conv => whnf)
          (refine ChkS.mk (by kernel_rfl) ?_; conv => whnf)
          (refine rq_s (by (((first | (simp [maxStr]; done) | (simp [maxStr]; omega) | (simp [maxBytes, subA]; done) | (simp [maxBytes, subA]; omega))))) ?_; conv => whnf)
          (refine ChkS.mk (by kernel_rfl) ?_; conv => whnf)
          (refine rq_s (by (((first | (simp [maxStr]; done) | (simp [maxStr]; omega) | (simp [maxBytes, subA]; done) | (simp [maxBytes, subA]; omega))))) ?_; conv => whnf)
          (refine ChkS.mk (by kernel_rfl) ?_; conv => whnf)
          (refine rq_s (by (rfl)) ?_; conv => whnf)
          iterate 3 (refine ChkS.mk (by kernel_rfl) ?_; conv => whnf)
          (refine rq_s (by (rfl)) ?_; conv => whnf)
          (refine rq_s (by ((refine and_s rfl ?_; simp only [decide_eq_true_eq, List.length_map]; omega))) ?_; conv => whnf)
          (refine ChkS.mk (by kernel_rfl) ?_; conv => whnf)
          (refine row_s (by (exact hrow _)) ?_; conv => whnf)
          (refine ChkS.mk (by kernel_rfl) ?_; conv => whnf)
          (refine rq_s (by (rfl)) ?_; conv => whnf)
          (refine call_s (c98 ..) ?_; conv => whnf)
          (refine ChkS.mk (by kernel_rfl) ?_; conv => whnf)
          (refine rq_s (by (((first | (simp [maxStr]; done) | (simp [maxStr]; omega) | (simp [maxBytes, subA]; done) | (simp [maxBytes, subA]; omega))))) ?_; conv => whnf)
          (refine ChkS.mk (by kernel_rfl) ?_; conv => whnf)
          (refine rq_s (by (rfl)) ?_; conv => whnf)
          (refine ChkS.mk (by kernel_rfl) ?_; conv => whnf)
          (refine rq_s (by ((simp only [decide_eq_true_eq, List.length_map]; done))) ?_; conv => whnf)
          iterate 2 (refine rq_s (by (rfl)) ?_; conv => whnf)
          (refine rq_s (by ((simp only [decide_eq_true_eq, List.length_map]; done))) ?_; conv => whnf)
          (refine rq_s (by (((first | (simp [maxStr]; done) | (simp [maxStr]; omega) | (simp [maxBytes, subA]; done) | (simp [maxBytes, subA]; omega))))) ?_; conv => whnf)
          (refine appf_s strR rfl ?_; conv => whnf)
          iterate 2 (refine ChkS.mk (by kernel_rfl) ?_; conv => whnf)
          iterate 2 (refine fac_s (fun hf => ?_); conv => whnf)
          (refine ChkS.mk (by kernel_rfl) ?_; conv => whnf)
          rotate_left
          (refine ChkS.mk (by kernel_rfl) ?_; conv => whnf)
          rotate_left
          · refine head_s (i + 1) ⟨by omega, by omega⟩ ?_ ?_
            · rw [hnx, if_neg hb, spaced_2, wrap64 (by omega) (by omega)]
              first | rfl | simp
            · rw [hnx, if_neg hb, spaced_2]
              first | rfl | simp [hstB, linB, strR, roB, roI, roD]
          · refine head_s (i + 1) ⟨by omega, by omega⟩ ?_ ?_
            · rw [hnx, if_pos hb, wrap64 (by omega) (by omega)]
              rfl
            · rw [hnx, if_pos hb]
              rfl
        · have hlt : decide ((i : Int) < 8) = false := by simp; omega
          obtain rfl : i = 8 := by omega
          have e0 : L3 h 0 = L2 h 8 := by simp [L3, L2]
          generalize L2 h 8 = ls at *
          conv => whnf
          (refine br_f rfl ?_; conv => whnf)
          rotate_left
          refine LoopG.auto (α := Nat) T_ok mix [1, 5, 7] (fun i => [(1, .ptr 1 0 0), (5, .ref 2 0 (L3 h i).length), (7, .int .i64 i)]) (fun i => [(1, hstB h), (2, linB (L3 h i))]) (fun i => i ≤ h.ds.length) (fun i => h.ds.length - i) ?_ ?_
          · conv => whnf
            (refine ChkS.mk (by kernel_rfl) ?_; conv => whnf)
            rotate_left
            refine head_s 0 (by simp) ?_ ?_
            · rw [e0]
              first | rfl | simp
            · rw [e0]
              rfl
          · clear hL
            intro i hi _ _
            have hL : (L3 h i).length ≤ 60 := by
              have : (storeT h.st 8).length ≤ 8 := storeT_len _ _
              simp only [L3, List.length_append, List.length_cons, List.length_nil, List.length_map, List.length_take]
              omega
            by_cases hi2 : i < h.ds.length
            · have hlt : decide ((i : Int) < ((h.ds.map dealR).length : Int)) = true := by simp; omega
              have hd := deal_r (deals_get ok.cds hi2 default)
              have hnx := L3_next hi2
              have hrow : ∀ z, rowA (h.ds.map dealR) i z = dealR (h.ds.getD i default) := fun z => row_map dealR _ _ _ default hi2
              generalize h.ds.getD i default = d at *
              generalize L3 h i = ls at *
              have i3 := itoa_len (n := d.a) (by omega) (by omega)
              have i4 := itoa_len (n := d.b) (by omega) (by omega)
              have i5 := itoa_len (n := d.r) (by omega) (by omega)
              have ci := capW_len d.c.toNat
              rw [List.getD_eq_getElem?_getD] at ci
              conv => whnf
              (refine rq_s (by (rfl)) ?_; conv => whnf)
              (refine br_t (by assumption) ?_; conv => whnf)
              iterate 2 (refine rq_s (by (rfl)) ?_; conv => whnf)
              (refine rq_s (by ((refine and_s rfl ?_; simp only [decide_eq_true_eq, List.length_map]; omega))) ?_; conv => whnf)
              (refine row_s (by (exact hrow _)) ?_; conv => whnf)
              iterate 2 (refine ChkS.mk (by kernel_rfl) ?_; conv => whnf)
              (refine call_s (c105 ..) ?_; conv => whnf)
              (refine ChkS.mk (by kernel_rfl) ?_; conv => whnf)
              (refine rq_s (by (rfl)) ?_; conv => whnf)
              iterate 2 (refine ChkS.mk (by kernel_rfl) ?_; conv => whnf)
              (refine rq_s (by ((simp only [Bool.and_eq_true, decide_eq_true_eq, List.length_map]; omega))) ?_; conv => whnf)
              (refine rq_s (by ((simp only [decide_eq_true_eq, List.length_map]; done))) ?_; conv => whnf)
              (refine rq_s (by (((first | (simp [maxStr]; done) | (simp [maxStr]; omega) | (simp [maxBytes, subA]; done) | (simp [maxBytes, subA]; omega) | (simp [capW]; omega))))) ?_; conv => whnf)
              (refine ChkS.mk (by kernel_rfl) ?_; conv => whnf)
              (refine row_s (by (exact row_map strR _ _ _ [] (by simp [capW]; omega))) ?_; conv => whnf)
              (refine ChkS.mk (by kernel_rfl) ?_; conv => whnf)
              (refine rq_s (by (((first | (simp [maxStr]; done) | (simp [maxStr]; omega) | (simp [maxBytes, subA]; done) | (simp [maxBytes, subA]; omega) | (simp [capW]; omega))))) ?_; conv => whnf)
              (refine ChkS.mk (by kernel_rfl) ?_; conv => whnf)
              (refine rq_s (by (rfl)) ?_; conv => whnf)
              iterate 2 (refine ChkS.mk (by kernel_rfl) ?_; conv => whnf)
              (refine rq_s (by (rfl)) ?_; conv => whnf)
              (refine call_s (c98 ..) ?_; conv => whnf)
              (refine ChkS.mk (by kernel_rfl) ?_; conv => whnf)
              (refine rq_s (by (((first | (simp [maxStr]; done) | (simp [maxStr]; omega) | (simp [maxBytes, subA]; done) | (simp [maxBytes, subA]; omega) | (simp [capW]; omega))))) ?_; conv => whnf)
              (refine ChkS.mk (by kernel_rfl) ?_; conv => whnf)
              (refine rq_s (by (((first | (simp [maxStr]; done) | (simp [maxStr]; omega) | (simp [maxBytes, subA]; done) | (simp [maxBytes, subA]; omega) | (simp [capW]; omega))))) ?_; conv => whnf)
              (refine ChkS.mk (by kernel_rfl) ?_; conv => whnf)
              (refine rq_s (by (rfl)) ?_; conv => whnf)
              iterate 2 (refine ChkS.mk (by kernel_rfl) ?_; conv => whnf)
              (refine rq_s (by (rfl)) ?_; conv => whnf)
              (refine call_s (c98 ..) ?_; conv => whnf)
              (refine ChkS.mk (by kernel_rfl) ?_; conv => whnf)
              (refine rq_s (by (((first | (simp [maxStr]; done) | (simp [maxStr]; omega) | (simp [maxBytes, subA]; done) | (simp [maxBytes, subA]; omega) | (simp [capW]; omega))))) ?_; conv => whnf)
              (refine ChkS.mk (by kernel_rfl) ?_; conv => whnf)
              (refine rq_s (by (((first | (simp [maxStr]; done) | (simp [maxStr]; omega) | (simp [maxBytes, subA]; done) | (simp [maxBytes, subA]; omega) | (simp [capW]; omega))))) ?_; conv => whnf)
              (refine ChkS.mk (by kernel_rfl) ?_; conv => whnf)
              (refine rq_s (by (rfl)) ?_; conv => whnf)
              iterate 2 (refine ChkS.mk (by kernel_rfl) ?_; conv => whnf)
              (refine rq_s (by (rfl)) ?_; conv => whnf)
              (refine call_s (c98 ..) ?_; conv => whnf)
              (refine ChkS.mk (by kernel_rfl) ?_; conv => whnf)
              (refine rq_s (by (((first | (simp [maxStr]; done) | (simp [maxStr]; omega) | (simp [maxBytes, subA]; done) | (simp [maxBytes, subA]; omega) | (simp [capW]; omega))))) ?_; conv => whnf)
              (refine ChkS.mk (by kernel_rfl) ?_; conv => whnf)
              (refine rq_s (by (rfl)) ?_; conv => whnf)
              (refine ChkS.mk (by kernel_rfl) ?_; conv => whnf)
              (refine rq_s (by ((simp only [decide_eq_true_eq, List.length_map]; done))) ?_; conv => whnf)
              iterate 2 (refine rq_s (by (rfl)) ?_; conv => whnf)
              (refine rq_s (by ((simp only [decide_eq_true_eq, List.length_map]; done))) ?_; conv => whnf)
              (refine rq_s (by (((first | (simp [maxStr]; done) | (simp [maxStr]; omega) | (simp [maxBytes, subA]; done) | (simp [maxBytes, subA]; omega) | (simp [capW]; omega))))) ?_; conv => whnf)
              (refine appf_s strR rfl ?_; conv => whnf)
              iterate 2 (refine ChkS.mk (by kernel_rfl) ?_; conv => whnf)
              iterate 4 (refine fac_s (fun hf => ?_); conv => whnf)
              (refine ChkS.mk (by kernel_rfl) ?_; conv => whnf)
              rotate_left
              refine head_s (i + 1) ⟨by omega, by omega⟩ ?_ ?_
              · rw [hnx, dealT, spaced_3, wrap64 (by omega) (by omega)]
                simp only [Nat.zero_add]
                first | rfl | simp [hstB, linB, strR, roB, roI, roD]
              · rw [hnx, dealT, spaced_3]
                simp only [Nat.zero_add]
                first | rfl | simp [hstB, linB, strR, roB, roI, roD]
            · have hlt : decide ((i : Int) < ((h.ds.map dealR).length : Int)) = false := by simp; omega
              obtain rfl : i = h.ds.length := by omega
              have e1 : L3 h h.ds.length = hostT h := by simp [L3, hostT]
              rw [e1] at *
              conv => whnf
              (refine rq_s (by (rfl)) ?_; conv => whnf)
              (focus (refine br_f (by (simp; done)) ?_; conv => whnf))
              (refine rq_s (by ((simp only [decide_eq_true_eq, List.length_map]; done))) ?_; conv => whnf)
              (refine rq_s (by (rfl)) ?_; conv => whnf)
              (refine rows_s (by ((refine sub_all ?_; simp [List.length_map]; done))) ?_; conv => whnf)
              rotate_left
              exact ⟨Sh.refl _⟩
end D4
