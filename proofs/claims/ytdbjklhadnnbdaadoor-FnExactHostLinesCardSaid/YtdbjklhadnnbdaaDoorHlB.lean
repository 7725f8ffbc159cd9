/- The lines of a host: contracts. -/
import Derived.Test.YtdbjklhadnnbdaaDoorHlA
set_option linter.unusedVariables false
set_option linter.unusedSimpArgs false
set_option maxRecDepth 100000
open Go Go.Abs Go.Proofs V1 H1 D2
namespace D3

def hstB (h : Hst) : MB := .live ⟨false, 0, [roB h.gr, roI h.st, roI h.q, .int .i64 h.tk, roD h.ds], [[roB h.gr, roI h.st, roI h.q, .int .i64 h.tk, roD h.ds]]⟩
def linB (xs : List (List UInt8)) : MB := .live ⟨true, 0, [.str []], xs.map strR⟩
abbrev L2 (h : Hst) (i : Nat) : List (List UInt8) := [grT h.gr 4, clockT h] ++ storeT h.st i
abbrev L3 (h : Hst) (i : Nat) : List (List UInt8) := [grT h.gr 4, clockT h] ++ storeT h.st 8 ++ (h.ds.take i).map dealT
theorem L3_next {h : Hst} {i : Nat} (hi : i < h.ds.length) : L3 h (i + 1) = L3 h i ++ [dealT (h.ds.getD i default)] := by
  have e : h.ds.getD i default = h.ds[i] := by simp [hi]
  rw [L3, L3, e, List.take_succ_eq_append_getElem hi, List.map_append, ← List.append_assoc]
  rfl
theorem sp1 (n : Int) (h1 : -2147483648 ≤ n) (h2 : n ≤ 2147483647) : Con Tryd.prog 51 [roI [n]] (undefs [roI [n]]) (.str (32 :: Lib.itoa n)) := by
  have := c51 [n] (by simp) (by simp; omega)
  rwa [spaced_one] at this
theorem sp2 (a b : Int) (h1 : -2147483648 ≤ a) (h2 : a ≤ 2147483647) (h3 : -2147483648 ≤ b) (h4 : b ≤ 2147483647) : Con Tryd.prog 51 [roI [a, b]] (undefs [roI [a, b]]) (.str ((32 :: Lib.itoa a) ++ (32 :: Lib.itoa b))) := by
  have := c51 [a, b] (by simp) (by simp; omega)
  rwa [spaced_2] at this
theorem sp3 (a b c : Int) (h1 : -2147483648 ≤ a) (h2 : a ≤ 2147483647) (h3 : -2147483648 ≤ b) (h4 : b ≤ 2147483647) (h5 : -2147483648 ≤ c) (h6 : c ≤ 2147483647) : Con Tryd.prog 51 [roI [a, b, c]] (undefs [roI [a, b, c]]) (.str ((32 :: Lib.itoa a) ++ (32 :: Lib.itoa b) ++ (32 :: Lib.itoa c))) := by
  have := c51 [a, b, c] (by simp) (by simp; omega)
  rwa [spaced_3] at this


set_option maxHeartbeats 4000000 in
theorem c60 (h : Hst) (ok : HostOk h) : Con Tryd.prog 60 [hstV h] (undefs [hstV h]) (ownS (hostT h)) := by
  have hgr := ok.gr
  have hst := ok.st
  have hq := ok.q
  have htk := ok.tk
  have hds := ok.ds
  have i1 := itoa_len (n := h.tk) (by omega) (by omega)
  have i2 := itoa_len (n := (h.q.length : Int)) (by omega) (by omega)
  have g4 := grT_len h.gr 4
  refine Con.ev 87 T_ok mix Tryd.func60 rfl rfl rfl rfl [.tmp 2] rfl ?_
  conv => whnf
  iterate 2 (refine rq_s (by (rfl)) ?_; conv => whnf)
  rotate_left
  refine LoopG.auto (α := Nat) T_ok mix [1, 3, 12, 13, 14] (fun i => [(1, .ptr 1 0 0), (3, .str (grT h.gr i)), (12, roB h.gr), (13, .int .i64 h.gr.length), (14, .int .i64 i)]) (fun _ => [(1, hstB h)]) (fun i => i ≤ 4) (fun i => 4 - i) ?_ ?_
  · conv => whnf
    (refine ChkS.mk (by kernel_rfl) ?_; conv => whnf)
    rotate_left
    exact head_s 0 (by simp) (by simp [grT, roB]) rfl
  · intro i hi _ _
    have gi := grT_len h.gr i
    have ci := capW_len i
    rw [List.getD_eq_getElem?_getD] at ci
    by_cases hi2 : i < 4
    · have hlt : decide ((i : Int) < (h.gr.length : Int)) = true := by simp; omega
      have hnx := grT_next h.gr i
      conv => whnf
      (refine br_t (by assumption) ?_; conv => whnf)
      (refine rq_s (by (rfl)) ?_; conv => whnf)
      (refine rq_s (by ((refine and_s rfl ?_; simp only [decide_eq_true_eq, List.length_map]; omega))) ?_; conv => whnf)
      (refine row_s (by (exact row_map boolR _ _ _ false (by omega))) ?_; conv => whnf)
      (refine br_s (fun hb => ?_) (fun hb => ?_) <;> (try simp only [beq_iff_eq, bne_iff_ne, ne_eq, decide_eq_true_eq, decide_eq_false_iff_not, Int.not_lt, Int.not_le, Bool.false_eq_true, if_false, if_true, beq_eq_false_iff_ne, bne_eq_false_iff_eq, Bool.not_eq_true', Bool.not_eq_false', Int.ofNat_lt, Int.ofNat_le, Int.ofNat_inj, List.length_map, List.length_nil, List.length_cons] at hb) <;> conv => whnf)
      (refine lend_s ?_; conv => whnf)
      (refine call_s (c94 ..) ?_; conv => whnf)
      (refine rq_s (by (rfl)) ?_; conv => whnf)
      (refine rq_s (by ((simp only [decide_eq_true_eq, List.length_map]; done))) ?_; conv => whnf)
      (refine rq_s (by (((first | (simp [maxStr]; done) | (simp [maxStr]; omega) | (simp [capW]; omega))))) ?_; conv => whnf)
      (refine row_s (by (exact row_map strR _ _ _ [] (by simp [capW]; omega))) ?_; conv => whnf)
      iterate 2 (refine rq_s (by (((first | (simp [maxStr]; done) | (simp [maxStr]; omega) | (simp [capW]; omega))))) ?_; conv => whnf)
      (refine fac_s (fun hf => ?_); conv => whnf)
      (refine ChkS.mk (by kernel_rfl) ?_; conv => whnf)
      rotate_left
      (refine ChkS.mk (by kernel_rfl) ?_; conv => whnf)
      rotate_left
      all_goals (
        simp only [Int.toNat_natCast] at hb
        refine head_s (i + 1) ⟨by omega, by omega⟩ ?_ rfl
        rw [wrap64 (by omega) (by omega), hnx, hb]
        simp only [Int.toNat_natCast, Nat.zero_add, if_true, Bool.false_eq_true, if_false]
        rfl)
    · have hlt : decide ((i : Int) < (h.gr.length : Int)) = false := by simp; omega
      obtain rfl : i = 4 := by omega
      conv => whnf
      (refine br_f (by assumption) ?_; conv => whnf)
      iterate 2 (refine ChkS.mk (by kernel_rfl) ?_; conv => whnf)
      (refine rq_s (by (rfl)) ?_; conv => whnf)
      iterate 2 (refine ChkS.mk (by kernel_rfl) ?_; conv => whnf)
      (refine rq_s (by (rfl)) ?_; conv => whnf)
      (refine ChkS.mk (by kernel_rfl) ?_; conv => whnf)
      (refine rq_s (by ((simp only [decide_eq_true_eq, List.length_map]; done))) ?_; conv => whnf)
      (refine rq_s (by (rfl)) ?_; conv => whnf)
      (refine rows_s (by ((refine sub_all ?_; simp [List.length_map]; done))) ?_; conv => whnf)
      (refine call_s (sp1 _ (by first | omega | (simp; omega)) (by first | omega | (simp; omega))) ?_; conv => whnf)
      (refine ChkS.mk (by kernel_rfl) ?_; conv => whnf)
      (refine rq_s (by (((first | (simp [maxStr]; done) | (simp [maxStr]; omega) | (simp [capW]; omega))))) ?_; conv => whnf)
      (refine ChkS.mk (by kernel_rfl) ?_; conv => whnf)
      (refine rq_s (by (((first | (simp [maxStr]; done) | (simp [maxStr]; omega) | (simp [capW]; omega))))) ?_; conv => whnf)
      (refine ChkS.mk (by kernel_rfl) ?_; conv => whnf)
      (refine rq_s (by (rfl)) ?_; conv => whnf)
      iterate 3 (refine ChkS.mk (by kernel_rfl) ?_; conv => whnf)
      (refine rq_s (by (rfl)) ?_; conv => whnf)
      (refine ChkS.mk (by kernel_rfl) ?_; conv => whnf)
      (refine rq_s (by ((simp only [decide_eq_true_eq, List.length_map]; done))) ?_; conv => whnf)
      (refine rq_s (by (rfl)) ?_; conv => whnf)
      (refine rows_s (by ((refine sub_all ?_; simp [List.length_map]; done))) ?_; conv => whnf)
      (refine call_s (sp1 _ (by first | omega | (simp; omega)) (by first | omega | (simp; omega))) ?_; conv => whnf)
      (refine ChkS.mk (by kernel_rfl) ?_; conv => whnf)
      (refine rq_s (by (((first | (simp [maxStr]; done) | (simp [maxStr]; omega) | (simp [capW]; omega))))) ?_; conv => whnf)
      (refine ChkS.mk (by kernel_rfl) ?_; conv => whnf)
      (refine rq_s (by (rfl)) ?_; conv => whnf)
      iterate 2 (refine ChkS.mk (by kernel_rfl) ?_; conv => whnf)
      iterate 2 (refine fac_s (fun hf => ?_); conv => whnf)
      (refine rq_s (by (rfl)) ?_; conv => whnf)
      rotate_left
      refine LoopG.auto (α := Nat) T_ok mix [1, 6, 43, 44, 45] (fun i => [(1, .ptr 1 0 0), (6, .ref 2 0 (L2 h i).length), (43, roI h.st), (44, .int .i64 h.st.length), (45, .int .i64 i)]) (fun i => [(1, hstB h), (2, linB (L2 h i))]) (fun i => i ≤ 8) (fun i => 8 - i) ?_ ?_
      · conv => whnf
        (refine ChkS.mk (by kernel_rfl) ?_; conv => whnf)
        rotate_left
        refine head_s 0 (by simp) ?_ ?_
        · simp [L2, storeT, roI]
        · simp [L2, storeT, clockT, spaced_one, linB, strR, hstB, roB, roI, roD]
      · intro i hi _ _
        have hL : (L2 h i).length ≤ 20 := by
          have : (storeT h.st i).length ≤ i := storeT_len _ _
          simp only [L2, List.length_append, List.length_cons, List.length_nil]
          omega
        by_cases hi2 : i < 8
        · have hlt : decide ((i : Int) < (h.st.length : Int)) = true := by simp; omega
          have hc := cells_get ok.cst (i := i) (by omega) 0
          have hnx : L2 h (i + 1) = if h.st.getD i 0 = 0 then L2 h i else L2 h i ++ [[115, 116, 111, 114, 101] ++ spacedL [(i : Int), h.st.getD i 0]] := by
            rw [L2, storeT_next]
            split
            · rfl
            · rw [← List.append_assoc]
          have hrow : ∀ z, rowA (h.st.map intR) i z = intR (h.st.getD i 0) := fun z => row_map intR _ _ _ 0 (by omega)
          generalize h.st.getD i 0 = y at *
          generalize L2 h i = ls at *
          have i3 := itoa_len (n := (i : Int)) (by omega) (by omega)
          have i4 := itoa_len (n := y) (by omega) (by omega)
          conv => whnf
          (refine br_t (by assumption) ?_; conv => whnf)
          (refine rq_s (by (rfl)) ?_; conv => whnf)
          (refine rq_s (by ((refine and_s rfl ?_; simp only [decide_eq_true_eq, List.length_map]; omega))) ?_; conv => whnf)
          (refine row_s (by (exact hrow _)) ?_; conv => whnf)
          (refine br_s (fun hb => ?_) (fun hb => ?_) <;> (try simp only [beq_iff_eq, bne_iff_ne, ne_eq, decide_eq_true_eq, decide_eq_false_iff_not, Int.not_lt, Int.not_le, Bool.false_eq_true, if_false, if_true, beq_eq_false_iff_ne, bne_eq_false_iff_eq, Bool.not_eq_true', Bool.not_eq_false', Int.ofNat_lt, Int.ofNat_le, Int.ofNat_inj, List.length_map, List.length_nil, List.length_cons] at hb) <;> conv => whnf)
          (refine rq_s (by (rfl)) ?_; conv => whnf)
          (refine rq_s (by ((simp only [decide_eq_true_eq, List.length_map]; done))) ?_; conv => whnf)
          (refine rq_s (by (rfl)) ?_; conv => whnf)
          (refine lend_s ?_; conv => whnf)
          (refine rows_s (by ((refine sub_all ?_; simp [List.length_map]; done))) ?_; conv => whnf)
          (refine call_s (sp2 _ _ (by omega) (by omega) (by omega) (by omega)) ?_; conv => whnf)
          (refine rq_s (by (((first | (simp [maxStr]; done) | (simp [maxStr]; omega) | (simp [maxBytes, subA]; done) | (simp [maxBytes, subA]; omega))))) ?_; conv => whnf)
          (refine rq_s (by (rfl)) ?_; conv => whnf)
          (refine rq_s (by ((simp only [decide_eq_true_eq, List.length_map]; done))) ?_; conv => whnf)
          iterate 2 (refine rq_s (by (rfl)) ?_; conv => whnf)
          (refine rq_s (by ((simp only [decide_eq_true_eq, List.length_map]; done))) ?_; conv => whnf)
          (refine rq_s (by (((first | (simp [maxStr]; done) | (simp [maxStr]; omega) | (simp [maxBytes, subA]; done) | (simp [maxBytes, subA]; omega))))) ?_; conv => whnf)
          (refine appf_s strR rfl ?_; conv => whnf)
          (refine fac_s (fun hf => ?_); conv => whnf)
          (refine ChkS.mk (by kernel_rfl) ?_; conv => whnf)
          rotate_left
          (refine ChkS.mk (by kernel_rfl) ?_; conv => whnf)
          rotate_left
          · refine head_s (i + 1) ⟨by omega, by omega⟩ ?_ ?_
            · rw [hnx, if_neg hb, spaced_2, wrap64 (by omega) (by omega)]
              rfl
            · rw [hnx, if_neg hb, spaced_2]
              rfl
          · refine head_s (i + 1) ⟨by omega, by omega⟩ ?_ ?_
            · rw [hnx, if_pos hb, wrap64 (by omega) (by omega)]
              rfl
            · rw [hnx, if_pos hb]
              rfl
        · have hlt : decide ((i : Int) < (h.st.length : Int)) = false := by simp; omega
          obtain rfl : i = 8 := by omega
          have e0 : L3 h 0 = L2 h 8 := by simp [L3, L2]
          generalize L2 h 8 = ls at *
          conv => whnf
          (refine br_f (by assumption) ?_; conv => whnf)
          (refine rq_s (by (rfl)) ?_; conv => whnf)
          rotate_left
          refine LoopG.auto (α := Nat) T_ok mix [1, 6, 62, 63, 64] (fun i => [(1, .ptr 1 0 0), (6, .ref 2 0 (L3 h i).length), (62, roD h.ds), (63, .int .i64 h.ds.length), (64, .int .i64 i)]) (fun i => [(1, hstB h), (2, linB (L3 h i))]) (fun i => i ≤ h.ds.length) (fun i => h.ds.length - i) ?_ ?_
          · conv => whnf
            (refine ChkS.mk (by kernel_rfl) ?_; conv => whnf)
            rotate_left
            refine head_s 0 (by simp) ?_ ?_
            · rw [e0]
              simp [roD]
            · rw [e0]
              rfl
          · clear hL
            intro i hi _ _
            have hL : (L3 h i).length ≤ 60 := by
              have : (storeT h.st 8).length ≤ 8 := storeT_len _ _
              simp only [L3, List.length_append, List.length_cons, List.length_nil, List.length_map, List.length_take]
              omega
            by_cases hi2 : i < h.ds.length
            · have hlt : decide ((i : Int) < (h.ds.length : Int)) = true := by simp; omega
              have hd := deal_r (deals_get ok.cds hi2 default)
              have hnx := L3_next hi2
              have hrow : ∀ z, rowA (h.ds.map dealR) i z = dealR (h.ds.getD i default) := fun z => row_map dealR _ _ _ default hi2
              generalize h.ds.getD i default = d at *
              generalize L3 h i = ls at *
              have i3 := itoa_len (n := d.a) (by omega) (by omega)
              have i4 := itoa_len (n := d.b) (by omega) (by omega)
              have i5 := itoa_len (n := d.r) (by omega) (by omega)
              have ci := capW_len d.c.toNat
              rw [List.getD_eq_getElem?_getD] at ci
              conv => whnf
              (refine br_t (by assumption) ?_; conv => whnf)
              (refine rq_s (by (rfl)) ?_; conv => whnf)
              (refine rq_s (by ((refine and_s rfl ?_; simp only [decide_eq_true_eq, List.length_map]; omega))) ?_; conv => whnf)
              (refine row_s (by (exact hrow _)) ?_; conv => whnf)
              iterate 2 (refine ChkS.mk (by kernel_rfl) ?_; conv => whnf)
              (refine call_s (c94 ..) ?_; conv => whnf)
              (refine ChkS.mk (by kernel_rfl) ?_; conv => whnf)
              (refine rq_s (by (rfl)) ?_; conv => whnf)
              iterate 2 (refine ChkS.mk (by kernel_rfl) ?_; conv => whnf)
              (refine rq_s (by ((simp only [Bool.and_eq_true, decide_eq_true_eq, List.length_map]; omega))) ?_; conv => whnf)
              (refine rq_s (by ((simp only [decide_eq_true_eq, List.length_map]; done))) ?_; conv => whnf)
              (refine rq_s (by (((first | (simp [maxStr]; done) | (simp [maxStr]; omega) | (simp [maxBytes, subA]; done) | (simp [maxBytes, subA]; omega) | (simp [capW]; omega))))) ?_; conv => whnf)
              (refine ChkS.mk (by kernel_rfl) ?_; conv => whnf)
              (refine row_s (by (exact row_map strR _ _ _ [] (by simp [capW]; omega))) ?_; conv => whnf)
              (refine ChkS.mk (by kernel_rfl) ?_; conv => whnf)
              (refine rq_s (by (rfl)) ?_; conv => whnf)
              iterate 2 (refine ChkS.mk (by kernel_rfl) ?_; conv => whnf)
              (refine rq_s (by (rfl)) ?_; conv => whnf)
              iterate 2 (refine ChkS.mk (by kernel_rfl) ?_; conv => whnf)
              (refine rq_s (by (rfl)) ?_; conv => whnf)
              iterate 2 (refine ChkS.mk (by kernel_rfl) ?_; conv => whnf)
              (refine rq_s (by (rfl)) ?_; conv => whnf)
              (refine ChkS.mk (by kernel_rfl) ?_; conv => whnf)
              (refine rq_s (by ((simp only [decide_eq_true_eq, List.length_map]; done))) ?_; conv => whnf)
              (refine rq_s (by (rfl)) ?_; conv => whnf)
              (refine rows_s (by ((refine sub_all ?_; simp [List.length_map]; done))) ?_; conv => whnf)
              (refine call_s (sp3 _ _ _ (by omega) (by omega) (by omega) (by omega) (by omega) (by omega)) ?_; conv => whnf)
              (refine ChkS.mk (by kernel_rfl) ?_; conv => whnf)
              (refine rq_s (by (((first | (simp [maxStr]; done) | (simp [maxStr]; omega) | (simp [maxBytes, subA]; done) | (simp [maxBytes, subA]; omega) | (simp [capW]; omega))))) ?_; conv => whnf)
              (refine ChkS.mk (by kernel_rfl) ?_; conv => whnf)
              (refine rq_s (by (rfl)) ?_; conv => whnf)
              (refine ChkS.mk (by kernel_rfl) ?_; conv => whnf)
              (refine rq_s (by ((simp only [decide_eq_true_eq, List.length_map]; done))) ?_; conv => whnf)
              iterate 2 (refine rq_s (by (rfl)) ?_; conv => whnf)
              (refine rq_s (by ((simp only [decide_eq_true_eq, List.length_map]; done))) ?_; conv => whnf)
              (refine rq_s (by (((first | (simp [maxStr]; done) | (simp [maxStr]; omega) | (simp [maxBytes, subA]; done) | (simp [maxBytes, subA]; omega) | (simp [capW]; omega))))) ?_; conv => whnf)
              (refine appf_s strR rfl ?_; conv => whnf)
              iterate 2 (refine ChkS.mk (by kernel_rfl) ?_; conv => whnf)
              iterate 2 (refine fac_s (fun hf => ?_); conv => whnf)
              (refine ChkS.mk (by kernel_rfl) ?_; conv => whnf)
              rotate_left
              refine head_s (i + 1) ⟨by omega, by omega⟩ ?_ ?_
              · rw [hnx, dealT, spaced_3, wrap64 (by omega) (by omega)]
                simp only [Nat.zero_add]
                rfl
              · rw [hnx, dealT, spaced_3]
                simp only [Nat.zero_add]
                rfl
            · have hlt : decide ((i : Int) < (h.ds.length : Int)) = false := by simp; omega
              obtain rfl : i = h.ds.length := by omega
              have e1 : L3 h h.ds.length = hostT h := by simp [L3, hostT]
              rw [e1] at *
              conv => whnf
              (focus (refine br_f (by (simp; done)) ?_; conv => whnf))
              (refine rq_s (by ((simp only [decide_eq_true_eq, List.length_map]; done))) ?_; conv => whnf)
              (refine rq_s (by (rfl)) ?_; conv => whnf)
              (refine rows_s (by ((refine sub_all ?_; simp [List.length_map]; done))) ?_; conv => whnf)
              rotate_left
              exact ⟨Sh.refl _⟩
end D3
