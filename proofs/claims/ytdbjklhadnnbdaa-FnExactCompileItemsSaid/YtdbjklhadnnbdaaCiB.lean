/- What is open behind items, and sizes: contracts. -/
import Derived.Test.YtdbjklhadnnbdaaCiA
set_option linter.unusedVariables false
set_option linter.unusedSimpArgs false
set_option maxRecDepth 100000
open Go Go.Abs Go.Proofs V1 H1 I1
namespace I2

theorem roI_sh (xs : List Int) : Sh (ownI xs) (roI xs) := Sh.own_ro (by omega) _ _

theorem c154 (op : List Int) (k : Int) (h1 : 1 ≤ op.length) (h2 : op.length ≤ 1000) : Con Try.prog 154 [.int .i64 k, .rp [roI op] 0] (undefs [.int .i64 k, .rp [roI op] 0]) (ownI (op.take (op.length - 1) ++ [k])) := by
  have w1 : IntKind.i64.wrap ((op.length : Int) - 1) = (op.length : Int) - 1 := wrap64 (by omega) (by omega)
  have w2 : (IntKind.i64.wrap ((op.length : Int) - 1)).toNat = op.length - 1 := by omega
  refine Con.ev 13 T_ok mix Try.func154 rfl rfl rfl rfl [.tmp 3] rfl ?_
  conv => whnf
  iterate 2 (refine row_s (by (rfl)) ?_; conv => whnf)
  (refine rq_s (by ((simp only [Bool.and_eq_true, decide_eq_true_eq, List.length_map]; omega))) ?_; conv => whnf)
  (refine rq_s (by ((refine and_s rfl ?_; simp only [decide_eq_true_eq, List.length_map]; omega))) ?_; conv => whnf)
  iterate 2 (refine rq_s (by (rfl)) ?_; conv => whnf)
  (refine lend_s ?_; conv => whnf)
  (refine rows_s (by (exact sub_map _ _ _ _)) ?_; conv => whnf)
  (refine call_s (c114 _ (by first | omega | (dsimp only; omega) | (simp; omega))) ?_; conv => whnf)
  (refine rq_s (by (rfl)) ?_; conv => whnf)
  (refine rq_s (by ((simp only [decide_eq_true_eq, List.length_map, mkS_len]; done))) ?_; conv => whnf)
  iterate 2 (refine rq_s (by (rfl)) ?_; conv => whnf)
  (refine rq_s (by ((simp only [decide_eq_true_eq, List.length_map, mkS_len]; done))) ?_; conv => whnf)
  (refine rq_s (by (((simp [maxBytes, subA]; omega)))) ?_; conv => whnf)
  (refine app0_s ?_; conv => whnf)
  (refine rq_s (by ((simp only [decide_eq_true_eq, List.length_map, mkS_len]; done))) ?_; conv => whnf)
  (refine rq_s (by (rfl)) ?_; conv => whnf)
  (refine rows_s (by (rfl)) ?_; conv => whnf)
  (refine sh_s ?_; ((simp [w2, subA, ownI, intR, List.map_take, List.take_take, List.take_of_length_le])))
section
variable {op : List Int} {k : Int}
theorem ft_o (hk : k = 3 ∨ k = 6 ∨ k = 10) : fitL op k = op ++ [k] ∧ fitI op k = op ++ [k] ∧ fitB op k = decide (op.length < 8) := by
  have h1 : fitL op k = op ++ [k] := by rw [fitL, if_pos hk]
  exact ⟨h1, by rw [fitI, if_pos (.inr hk), h1], by rw [fitB, if_pos hk]⟩
theorem ft_t (hk : k = 4 ∨ k = 8) : fitL op k = op.take (op.length - 1) ++ [k] := by rw [fitL, if_neg (by omega), if_pos hk]
theorem ft_c (hk : k = 5 ∨ k = 7 ∨ k = 9 ∨ k = 11 ∨ k = 12) : fitL op k = op.take (op.length - 1) := by rw [fitL, if_neg (by omega), if_neg (by omega), if_pos hk]
theorem ft_n (hk : ¬ (3 ≤ k ∧ k ≤ 12)) : fitL op k = op ∧ fitI op k = op ∧ fitB op k = true := by
  have h1 : fitL op k = op := by rw [fitL, if_neg (by omega), if_neg (by omega), if_neg (by omega)]
  have h2 : fitB op k = true := by rw [fitB, if_neg (by omega), if_neg (by omega), if_neg (by omega), if_neg (by omega), if_neg (by omega), if_neg (by omega), if_neg (by omega)]
  exact ⟨h1, by rw [fitI_t h2, h1], h2⟩
theorem fb4 : fitB op 4 = decide (lastF op = 3) := rfl
theorem fb8 : fitB op 8 = decide (lastF op = 6) := rfl
theorem fb5 : fitB op 5 = (decide (lastF op = 3) || decide (lastF op = 4)) := rfl
theorem fb7 : fitB op 7 = decide (lastF op = 6) := rfl
theorem fb9 : fitB op 9 = decide (lastF op = 8) := rfl
theorem fb11 : fitB op 11 = decide (lastF op = 10) := rfl
theorem fb12 : fitB op 12 = decide (lastF op = 10) := rfl
theorem fi_f (h : fitB op k = false) (hk : ¬ (k = 3 ∨ k = 6 ∨ k = 10)) : fitI op k = op := by rw [fitI, if_neg (by simp [h, hk])]
theorem last_pos (h : lastF op ≠ 0) : 1 ≤ op.length := by
  by_cases h0 : op.length = 0
  · obtain rfl := List.length_eq_zero_iff.1 h0
    simp [lastF] at h
  · omega
theorem row_last (z : List AV) (e : 1 ≤ op.length) (h1 : op.length ≤ 1000) : rowA (op.map intR) (Int.toNat (IntKind.i64.wrap ((op.length : Int) - 1))) z = [.int .i64 (lastF op)] := by
  rw [wrap64 (by omega) (by omega), show ((op.length : Int) - 1).toNat = op.length - 1 by omega]
  exact row_map intR op _ _ 0 (by omega)
end

def fitR (l : List Int) (b : Bool) : AV := .tup [roI l, .bool b]
theorem fitR_sh (l : List Int) (b : Bool) : Sh (.tup [ownI l, .bool b]) (fitR l b) := Sh.tup ⟨Sh.own_ro (by omega) _ _, Sh.refl _, trivial⟩
theorem fit0 (op : List Int) (k : Int) (h7 : lastF op ≠ 7) (h2 : op.length ≤ 8) (hk : ¬ (3 ≤ k ∧ k ≤ 12)) : Con Try.prog 136 [roI op, .int .i64 k] (undefs [roI op, .int .i64 k]) (fitR op true) := by
  have w1 : IntKind.i64.wrap ((op.length : Int) - 1) = (op.length : Int) - 1 := wrap64 (by omega) (by omega)
  have e3 : (k == 3) = false := by simp; omega
  have e4 : (k == 4) = false := by simp; omega
  have e5 : (k == 5) = false := by simp; omega
  have e6 : (k == 6) = false := by simp; omega
  have e7 : (k == 7) = false := by simp; omega
  have e8 : (k == 8) = false := by simp; omega
  have e9 : (k == 9) = false := by simp; omega
  have e10 : (k == 10) = false := by simp; omega
  have e11 : (k == 11) = false := by simp; omega
  have e12 : (k == 12) = false := by simp; omega
  refine Con.ev 82 T_ok mix Try.func136 rfl rfl rfl rfl [.tmp 4, .tmp 5] rfl ?_
  conv => whnf
  (refine rq_s (by (rfl)) ?_; conv => whnf)
  (refine br_s (fun hb => ?_) (fun hb => ?_) <;> (try simp only [beq_iff_eq, bne_iff_ne, ne_eq, decide_eq_true_eq, decide_eq_false_iff_not, Int.not_lt, Int.not_le, Bool.false_eq_true, if_false, if_true, beq_eq_false_iff_ne, bne_eq_false_iff_eq, Bool.not_eq_true', Bool.not_eq_false', Int.ofNat_lt, Int.ofNat_le, Int.ofNat_inj, List.length_map, List.length_nil, List.length_cons] at hb) <;> conv => whnf)
  (refine rq_s (by ((simp only [Bool.and_eq_true, decide_eq_true_eq, List.length_map]; omega))) ?_; conv => whnf)
  (refine rq_s (by ((refine and_s rfl ?_; simp only [decide_eq_true_eq, List.length_map]; omega))) ?_; conv => whnf)
  (refine row_s (by ((try simp only [Nat.zero_add, List.length_map]); exact row_last _ (by omega) (by omega))) ?_; conv => whnf)
  iterate 10 (refine br_f (by assumption) ?_; conv => whnf)
  iterate 2 (refine rq_s (by (rfl)) ?_; conv => whnf)
  (refine rows_s (by (rfl)) ?_; conv => whnf)
  (refine sh_s ?_; (rfl))
  iterate 10 (refine br_f (by assumption) ?_; conv => whnf)
  iterate 2 (refine rq_s (by (rfl)) ?_; conv => whnf)
  (refine rows_s (by (rfl)) ?_; conv => whnf)
  (refine sh_s ?_; (rfl))
theorem sub3 (op : List Int) (k : Int) : subA (subA (op.map intR) 0 (op.map intR).length ++ subA [[AV.int .i64 k]] 0 1) 0 ((op.map intR).length + (subA [[AV.int .i64 k]] 0 1).length) = (op ++ [k]).map intR := by
  simp [subA, intR, List.take_of_length_le]
theorem w41 : IntKind.i64.wrap (4 - 1) = 3 := by decide
theorem w81 : IntKind.i64.wrap (8 - 1) = 7 := by decide
theorem fit_o {op : List Int} {k : Int} {b : Bool} (hk : k = 3 ∨ k = 6 ∨ k = 10) (hb : b = decide (op.length < 8)) : Sh (.tup [.own 0 zI ((op ++ [k]).map intR), .bool b]) (fitR (fitI op k) (fitB op k)) := by
  rw [(ft_o hk).2.1, (ft_o hk).2.2, ← hb]
  exact fitR_sh _ _
theorem fit_f {op : List Int} {k : Int} (hk : ¬ (k = 3 ∨ k = 6 ∨ k = 10)) (h : fitB op k = false) : Sh (.tup [.ro zI (op.map intR), .bool false]) (fitR (fitI op k) (fitB op k)) := by
  rw [fi_f h hk, h]
  exact Sh.refl _
theorem fit_t {op : List Int} {k : Int} (hk : k = 4 ∨ k = 8) (h : fitB op k = true) : Sh (.tup [.own 0 zI ((op.take (op.length - 1) ++ [k]).map intR), .bool true]) (fitR (fitI op k) (fitB op k)) := by
  rw [fitI_t h, h, ft_t hk]
  exact fitR_sh _ _
theorem fit_c {op : List Int} {k : Int} {n : Nat} (hk : k = 5 ∨ k = 7 ∨ k = 9 ∨ k = 11 ∨ k = 12) (h : fitB op k = true) (hn : n = op.length - 1) : Sh (.tup [.ro zI ((op.take n).map intR), .bool true]) (fitR (fitI op k) (fitB op k)) := by
  rw [fitI_t h, h, ft_c hk, hn]
  exact Sh.refl _
theorem c136 (op : List Int) (k : Int) (h7 : lastF op ≠ 7) (h2 : op.length ≤ 8) : Con Try.prog 136 [roI op, .int .i64 k] (undefs [roI op, .int .i64 k]) (fitR (fitI op k) (fitB op k)) := by
  have w1 : IntKind.i64.wrap ((op.length : Int) - 1) = (op.length : Int) - 1 := wrap64 (by omega) (by omega)
  by_cases hk : 3 ≤ k ∧ k ≤ 12
  · have : k = 3 ∨ k = 4 ∨ k = 5 ∨ k = 6 ∨ k = 7 ∨ k = 8 ∨ k = 9 ∨ k = 10 ∨ k = 11 ∨ k = 12 := by omega
    rcases this with rfl | rfl | rfl | rfl | rfl | rfl | rfl | rfl | rfl | rfl <;>
    (refine Con.ev 82 T_ok mix Try.func136 rfl rfl rfl rfl [.tmp 4, .tmp 5] rfl ?_
     conv => whnf
     (refine rq_s (by (rfl)) ?_; conv => whnf)
     (refine br_s (fun hb => ?_) (fun hb => ?_) <;> (try simp only [beq_iff_eq, bne_iff_ne, ne_eq, decide_eq_true_eq, decide_eq_false_iff_not, Int.not_lt, Int.not_le, Bool.false_eq_true, if_false, if_true, beq_eq_false_iff_ne, bne_eq_false_iff_eq, Bool.not_eq_true', Bool.not_eq_false', Int.ofNat_lt, Int.ofNat_le, Int.ofNat_inj, List.length_map, List.length_nil, List.length_cons] at hb) <;> conv => whnf)
     (refine rq_s (by ((simp only [Bool.and_eq_true, decide_eq_true_eq, List.length_map]; omega))) ?_; conv => whnf)
     (refine rq_s (by ((refine and_s rfl ?_; simp only [decide_eq_true_eq, List.length_map]; omega))) ?_; conv => whnf)
     (refine row_s (by ((try simp only [Nat.zero_add, List.length_map]); exact row_last _ (by omega) (by omega))) ?_; conv => whnf)
     first
       | ( iterate 2 (refine br_t rfl ?_; conv => whnf)
           iterate 2 (refine ChkS.mk (by kernel_rfl) ?_; conv => whnf)
           (refine rq_s (by (rfl)) ?_; conv => whnf)
           (refine rows_s (by (rfl)) ?_; conv => whnf)
           (refine call_s (c114 _ (by first | omega | (dsimp only; omega) | (simp; omega))) ?_; conv => whnf)
           iterate 2 (refine ChkS.mk (by kernel_rfl) ?_; conv => whnf)
           (refine rq_s (by (rfl)) ?_; conv => whnf)
           (refine ChkS.mk (by kernel_rfl) ?_; conv => whnf)
           (refine rq_s (by ((simp only [decide_eq_true_eq, List.length_map, mkS_len]; done))) ?_; conv => whnf)
           iterate 2 (refine rq_s (by (rfl)) ?_; conv => whnf)
           (refine rq_s (by ((simp only [decide_eq_true_eq, List.length_map, mkS_len]; done))) ?_; conv => whnf)
           (refine rq_s (by (((simp [maxBytes, subA]; omega)))) ?_; conv => whnf)
           (refine app0_s ?_; conv => whnf)
           iterate 6 (refine ChkS.mk (by kernel_rfl) ?_; conv => whnf)
           (refine rq_s (by ((simp only [decide_eq_true_eq, List.length_map, mkS_len]; done))) ?_; conv => whnf)
           iterate 2 (refine rq_s (by (rfl)) ?_; conv => whnf)
           (refine rows_s (by (rfl)) ?_; conv => whnf)
           rotate_left
           iterate 2 (refine br_t rfl ?_; conv => whnf)
           iterate 2 (refine ChkS.mk (by kernel_rfl) ?_; conv => whnf)
           (refine rq_s (by (rfl)) ?_; conv => whnf)
           (refine rows_s (by (rfl)) ?_; conv => whnf)
           (refine call_s (c114 _ (by first | omega | (dsimp only; omega) | (simp; omega))) ?_; conv => whnf)
           iterate 2 (refine ChkS.mk (by kernel_rfl) ?_; conv => whnf)
           (refine rq_s (by (rfl)) ?_; conv => whnf)
           (refine ChkS.mk (by kernel_rfl) ?_; conv => whnf)
           (refine rq_s (by ((simp only [decide_eq_true_eq, List.length_map, mkS_len]; done))) ?_; conv => whnf)
           iterate 2 (refine rq_s (by (rfl)) ?_; conv => whnf)
           (refine rq_s (by ((simp only [decide_eq_true_eq, List.length_map, mkS_len]; done))) ?_; conv => whnf)
           (refine rq_s (by (((simp [maxBytes, subA]; omega)))) ?_; conv => whnf)
           (refine app0_s ?_; conv => whnf)
           iterate 6 (refine ChkS.mk (by kernel_rfl) ?_; conv => whnf)
           (refine rq_s (by ((simp only [decide_eq_true_eq, List.length_map, mkS_len]; done))) ?_; conv => whnf)
           iterate 2 (refine rq_s (by (rfl)) ?_; conv => whnf)
           (refine rows_s (by (rfl)) ?_; conv => whnf)
           rotate_left)
       | ( iterate 3 (refine br_f rfl ?_; conv => whnf)
           iterate 2 (refine br_t rfl ?_; conv => whnf)
           (refine br_s (fun hb => ?_) (fun hb => ?_) <;> (try simp only [beq_iff_eq, bne_iff_ne, ne_eq, decide_eq_true_eq, decide_eq_false_iff_not, Int.not_lt, Int.not_le, Bool.false_eq_true, if_false, if_true, beq_eq_false_iff_ne, bne_eq_false_iff_eq, Bool.not_eq_true', Bool.not_eq_false', Int.ofNat_lt, Int.ofNat_le, Int.ofNat_inj, List.length_map, List.length_nil, List.length_cons] at hb) <;> conv => whnf)
           iterate 2 (refine br_t rfl ?_; conv => whnf)
           iterate 2 (refine br_f rfl ?_; conv => whnf)
           (refine br_t rfl ?_; conv => whnf)
           (refine br_f rfl ?_; conv => whnf)
           iterate 2 (refine br_t rfl ?_; conv => whnf)
           iterate 2 (refine rq_s (by (rfl)) ?_; conv => whnf)
           (refine rows_s (by (rfl)) ?_; conv => whnf)
           rotate_left
           iterate 6 (refine br_f rfl ?_; conv => whnf)
           (refine handp_s 154 [none, none] ?_; conv => whnf)
           iterate 3 (refine rq_s (by (rfl)) ?_; conv => whnf)
           (focus (apply callpe_s (f := 154); (· repeat' (first | (refine sub_all ?_; simp [List.length_map, mkS_len]; done) | exact sub_map _ _ _ _ | apply cons_eq | apply obj_eq | apply agg_eq | apply own_eq | apply ro_eq | apply rp_eq | apply fnc_eq | rfl)); refine callp_s (f := 154) rfl (c154 _ _ (by first | omega | (dsimp only; omega) | (simp; omega)) (by first | omega | (dsimp only; omega) | (simp; omega))) ?_; conv => whnf))
           (refine fac_s (fun hf => ?_); conv => whnf)
           (refine rq_s (by ((simp only [decide_eq_true_eq, List.length_map, mkS_len]; done))) ?_; conv => whnf)
           iterate 2 (refine rq_s (by (rfl)) ?_; conv => whnf)
           (refine rows_s (by ((refine sub_all ?_; simp [List.length_map, mkS_len]; done))) ?_; conv => whnf)
           rotate_left
           iterate 3 (refine br_f rfl ?_; conv => whnf)
           iterate 5 (refine br_t rfl ?_; conv => whnf)
           iterate 2 (refine br_f rfl ?_; conv => whnf)
           (refine br_t rfl ?_; conv => whnf)
           (refine br_f rfl ?_; conv => whnf)
           iterate 2 (refine br_t rfl ?_; conv => whnf)
           iterate 2 (refine rq_s (by (rfl)) ?_; conv => whnf)
           (refine rows_s (by (rfl)) ?_; conv => whnf)
           rotate_left)
       | ( iterate 5 (refine br_f rfl ?_; conv => whnf)
           (refine br_t rfl ?_; conv => whnf)
           (refine br_s (fun hb => ?_) (fun hb => ?_) <;> (try simp only [beq_iff_eq, bne_iff_ne, ne_eq, decide_eq_true_eq, decide_eq_false_iff_not, Int.not_lt, Int.not_le, Bool.false_eq_true, if_false, if_true, beq_eq_false_iff_ne, bne_eq_false_iff_eq, Bool.not_eq_true', Bool.not_eq_false', Int.ofNat_lt, Int.ofNat_le, Int.ofNat_inj, List.length_map, List.length_nil, List.length_cons] at hb) <;> conv => whnf)
           (refine br_t rfl ?_; conv => whnf)
           (refine br_s (fun hb => ?_) (fun hb => ?_) <;> (try simp only [beq_iff_eq, bne_iff_ne, ne_eq, decide_eq_true_eq, decide_eq_false_iff_not, Int.not_lt, Int.not_le, Bool.false_eq_true, if_false, if_true, beq_eq_false_iff_ne, bne_eq_false_iff_eq, Bool.not_eq_true', Bool.not_eq_false', Int.ofNat_lt, Int.ofNat_le, Int.ofNat_inj, List.length_map, List.length_nil, List.length_cons] at hb) <;> conv => whnf)
           iterate 2 (refine rq_s (by (rfl)) ?_; conv => whnf)
           (refine rows_s (by (rfl)) ?_; conv => whnf)
           rotate_left
           (refine rq_s (by ((simp only [Bool.and_eq_true, decide_eq_true_eq, List.length_map]; omega))) ?_; conv => whnf)
           (refine rq_s (by ((refine and_s rfl ?_; simp only [decide_eq_true_eq, List.length_map]; omega))) ?_; conv => whnf)
           iterate 3 (refine rq_s (by (rfl)) ?_; conv => whnf)
           (refine rows_s (by (exact sub_map _ _ _ _)) ?_; conv => whnf)
           rotate_left
           iterate 3 (refine br_f rfl ?_; conv => whnf)
           (refine rq_s (by ((simp only [Bool.and_eq_true, decide_eq_true_eq, List.length_map]; omega))) ?_; conv => whnf)
           (refine rq_s (by ((refine and_s rfl ?_; simp only [decide_eq_true_eq, List.length_map]; omega))) ?_; conv => whnf)
           iterate 3 (refine rq_s (by (rfl)) ?_; conv => whnf)
           (refine rows_s (by (exact sub_map _ _ _ _)) ?_; conv => whnf)
           rotate_left
           iterate 5 (refine br_f rfl ?_; conv => whnf)
           iterate 4 (refine br_t rfl ?_; conv => whnf)
           iterate 2 (refine rq_s (by (rfl)) ?_; conv => whnf)
           (refine rows_s (by (rfl)) ?_; conv => whnf)
           rotate_left)
       | ( (refine br_f rfl ?_; conv => whnf)
           iterate 2 (refine br_t rfl ?_; conv => whnf)
           iterate 2 (refine ChkS.mk (by kernel_rfl) ?_; conv => whnf)
           (refine rq_s (by (rfl)) ?_; conv => whnf)
           (refine rows_s (by (rfl)) ?_; conv => whnf)
           (refine call_s (c114 _ (by first | omega | (dsimp only; omega) | (simp; omega))) ?_; conv => whnf)
           iterate 2 (refine ChkS.mk (by kernel_rfl) ?_; conv => whnf)
           (refine rq_s (by (rfl)) ?_; conv => whnf)
           (refine ChkS.mk (by kernel_rfl) ?_; conv => whnf)
           (refine rq_s (by ((simp only [decide_eq_true_eq, List.length_map, mkS_len]; done))) ?_; conv => whnf)
           iterate 2 (refine rq_s (by (rfl)) ?_; conv => whnf)
           (refine rq_s (by ((simp only [decide_eq_true_eq, List.length_map, mkS_len]; done))) ?_; conv => whnf)
           (refine rq_s (by (((simp [maxBytes, subA]; omega)))) ?_; conv => whnf)
           (refine app0_s ?_; conv => whnf)
           iterate 6 (refine ChkS.mk (by kernel_rfl) ?_; conv => whnf)
           (refine rq_s (by ((simp only [decide_eq_true_eq, List.length_map, mkS_len]; done))) ?_; conv => whnf)
           iterate 2 (refine rq_s (by (rfl)) ?_; conv => whnf)
           (refine rows_s (by (rfl)) ?_; conv => whnf)
           rotate_left
           (refine br_f rfl ?_; conv => whnf)
           iterate 2 (refine br_t rfl ?_; conv => whnf)
           iterate 2 (refine ChkS.mk (by kernel_rfl) ?_; conv => whnf)
           (refine rq_s (by (rfl)) ?_; conv => whnf)
           (refine rows_s (by (rfl)) ?_; conv => whnf)
           (refine call_s (c114 _ (by first | omega | (dsimp only; omega) | (simp; omega))) ?_; conv => whnf)
           iterate 2 (refine ChkS.mk (by kernel_rfl) ?_; conv => whnf)
           (refine rq_s (by (rfl)) ?_; conv => whnf)
           (refine ChkS.mk (by kernel_rfl) ?_; conv => whnf)
           (refine rq_s (by ((simp only [decide_eq_true_eq, List.length_map, mkS_len]; done))) ?_; conv => whnf)
           iterate 2 (refine rq_s (by (rfl)) ?_; conv => whnf)
           (refine rq_s (by ((simp only [decide_eq_true_eq, List.length_map, mkS_len]; done))) ?_; conv => whnf)
           (refine rq_s (by (((simp [maxBytes, subA]; omega)))) ?_; conv => whnf)
           (refine app0_s ?_; conv => whnf)
           iterate 6 (refine ChkS.mk (by kernel_rfl) ?_; conv => whnf)
           (refine rq_s (by ((simp only [decide_eq_true_eq, List.length_map, mkS_len]; done))) ?_; conv => whnf)
           iterate 2 (refine rq_s (by (rfl)) ?_; conv => whnf)
           (refine rows_s (by (rfl)) ?_; conv => whnf)
           rotate_left)
       | ( iterate 6 (refine br_f rfl ?_; conv => whnf)
           (refine br_t rfl ?_; conv => whnf)
           (refine br_s (fun hb => ?_) (fun hb => ?_) <;> (try simp only [beq_iff_eq, bne_iff_ne, ne_eq, decide_eq_true_eq, decide_eq_false_iff_not, Int.not_lt, Int.not_le, Bool.false_eq_true, if_false, if_true, beq_eq_false_iff_ne, bne_eq_false_iff_eq, Bool.not_eq_true', Bool.not_eq_false', Int.ofNat_lt, Int.ofNat_le, Int.ofNat_inj, List.length_map, List.length_nil, List.length_cons] at hb) <;> conv => whnf)
           iterate 2 (refine rq_s (by (rfl)) ?_; conv => whnf)
           (refine rows_s (by (rfl)) ?_; conv => whnf)
           rotate_left
           (refine rq_s (by ((simp only [Bool.and_eq_true, decide_eq_true_eq, List.length_map]; omega))) ?_; conv => whnf)
           (refine rq_s (by ((refine and_s rfl ?_; simp only [decide_eq_true_eq, List.length_map]; omega))) ?_; conv => whnf)
           iterate 3 (refine rq_s (by (rfl)) ?_; conv => whnf)
           (refine rows_s (by (exact sub_map _ _ _ _)) ?_; conv => whnf)
           rotate_left
           iterate 6 (refine br_f rfl ?_; conv => whnf)
           iterate 2 (refine br_t rfl ?_; conv => whnf)
           iterate 2 (refine rq_s (by (rfl)) ?_; conv => whnf)
           (refine rows_s (by (rfl)) ?_; conv => whnf)
           rotate_left)
       | ( iterate 4 (refine br_f rfl ?_; conv => whnf)
           (refine br_t rfl ?_; conv => whnf)
           (refine br_s (fun hb => ?_) (fun hb => ?_) <;> (try simp only [beq_iff_eq, bne_iff_ne, ne_eq, decide_eq_true_eq, decide_eq_false_iff_not, Int.not_lt, Int.not_le, Bool.false_eq_true, if_false, if_true, beq_eq_false_iff_ne, bne_eq_false_iff_eq, Bool.not_eq_true', Bool.not_eq_false', Int.ofNat_lt, Int.ofNat_le, Int.ofNat_inj, List.length_map, List.length_nil, List.length_cons] at hb) <;> conv => whnf)
           iterate 6 (refine br_t rfl ?_; conv => whnf)
           (refine br_s (fun hb => ?_) (fun hb => ?_) <;> (try simp only [beq_iff_eq, bne_iff_ne, ne_eq, decide_eq_true_eq, decide_eq_false_iff_not, Int.not_lt, Int.not_le, Bool.false_eq_true, if_false, if_true, beq_eq_false_iff_ne, bne_eq_false_iff_eq, Bool.not_eq_true', Bool.not_eq_false', Int.ofNat_lt, Int.ofNat_le, Int.ofNat_inj, List.length_map, List.length_nil, List.length_cons] at hb) <;> conv => whnf)
           iterate 2 (refine rq_s (by (rfl)) ?_; conv => whnf)
           (refine rows_s (by (rfl)) ?_; conv => whnf)
           rotate_left
           (refine handp_s 154 [none, none] ?_; conv => whnf)
           iterate 3 (refine rq_s (by (rfl)) ?_; conv => whnf)
           (focus (apply callpe_s (f := 154); (· repeat' (first | (refine sub_all ?_; simp [List.length_map, mkS_len]; done) | exact sub_map _ _ _ _ | apply cons_eq | apply obj_eq | apply agg_eq | apply own_eq | apply ro_eq | apply rp_eq | apply fnc_eq | rfl)); refine callp_s (f := 154) rfl (c154 _ _ (by first | omega | (dsimp only; omega) | (simp; omega)) (by first | omega | (dsimp only; omega) | (simp; omega))) ?_; conv => whnf))
           (refine fac_s (fun hf => ?_); conv => whnf)
           (refine rq_s (by ((simp only [decide_eq_true_eq, List.length_map, mkS_len]; done))) ?_; conv => whnf)
           iterate 2 (refine rq_s (by (rfl)) ?_; conv => whnf)
           (refine rows_s (by ((refine sub_all ?_; simp [List.length_map, mkS_len]; done))) ?_; conv => whnf)
           rotate_left
           iterate 6 (refine br_f rfl ?_; conv => whnf)
           (refine handp_s 154 [none, none] ?_; conv => whnf)
           iterate 3 (refine rq_s (by (rfl)) ?_; conv => whnf)
           (focus (apply callpe_s (f := 154); (· repeat' (first | (refine sub_all ?_; simp [List.length_map, mkS_len]; done) | exact sub_map _ _ _ _ | apply cons_eq | apply obj_eq | apply agg_eq | apply own_eq | apply ro_eq | apply rp_eq | apply fnc_eq | rfl)); refine callp_s (f := 154) rfl (c154 _ _ (by first | omega | (dsimp only; omega) | (simp; omega)) (by first | omega | (dsimp only; omega) | (simp; omega))) ?_; conv => whnf))
           (refine fac_s (fun hf => ?_); conv => whnf)
           (refine rq_s (by ((simp only [decide_eq_true_eq, List.length_map, mkS_len]; done))) ?_; conv => whnf)
           iterate 2 (refine rq_s (by (rfl)) ?_; conv => whnf)
           (refine rows_s (by ((refine sub_all ?_; simp [List.length_map, mkS_len]; done))) ?_; conv => whnf)
           rotate_left
           iterate 4 (refine br_f rfl ?_; conv => whnf)
           iterate 9 (refine br_t rfl ?_; conv => whnf)
           iterate 2 (refine rq_s (by (rfl)) ?_; conv => whnf)
           (refine rows_s (by (rfl)) ?_; conv => whnf)
           rotate_left)
       | ( iterate 7 (refine br_f rfl ?_; conv => whnf)
           (refine br_t rfl ?_; conv => whnf)
           (refine br_s (fun hb => ?_) (fun hb => ?_) <;> (try simp only [beq_iff_eq, bne_iff_ne, ne_eq, decide_eq_true_eq, decide_eq_false_iff_not, Int.not_lt, Int.not_le, Bool.false_eq_true, if_false, if_true, beq_eq_false_iff_ne, bne_eq_false_iff_eq, Bool.not_eq_true', Bool.not_eq_false', Int.ofNat_lt, Int.ofNat_le, Int.ofNat_inj, List.length_map, List.length_nil, List.length_cons] at hb) <;> conv => whnf)
           iterate 2 (refine rq_s (by (rfl)) ?_; conv => whnf)
           (refine rows_s (by (rfl)) ?_; conv => whnf)
           rotate_left
           (refine rq_s (by ((simp only [Bool.and_eq_true, decide_eq_true_eq, List.length_map]; omega))) ?_; conv => whnf)
           (refine rq_s (by ((refine and_s rfl ?_; simp only [decide_eq_true_eq, List.length_map]; omega))) ?_; conv => whnf)
           iterate 3 (refine rq_s (by (rfl)) ?_; conv => whnf)
           (refine rows_s (by (exact sub_map _ _ _ _)) ?_; conv => whnf)
           rotate_left
           iterate 7 (refine br_f rfl ?_; conv => whnf)
           iterate 2 (refine br_t rfl ?_; conv => whnf)
           iterate 2 (refine rq_s (by (rfl)) ?_; conv => whnf)
           (refine rows_s (by (rfl)) ?_; conv => whnf)
           rotate_left)
       | ( iterate 2 (refine br_f rfl ?_; conv => whnf)
           (refine br_t rfl ?_; conv => whnf)
           iterate 2 (refine ChkS.mk (by kernel_rfl) ?_; conv => whnf)
           (refine rq_s (by (rfl)) ?_; conv => whnf)
           (refine rows_s (by (rfl)) ?_; conv => whnf)
           (refine call_s (c114 _ (by first | omega | (dsimp only; omega) | (simp; omega))) ?_; conv => whnf)
           iterate 2 (refine ChkS.mk (by kernel_rfl) ?_; conv => whnf)
           (refine rq_s (by (rfl)) ?_; conv => whnf)
           (refine ChkS.mk (by kernel_rfl) ?_; conv => whnf)
           (refine rq_s (by ((simp only [decide_eq_true_eq, List.length_map, mkS_len]; done))) ?_; conv => whnf)
           iterate 2 (refine rq_s (by (rfl)) ?_; conv => whnf)
           (refine rq_s (by ((simp only [decide_eq_true_eq, List.length_map, mkS_len]; done))) ?_; conv => whnf)
           (refine rq_s (by (((simp [maxBytes, subA]; omega)))) ?_; conv => whnf)
           (refine app0_s ?_; conv => whnf)
           iterate 6 (refine ChkS.mk (by kernel_rfl) ?_; conv => whnf)
           (refine rq_s (by ((simp only [decide_eq_true_eq, List.length_map, mkS_len]; done))) ?_; conv => whnf)
           iterate 2 (refine rq_s (by (rfl)) ?_; conv => whnf)
           (refine rows_s (by (rfl)) ?_; conv => whnf)
           rotate_left
           iterate 2 (refine br_f rfl ?_; conv => whnf)
           (refine br_t rfl ?_; conv => whnf)
           iterate 2 (refine ChkS.mk (by kernel_rfl) ?_; conv => whnf)
           (refine rq_s (by (rfl)) ?_; conv => whnf)
           (refine rows_s (by (rfl)) ?_; conv => whnf)
           (refine call_s (c114 _ (by first | omega | (dsimp only; omega) | (simp; omega))) ?_; conv => whnf)
           iterate 2 (refine ChkS.mk (by kernel_rfl) ?_; conv => whnf)
           (refine rq_s (by (rfl)) ?_; conv => whnf)
           (refine ChkS.mk (by kernel_rfl) ?_; conv => whnf)
           (refine rq_s (by ((simp only [decide_eq_true_eq, List.length_map, mkS_len]; done))) ?_; conv => whnf)
           iterate 2 (refine rq_s (by (rfl)) ?_; conv => whnf)
           (refine rq_s (by ((simp only [decide_eq_true_eq, List.length_map, mkS_len]; done))) ?_; conv => whnf)
           (refine rq_s (by (((simp [maxBytes, subA]; omega)))) ?_; conv => whnf)
           (refine app0_s ?_; conv => whnf)
           iterate 6 (refine ChkS.mk (by kernel_rfl) ?_; conv => whnf)
           (refine rq_s (by ((simp only [decide_eq_true_eq, List.length_map, mkS_len]; done))) ?_; conv => whnf)
           iterate 2 (refine rq_s (by (rfl)) ?_; conv => whnf)
           (refine rows_s (by (rfl)) ?_; conv => whnf)
           rotate_left)
       | ( iterate 8 (refine br_f rfl ?_; conv => whnf)
           iterate 2 (refine br_t rfl ?_; conv => whnf)
           (refine br_s (fun hb => ?_) (fun hb => ?_) <;> (try simp only [beq_iff_eq, bne_iff_ne, ne_eq, decide_eq_true_eq, decide_eq_false_iff_not, Int.not_lt, Int.not_le, Bool.false_eq_true, if_false, if_true, beq_eq_false_iff_ne, bne_eq_false_iff_eq, Bool.not_eq_true', Bool.not_eq_false', Int.ofNat_lt, Int.ofNat_le, Int.ofNat_inj, List.length_map, List.length_nil, List.length_cons] at hb) <;> conv => whnf)
           iterate 2 (refine rq_s (by (rfl)) ?_; conv => whnf)
           (refine rows_s (by (rfl)) ?_; conv => whnf)
           rotate_left
           (refine rq_s (by ((simp only [Bool.and_eq_true, decide_eq_true_eq, List.length_map]; omega))) ?_; conv => whnf)
           (refine rq_s (by ((refine and_s rfl ?_; simp only [decide_eq_true_eq, List.length_map]; omega))) ?_; conv => whnf)
           iterate 3 (refine rq_s (by (rfl)) ?_; conv => whnf)
           (refine rows_s (by (exact sub_map _ _ _ _)) ?_; conv => whnf)
           rotate_left
           iterate 8 (refine br_f rfl ?_; conv => whnf)
           iterate 3 (refine br_t rfl ?_; conv => whnf)
           iterate 2 (refine rq_s (by (rfl)) ?_; conv => whnf)
           (refine rows_s (by (rfl)) ?_; conv => whnf)
           rotate_left)
       | ( iterate 9 (refine br_f rfl ?_; conv => whnf)
           (refine br_t rfl ?_; conv => whnf)
           (refine br_s (fun hb => ?_) (fun hb => ?_) <;> (try simp only [beq_iff_eq, bne_iff_ne, ne_eq, decide_eq_true_eq, decide_eq_false_iff_not, Int.not_lt, Int.not_le, Bool.false_eq_true, if_false, if_true, beq_eq_false_iff_ne, bne_eq_false_iff_eq, Bool.not_eq_true', Bool.not_eq_false', Int.ofNat_lt, Int.ofNat_le, Int.ofNat_inj, List.length_map, List.length_nil, List.length_cons] at hb) <;> conv => whnf)
           iterate 2 (refine rq_s (by (rfl)) ?_; conv => whnf)
           (refine rows_s (by (rfl)) ?_; conv => whnf)
           rotate_left
           (refine rq_s (by ((simp only [Bool.and_eq_true, decide_eq_true_eq, List.length_map]; omega))) ?_; conv => whnf)
           (refine rq_s (by ((refine and_s rfl ?_; simp only [decide_eq_true_eq, List.length_map]; omega))) ?_; conv => whnf)
           iterate 3 (refine rq_s (by (rfl)) ?_; conv => whnf)
           (refine rows_s (by (exact sub_map _ _ _ _)) ?_; conv => whnf)
           rotate_left
           iterate 9 (refine br_f rfl ?_; conv => whnf)
           iterate 2 (refine br_t rfl ?_; conv => whnf)
           iterate 2 (refine rq_s (by (rfl)) ?_; conv => whnf)
           (refine rows_s (by (rfl)) ?_; conv => whnf)
           rotate_left)
     all_goals (first
       | (exfalso; have := w81; omega)
       | exact ⟨fit_c (op := op) (by omega) (by simp only [fb5, fb7, fb9, fb11, fb12, Bool.or_eq_true, decide_eq_true_eq]; omega) (by simp only [List.length_map]; omega)⟩
       | exact ⟨fit_f (by omega) (by have z := w41; have z2 := w81; have hz : op.length = 0 → lastF op = 0 := (fun e => by rw [List.length_eq_zero_iff.1 e]; rfl); simp only [fb4, fb8, fb5, fb7, fb9, fb11, fb12, Bool.or_eq_false_iff, decide_eq_false_iff_not]; omega)⟩
       | exact ⟨fit_t (by omega) (by have z := w41; have z2 := w81; simp only [fb4, fb8, decide_eq_true_eq]; omega)⟩
       | exact ⟨by rw [show subA _ _ _ = _ from sub3 op _]; exact fit_o (by omega) (by simp; omega)⟩))
  · rw [(ft_n hk).2.1, (ft_n hk).2.2]
    exact fit0 op k h7 h2 hk
