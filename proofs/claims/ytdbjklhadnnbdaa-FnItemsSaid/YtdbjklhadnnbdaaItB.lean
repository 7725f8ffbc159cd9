import Derived.Test.YtdbjklhadnnbdaaItA
import Derived.Test.YtdbjklhadnnbdaaAbsj
/- What is open behind items: the loops; contracts. -/
set_option linter.unusedVariables false
set_option linter.unusedSimpArgs false
set_option maxRecDepth 100000
open Go Go.Abs Go.Proofs V1 H1 I1 I2
namespace I3

theorem stepO {l : List Int} {b b' : Bool} {lvl : Nat} {rows : List (List AV)} (hl : lvl ≤ 1) (h1 : rows = l.map intR) (h2 : b = b') : Sh (.tup [.own lvl zI rows, .bool b]) (fitR l b') := by
  rw [h1, h2]; exact Sh.tup ⟨Sh.own_ro hl _ _, Sh.refl _, trivial⟩
theorem stepR {l : List Int} {b b' : Bool} {rows : List (List AV)} (h1 : rows = l.map intR) (h2 : b = b') : Sh (.tup [.ro zI rows, .bool b]) (fitR l b') := by
  rw [h1, h2]; exact Sh.refl _
theorem bq (a : Int) (n : Int) : (a == n) = decide (a = n) := rfl

theorem c89 (op : List Int) (k : Int) (h2 : op.length ≤ 8) : Con Try.prog 89 [roI op, .int .i64 k] (undefs [roI op, .int .i64 k]) (fitR (fitL op k) (fitB op k)) := by
  have w1 : IntKind.i64.wrap ((op.length : Int) - 1) = (op.length : Int) - 1 := wrap64 (by omega) (by omega)
  have w3 : (if 0 > IntKind.i64.wrap ((op.length : Int) - 1) then 0 else IntKind.i64.wrap ((op.length : Int) - 1)).toNat = op.length - 1 := by rw [w1]; split <;> omega
  have z0 : op.length = 0 → lastF op = 0 := fun e => by rw [List.length_eq_zero_iff.1 e]; rfl
  by_cases hk : 3 ≤ k ∧ k ≤ 12
  · have : k = 3 ∨ k = 4 ∨ k = 5 ∨ k = 6 ∨ k = 7 ∨ k = 8 ∨ k = 9 ∨ k = 10 ∨ k = 11 ∨ k = 12 := by omega
    rcases this with rfl | rfl | rfl | rfl | rfl | rfl | rfl | rfl | rfl | rfl <;>
    (refine Con.ev 100 T_ok mix Try.func89 rfl rfl rfl rfl [.tmp 4, .tmp 5] rfl ?_
     conv => whnf
     (refine br_s (fun hb => ?_) (fun hb => ?_) <;> (try simp only [beq_iff_eq, bne_iff_ne, ne_eq, decide_eq_true_eq, decide_eq_false_iff_not, Int.not_lt, Int.not_le, Bool.false_eq_true, if_false, if_true, beq_eq_false_iff_ne, bne_eq_false_iff_eq, Bool.not_eq_true', Bool.not_eq_false', Int.ofNat_lt, Int.ofNat_le, Int.ofNat_inj, List.length_map, List.length_nil, List.length_cons] at hb) <;> conv => whnf)
     (refine rq_s (by ((simp only [Bool.and_eq_true, decide_eq_true_eq, List.length_map]; omega))) ?_; conv => whnf)
     (refine rq_s (by ((refine and_s rfl ?_; simp only [decide_eq_true_eq, List.length_map]; omega))) ?_; conv => whnf)
     (refine row_s (by ((try simp only [Nat.zero_add, List.length_map]); exact row_last _ (by omega) (by omega))) ?_; conv => whnf)
     first
       | ( iterate 2 (refine br_t rfl ?_; conv => whnf)
           iterate 3 (refine rq_s (by (rfl)) ?_; conv => whnf)
           (refine rq_s (by (((simp [maxBytes, subA]; omega)))) ?_; conv => whnf)
           (refine app0_s ?_; conv => whnf)
           (refine rq_s (by (rfl)) ?_; conv => whnf)
           (refine rq_s (by ((simp only [decide_eq_true_eq, List.length_map, mkS_len]; done))) ?_; conv => whnf)
           iterate 2 (refine rq_s (by (rfl)) ?_; conv => whnf)
           (refine rq_s (by ((simp only [decide_eq_true_eq, List.length_map, mkS_len]; done))) ?_; conv => whnf)
           (refine rq_s (by (((simp [maxBytes, subA]; omega)))) ?_; conv => whnf)
           (refine app0_s ?_; conv => whnf)
           (refine rq_s (by ((simp only [decide_eq_true_eq, List.length_map, mkS_len]; done))) ?_; conv => whnf)
           iterate 2 (refine rq_s (by (rfl)) ?_; conv => whnf)
           (refine rows_s (by (rfl)) ?_; conv => whnf)
           rotate_left
           iterate 2 (refine br_t rfl ?_; conv => whnf)
           iterate 3 (refine rq_s (by (rfl)) ?_; conv => whnf)
           (refine rq_s (by ((simp only [Bool.and_eq_true, decide_eq_true_eq, List.length_map]; omega))) ?_; conv => whnf)
           (refine app0_s ?_; conv => whnf)
           (refine rq_s (by (rfl)) ?_; conv => whnf)
           (refine rq_s (by ((simp only [decide_eq_true_eq, List.length_map, mkS_len]; done))) ?_; conv => whnf)
           iterate 2 (refine rq_s (by (rfl)) ?_; conv => whnf)
           (refine rq_s (by ((simp only [decide_eq_true_eq, List.length_map, mkS_len]; done))) ?_; conv => whnf)
           (refine rq_s (by (((simp [maxBytes, subA]; omega)))) ?_; conv => whnf)
           (refine app0_s ?_; conv => whnf)
           (refine rq_s (by ((simp only [decide_eq_true_eq, List.length_map, mkS_len]; done))) ?_; conv => whnf)
           iterate 2 (refine rq_s (by (rfl)) ?_; conv => whnf)
           (refine rows_s (by (rfl)) ?_; conv => whnf)
           rotate_left)
       | ( iterate 3 (refine br_f rfl ?_; conv => whnf)
           (refine br_t rfl ?_; conv => whnf)
           (refine rq_s (by (rfl)) ?_; conv => whnf)
           (refine rq_s (by ((simp only [Bool.and_eq_true, decide_eq_true_eq, List.length_map]; omega))) ?_; conv => whnf)
           (refine rq_s (by ((refine and_s rfl ?_; simp only [decide_eq_true_eq, List.length_map]; omega))) ?_; conv => whnf)
           iterate 3 (refine rq_s (by (rfl)) ?_; conv => whnf)
           (refine rq_s (by (((simp [maxBytes, subA]; omega)))) ?_; conv => whnf)
           (refine app0_s ?_; conv => whnf)
           (refine rq_s (by (rfl)) ?_; conv => whnf)
           (refine rq_s (by ((simp only [decide_eq_true_eq, List.length_map, mkS_len]; done))) ?_; conv => whnf)
           iterate 2 (refine rq_s (by (rfl)) ?_; conv => whnf)
           (refine rq_s (by ((simp only [decide_eq_true_eq, List.length_map, mkS_len]; done))) ?_; conv => whnf)
           (refine rq_s (by (((simp [maxBytes, subA]; omega)))) ?_; conv => whnf)
           (refine app0_s ?_; conv => whnf)
           (refine rq_s (by ((simp only [decide_eq_true_eq, List.length_map, mkS_len]; done))) ?_; conv => whnf)
           iterate 2 (refine rq_s (by (rfl)) ?_; conv => whnf)
           (refine rows_s (by (rfl)) ?_; conv => whnf)
           rotate_left
           iterate 3 (refine br_f rfl ?_; conv => whnf)
           (refine br_t rfl ?_; conv => whnf)
           (refine rq_s (by (rfl)) ?_; conv => whnf)
           (refine rq_s (by ((simp only [Bool.and_eq_true, decide_eq_true_eq, List.length_map]; omega))) ?_; conv => whnf)
           (refine rq_s (by ((refine and_s rfl ?_; simp only [decide_eq_true_eq, List.length_map]; omega))) ?_; conv => whnf)
           iterate 3 (refine rq_s (by (rfl)) ?_; conv => whnf)
           (refine rq_s (by (((simp [maxBytes, subA]; omega)))) ?_; conv => whnf)
           (refine app0_s ?_; conv => whnf)
           (refine rq_s (by (rfl)) ?_; conv => whnf)
           (refine rq_s (by ((simp only [decide_eq_true_eq, List.length_map, mkS_len]; done))) ?_; conv => whnf)
           iterate 2 (refine rq_s (by (rfl)) ?_; conv => whnf)
           (refine rq_s (by ((simp only [decide_eq_true_eq, List.length_map, mkS_len]; done))) ?_; conv => whnf)
           (refine rq_s (by (((simp [maxBytes, subA]; omega)))) ?_; conv => whnf)
           (refine app0_s ?_; conv => whnf)
           (refine rq_s (by ((simp only [decide_eq_true_eq, List.length_map, mkS_len]; done))) ?_; conv => whnf)
           iterate 2 (refine rq_s (by (rfl)) ?_; conv => whnf)
           (refine rows_s (by (rfl)) ?_; conv => whnf)
           rotate_left)
       | ( iterate 5 (refine br_f rfl ?_; conv => whnf)
           (refine br_t rfl ?_; conv => whnf)
           (refine rq_s (by ((simp only [Bool.and_eq_true, decide_eq_true_eq, List.length_map]; omega))) ?_; conv => whnf)
           (refine rq_s (by ((refine and_s rfl ?_; simp only [decide_eq_true_eq, List.length_map]; omega))) ?_; conv => whnf)
           (refine rq_s (by (rfl)) ?_; conv => whnf)
           (refine br_s (fun hb => ?_) (fun hb => ?_) <;> (try simp only [beq_iff_eq, bne_iff_ne, ne_eq, decide_eq_true_eq, decide_eq_false_iff_not, Int.not_lt, Int.not_le, Bool.false_eq_true, if_false, if_true, beq_eq_false_iff_ne, bne_eq_false_iff_eq, Bool.not_eq_true', Bool.not_eq_false', Int.ofNat_lt, Int.ofNat_le, Int.ofNat_inj, List.length_map, List.length_nil, List.length_cons] at hb) <;> conv => whnf)
           iterate 2 (refine br_t rfl ?_; conv => whnf)
           iterate 2 (refine rq_s (by (rfl)) ?_; conv => whnf)
           (refine rows_s (by (exact sub_map _ _ _ _)) ?_; conv => whnf)
           rotate_left
           (refine br_f rfl ?_; conv => whnf)
           iterate 2 (refine rq_s (by (rfl)) ?_; conv => whnf)
           (refine rows_s (by (exact sub_map _ _ _ _)) ?_; conv => whnf)
           rotate_left
           iterate 5 (refine br_f rfl ?_; conv => whnf)
           (refine br_t rfl ?_; conv => whnf)
           (refine rq_s (by ((simp only [Bool.and_eq_true, decide_eq_true_eq, List.length_map]; omega))) ?_; conv => whnf)
           (refine rq_s (by ((refine and_s rfl ?_; simp only [decide_eq_true_eq, List.length_map]; omega))) ?_; conv => whnf)
           (refine rq_s (by (rfl)) ?_; conv => whnf)
           iterate 2 (refine br_f rfl ?_; conv => whnf)
           iterate 2 (refine rq_s (by (rfl)) ?_; conv => whnf)
           (refine rows_s (by (exact sub_map _ _ _ _)) ?_; conv => whnf)
           rotate_left)
       | ( (refine br_f rfl ?_; conv => whnf)
           iterate 2 (refine br_t rfl ?_; conv => whnf)
           iterate 3 (refine rq_s (by (rfl)) ?_; conv => whnf)
           (refine rq_s (by (((simp [maxBytes, subA]; omega)))) ?_; conv => whnf)
           (refine app0_s ?_; conv => whnf)
           (refine rq_s (by (rfl)) ?_; conv => whnf)
           (refine rq_s (by ((simp only [decide_eq_true_eq, List.length_map, mkS_len]; done))) ?_; conv => whnf)
           iterate 2 (refine rq_s (by (rfl)) ?_; conv => whnf)
           (refine rq_s (by ((simp only [decide_eq_true_eq, List.length_map, mkS_len]; done))) ?_; conv => whnf)
           (refine rq_s (by (((simp [maxBytes, subA]; omega)))) ?_; conv => whnf)
           (refine app0_s ?_; conv => whnf)
           (refine rq_s (by ((simp only [decide_eq_true_eq, List.length_map, mkS_len]; done))) ?_; conv => whnf)
           iterate 2 (refine rq_s (by (rfl)) ?_; conv => whnf)
           (refine rows_s (by (rfl)) ?_; conv => whnf)
           rotate_left
           (refine br_f rfl ?_; conv => whnf)
           iterate 2 (refine br_t rfl ?_; conv => whnf)
           iterate 3 (refine rq_s (by (rfl)) ?_; conv => whnf)
           (refine rq_s (by ((simp only [Bool.and_eq_true, decide_eq_true_eq, List.length_map]; omega))) ?_; conv => whnf)
           (refine app0_s ?_; conv => whnf)
           (refine rq_s (by (rfl)) ?_; conv => whnf)
           (refine rq_s (by ((simp only [decide_eq_true_eq, List.length_map, mkS_len]; done))) ?_; conv => whnf)
           iterate 2 (refine rq_s (by (rfl)) ?_; conv => whnf)
           (refine rq_s (by ((simp only [decide_eq_true_eq, List.length_map, mkS_len]; done))) ?_; conv => whnf)
           (refine rq_s (by (((simp [maxBytes, subA]; omega)))) ?_; conv => whnf)
           (refine app0_s ?_; conv => whnf)
           (refine rq_s (by ((simp only [decide_eq_true_eq, List.length_map, mkS_len]; done))) ?_; conv => whnf)
           iterate 2 (refine rq_s (by (rfl)) ?_; conv => whnf)
           (refine rows_s (by (rfl)) ?_; conv => whnf)
           rotate_left)
       | ( iterate 6 (refine br_f rfl ?_; conv => whnf)
           (refine br_t rfl ?_; conv => whnf)
           (refine rq_s (by ((simp only [Bool.and_eq_true, decide_eq_true_eq, List.length_map]; omega))) ?_; conv => whnf)
           (refine rq_s (by ((refine and_s rfl ?_; simp only [decide_eq_true_eq, List.length_map]; omega))) ?_; conv => whnf)
           iterate 3 (refine rq_s (by (rfl)) ?_; conv => whnf)
           (refine rows_s (by (exact sub_map _ _ _ _)) ?_; conv => whnf)
           rotate_left
           iterate 6 (refine br_f rfl ?_; conv => whnf)
           (refine br_t rfl ?_; conv => whnf)
           (refine rq_s (by ((simp only [Bool.and_eq_true, decide_eq_true_eq, List.length_map]; omega))) ?_; conv => whnf)
           (refine rq_s (by ((refine and_s rfl ?_; simp only [decide_eq_true_eq, List.length_map]; omega))) ?_; conv => whnf)
           iterate 3 (refine rq_s (by (rfl)) ?_; conv => whnf)
           (refine rows_s (by (exact sub_map _ _ _ _)) ?_; conv => whnf)
           rotate_left)
       | ( iterate 4 (refine br_f rfl ?_; conv => whnf)
           (refine br_t rfl ?_; conv => whnf)
           (refine rq_s (by (rfl)) ?_; conv => whnf)
           (refine rq_s (by ((simp only [Bool.and_eq_true, decide_eq_true_eq, List.length_map]; omega))) ?_; conv => whnf)
           (refine rq_s (by ((refine and_s rfl ?_; simp only [decide_eq_true_eq, List.length_map]; omega))) ?_; conv => whnf)
           iterate 3 (refine rq_s (by (rfl)) ?_; conv => whnf)
           (refine rq_s (by (((simp [maxBytes, subA]; omega)))) ?_; conv => whnf)
           (refine app0_s ?_; conv => whnf)
           (refine rq_s (by (rfl)) ?_; conv => whnf)
           (refine rq_s (by ((simp only [decide_eq_true_eq, List.length_map, mkS_len]; done))) ?_; conv => whnf)
           iterate 2 (refine rq_s (by (rfl)) ?_; conv => whnf)
           (refine rq_s (by ((simp only [decide_eq_true_eq, List.length_map, mkS_len]; done))) ?_; conv => whnf)
           (refine rq_s (by (((simp [maxBytes, subA]; omega)))) ?_; conv => whnf)
           (refine app0_s ?_; conv => whnf)
           (refine rq_s (by ((simp only [decide_eq_true_eq, List.length_map, mkS_len]; done))) ?_; conv => whnf)
           iterate 2 (refine rq_s (by (rfl)) ?_; conv => whnf)
           (refine rows_s (by (rfl)) ?_; conv => whnf)
           rotate_left
           iterate 4 (refine br_f rfl ?_; conv => whnf)
           (refine br_t rfl ?_; conv => whnf)
           (refine rq_s (by (rfl)) ?_; conv => whnf)
           (refine rq_s (by ((simp only [Bool.and_eq_true, decide_eq_true_eq, List.length_map]; omega))) ?_; conv => whnf)
           (refine rq_s (by ((refine and_s rfl ?_; simp only [decide_eq_true_eq, List.length_map]; omega))) ?_; conv => whnf)
           iterate 3 (refine rq_s (by (rfl)) ?_; conv => whnf)
           (refine rq_s (by (((simp [maxBytes, subA]; omega)))) ?_; conv => whnf)
           (refine app0_s ?_; conv => whnf)
           (refine rq_s (by (rfl)) ?_; conv => whnf)
           (refine rq_s (by ((simp only [decide_eq_true_eq, List.length_map, mkS_len]; done))) ?_; conv => whnf)
           iterate 2 (refine rq_s (by (rfl)) ?_; conv => whnf)
           (refine rq_s (by ((simp only [decide_eq_true_eq, List.length_map, mkS_len]; done))) ?_; conv => whnf)
           (refine rq_s (by (((simp [maxBytes, subA]; omega)))) ?_; conv => whnf)
           (refine app0_s ?_; conv => whnf)
           (refine rq_s (by ((simp only [decide_eq_true_eq, List.length_map, mkS_len]; done))) ?_; conv => whnf)
           iterate 2 (refine rq_s (by (rfl)) ?_; conv => whnf)
           (refine rows_s (by (rfl)) ?_; conv => whnf)
           rotate_left)
       | ( iterate 7 (refine br_f rfl ?_; conv => whnf)
           (refine br_t rfl ?_; conv => whnf)
           (refine rq_s (by ((simp only [Bool.and_eq_true, decide_eq_true_eq, List.length_map]; omega))) ?_; conv => whnf)
           (refine rq_s (by ((refine and_s rfl ?_; simp only [decide_eq_true_eq, List.length_map]; omega))) ?_; conv => whnf)
           iterate 3 (refine rq_s (by (rfl)) ?_; conv => whnf)
           (refine rows_s (by (exact sub_map _ _ _ _)) ?_; conv => whnf)
           rotate_left
           iterate 7 (refine br_f rfl ?_; conv => whnf)
           (refine br_t rfl ?_; conv => whnf)
           (refine rq_s (by ((simp only [Bool.and_eq_true, decide_eq_true_eq, List.length_map]; omega))) ?_; conv => whnf)
           (refine rq_s (by ((refine and_s rfl ?_; simp only [decide_eq_true_eq, List.length_map]; omega))) ?_; conv => whnf)
           iterate 3 (refine rq_s (by (rfl)) ?_; conv => whnf)
           (refine rows_s (by (exact sub_map _ _ _ _)) ?_; conv => whnf)
           rotate_left)
       | ( iterate 2 (refine br_f rfl ?_; conv => whnf)
           (refine br_t rfl ?_; conv => whnf)
           iterate 3 (refine rq_s (by (rfl)) ?_; conv => whnf)
           (refine rq_s (by (((simp [maxBytes, subA]; omega)))) ?_; conv => whnf)
           (refine app0_s ?_; conv => whnf)
           (refine rq_s (by (rfl)) ?_; conv => whnf)
           (refine rq_s (by ((simp only [decide_eq_true_eq, List.length_map, mkS_len]; done))) ?_; conv => whnf)
           iterate 2 (refine rq_s (by (rfl)) ?_; conv => whnf)
           (refine rq_s (by ((simp only [decide_eq_true_eq, List.length_map, mkS_len]; done))) ?_; conv => whnf)
           (refine rq_s (by (((simp [maxBytes, subA]; omega)))) ?_; conv => whnf)
           (refine app0_s ?_; conv => whnf)
           (refine rq_s (by ((simp only [decide_eq_true_eq, List.length_map, mkS_len]; done))) ?_; conv => whnf)
           iterate 2 (refine rq_s (by (rfl)) ?_; conv => whnf)
           (refine rows_s (by (rfl)) ?_; conv => whnf)
           rotate_left
           iterate 2 (refine br_f rfl ?_; conv => whnf)
           (refine br_t rfl ?_; conv => whnf)
           iterate 3 (refine rq_s (by (rfl)) ?_; conv => whnf)
           (refine rq_s (by ((simp only [Bool.and_eq_true, decide_eq_true_eq, List.length_map]; omega))) ?_; conv => whnf)
           (refine app0_s ?_; conv => whnf)
           (refine rq_s (by (rfl)) ?_; conv => whnf)
           (refine rq_s (by ((simp only [decide_eq_true_eq, List.length_map, mkS_len]; done))) ?_; conv => whnf)
           iterate 2 (refine rq_s (by (rfl)) ?_; conv => whnf)
           (refine rq_s (by ((simp only [decide_eq_true_eq, List.length_map, mkS_len]; done))) ?_; conv => whnf)
           (refine rq_s (by (((simp [maxBytes, subA]; omega)))) ?_; conv => whnf)
           (refine app0_s ?_; conv => whnf)
           (refine rq_s (by ((simp only [decide_eq_true_eq, List.length_map, mkS_len]; done))) ?_; conv => whnf)
           iterate 2 (refine rq_s (by (rfl)) ?_; conv => whnf)
           (refine rows_s (by (rfl)) ?_; conv => whnf)
           rotate_left)
       | ( iterate 8 (refine br_f rfl ?_; conv => whnf)
           iterate 2 (refine br_t rfl ?_; conv => whnf)
           (refine rq_s (by ((simp only [Bool.and_eq_true, decide_eq_true_eq, List.length_map]; omega))) ?_; conv => whnf)
           (refine rq_s (by ((refine and_s rfl ?_; simp only [decide_eq_true_eq, List.length_map]; omega))) ?_; conv => whnf)
           iterate 3 (refine rq_s (by (rfl)) ?_; conv => whnf)
           (refine rows_s (by (exact sub_map _ _ _ _)) ?_; conv => whnf)
           rotate_left
           iterate 8 (refine br_f rfl ?_; conv => whnf)
           iterate 2 (refine br_t rfl ?_; conv => whnf)
           (refine rq_s (by ((simp only [Bool.and_eq_true, decide_eq_true_eq, List.length_map]; omega))) ?_; conv => whnf)
           (refine rq_s (by ((refine and_s rfl ?_; simp only [decide_eq_true_eq, List.length_map]; omega))) ?_; conv => whnf)
           iterate 3 (refine rq_s (by (rfl)) ?_; conv => whnf)
           (refine rows_s (by (exact sub_map _ _ _ _)) ?_; conv => whnf)
           rotate_left)
       | ( iterate 9 (refine br_f rfl ?_; conv => whnf)
           (refine br_t rfl ?_; conv => whnf)
           (refine rq_s (by ((simp only [Bool.and_eq_true, decide_eq_true_eq, List.length_map]; omega))) ?_; conv => whnf)
           (refine rq_s (by ((refine and_s rfl ?_; simp only [decide_eq_true_eq, List.length_map]; omega))) ?_; conv => whnf)
           iterate 3 (refine rq_s (by (rfl)) ?_; conv => whnf)
           (refine rows_s (by (exact sub_map _ _ _ _)) ?_; conv => whnf)
           rotate_left
           iterate 9 (refine br_f rfl ?_; conv => whnf)
           (refine br_t rfl ?_; conv => whnf)
           (refine rq_s (by ((simp only [Bool.and_eq_true, decide_eq_true_eq, List.length_map]; omega))) ?_; conv => whnf)
           (refine rq_s (by ((refine and_s rfl ?_; simp only [decide_eq_true_eq, List.length_map]; omega))) ?_; conv => whnf)
           iterate 3 (refine rq_s (by (rfl)) ?_; conv => whnf)
           (refine rows_s (by (exact sub_map _ _ _ _)) ?_; conv => whnf)
           rotate_left)
     all_goals (first
       | refine ⟨stepO (by omega) ?_ ?_⟩
       | refine ⟨stepR ?_ ?_⟩)
     all_goals (first
       | (first | rw [(ft_o (by omega)).1] | rw [ft_t (by omega)] | rw [ft_c (by omega)])
       | (first | rw [(ft_o (by omega)).2.2] | skip))
     all_goals (try simp only [List.length_map, w3])
     all_goals (first
       | (simp [subA, intR, List.map_take, List.take_of_length_le]; done)
       | (rw [Bool.eq_iff_iff]; (try simp only [fb4, fb5, fb7, fb8, fb9, fb11, fb12]); simp; done)
       | (rw [Bool.eq_iff_iff]; (try simp only [fb4, fb5, fb7, fb8, fb9, fb11, fb12]); simp; omega)))
  · have e3 : (k == 3) = false := by simp; omega
    have e4 : (k == 4) = false := by simp; omega
    have e5 : (k == 5) = false := by simp; omega
    have e6 : (k == 6) = false := by simp; omega
    have e7 : (k == 7) = false := by simp; omega
    have e8 : (k == 8) = false := by simp; omega
    have e9 : (k == 9) = false := by simp; omega
    have e10 : (k == 10) = false := by simp; omega
    have e11 : (k == 11) = false := by simp; omega
    have e12 : (k == 12) = false := by simp; omega
    rw [(ft_n hk).1, (ft_n hk).2.2]
    refine Con.ev 100 T_ok mix Try.func89 rfl rfl rfl rfl [.tmp 4, .tmp 5] rfl ?_
    conv => whnf
    (refine br_s (fun hb => ?_) (fun hb => ?_) <;> (try simp only [beq_iff_eq, bne_iff_ne, ne_eq, decide_eq_true_eq, decide_eq_false_iff_not, Int.not_lt, Int.not_le, Bool.false_eq_true, if_false, if_true, beq_eq_false_iff_ne, bne_eq_false_iff_eq, Bool.not_eq_true', Bool.not_eq_false', Int.ofNat_lt, Int.ofNat_le, Int.ofNat_inj, List.length_map, List.length_nil, List.length_cons] at hb) <;> conv => whnf)
    (refine rq_s (by ((simp only [Bool.and_eq_true, decide_eq_true_eq, List.length_map]; omega))) ?_; conv => whnf)
    (refine rq_s (by ((refine and_s rfl ?_; simp only [decide_eq_true_eq, List.length_map]; omega))) ?_; conv => whnf)
    (refine row_s (by ((try simp only [Nat.zero_add, List.length_map]); exact row_last _ (by omega) (by omega))) ?_; conv => whnf)
    iterate 10 (refine br_f (by assumption) ?_; conv => whnf)
    iterate 2 (refine rq_s (by (rfl)) ?_; conv => whnf)
    (refine rows_s (by (rfl)) ?_; conv => whnf)
    (refine sh_s ?_; (rfl))
    iterate 10 (refine br_f (by assumption) ?_; conv => whnf)
    iterate 2 (refine rq_s (by (rfl)) ?_; conv => whnf)
    (refine rows_s (by (rfl)) ?_; conv => whnf)
    (refine sh_s ?_; (rfl))
end I3

/- What is open behind items, checks, sizes: contracts. -/
set_option linter.unusedVariables false
set_option linter.unusedSimpArgs false
set_option maxRecDepth 100000
open Go Go.Abs Go.Proofs V1 H1 I1 I2 I3
namespace I4

def openR (r : List Int × Int) : AV := .tup [roI r.1, .int .i64 r.2]

theorem c88 (xs : List Itm) : Con Try.prog 88 [roT xs] (undefs [roT xs]) (openR (openF xs)) := by
  refine Con.evF 30 T_ok mix Try.func88 rfl rfl rfl rfl [.tmp 2, .tmp 3] rfl fun ⟨hx, _⟩ => ?_
  have hx := facts_len hx
  conv => whnf
  (refine rq_s (by (rfl)) ?_; conv => whnf)
  rotate_left
  refine LoopG.emp 4 zI rfl ?_
  refine LoopG.rounds (α := Nat × List Int) T_ok mix [10, 11, 12, 4] [] (fun a => [(10, roT xs), (11, .int .i64 xs.length), (12, .int .i64 a.1), (4, roI a.2)]) (fun _ => []) (fun a => a.1 ≤ xs.length ∧ openK a.2 ∧ openGo (xs.drop a.1) a.1 a.2 = openF xs) (fun a => xs.length - a.1) ?_ ?_
  · conv => whnf
    exact head_s (0, []) ⟨by simp, openK_nil, by simp [openF]⟩ (by simp [roT, roI, subA]) rfl
  · rintro ⟨i, op⟩ ⟨h1, h2, h3⟩ - -
    simp only at h1 h2 h3 ⊢
    conv => whnf
    (refine br_s (fun hb => ?_) (fun hb => ?_) <;> (try simp only [beq_iff_eq, bne_iff_ne, ne_eq, decide_eq_true_eq, decide_eq_false_iff_not, Int.not_lt, Int.not_le, Bool.false_eq_true, if_false, if_true, beq_eq_false_iff_ne, bne_eq_false_iff_eq, Bool.not_eq_true', Bool.not_eq_false', Int.ofNat_lt, Int.ofNat_le, Int.ofNat_inj, List.length_map, List.length_nil, List.length_cons] at hb) <;> conv => whnf)
    (refine rq_s (by (rfl)) ?_; conv => whnf)
    (refine rq_s (by ((refine and_s rfl ?_; simp only [decide_eq_true_eq, List.length_map]; omega))) ?_; conv => whnf)
    (refine row_s (by ((try simp only [Int.toNat_natCast]); exact row_map itR _ _ _ default (by first | omega | (simp; omega)))) ?_; conv => whnf)
    iterate 3 (refine rq_s (by (rfl)) ?_; conv => whnf)
    (refine lend_s ?_; conv => whnf)
    (refine rows_s (by (rfl)) ?_; conv => whnf)
    (refine call_s (c136 _ _ (openK_last h2) h2.2) ?_; conv => whnf)
    (refine fac_s (fun hf => ?_); conv => whnf)
    (refine br_s (fun hb => ?_) (fun hb => ?_) <;> (try simp only [beq_iff_eq, bne_iff_ne, ne_eq, decide_eq_true_eq, decide_eq_false_iff_not, Int.not_lt, Int.not_le, Bool.false_eq_true, if_false, if_true, beq_eq_false_iff_ne, bne_eq_false_iff_eq, Bool.not_eq_true', Bool.not_eq_false', Int.ofNat_lt, Int.ofNat_le, Int.ofNat_inj, List.length_map, List.length_nil, List.length_cons] at hb) <;> conv => whnf)
    iterate 2 (refine rq_s (by (rfl)) ?_; conv => whnf)
    iterate 2 (rotate_left)
    iterate 2 (refine rq_s (by (rfl)) ?_; conv => whnf)
    (refine rows_s (by (rfl)) ?_; conv => whnf)
    rotate_left
    · rw [openGo_next (by assumption), if_neg (by simpa using hb)] at h3
      exact ⟨by rw [← h3]; exact Sh.tup ⟨Sh.emp_ro _, Sh.refl _, trivial⟩⟩
    · have hb' : fitB op (xs.getD i default).k = true := by simpa using hb
      rw [openGo_next (by assumption), if_pos hb'] at h3
      exact head_s (i + 1, fitL op (xs.getD i default).k) ⟨⟨by simp only; omega, openK_fit h2 hb', h3⟩, by simp only; omega⟩ (by rw [wrap64 (by omega) (by omega), fitI_t hb']; rfl) rfl
    · obtain rfl : i = xs.length := by omega
      rw [List.drop_length] at h3
      exact sh_s (by rw [← h3]; rfl)

theorem c86 (xs : List Itm) : Con Try.prog 86 [roT xs] (undefs [roT xs]) (.int .i64 (checkF xs)) := by
  have ho := c88 xs
  unfold openR at ho
  generalize hr : openF xs = r at ho
  obtain ⟨op, at'⟩ := r
  refine Con.ev 20 T_ok mix Try.func86 rfl rfl rfl rfl [.tmp 2] rfl ?_
  conv => whnf
  (refine rq_s (by (rfl)) ?_; conv => whnf)
  (refine lend_s ?_; conv => whnf)
  (refine rows_s (by (rfl)) ?_; conv => whnf)
  (refine call_s (ho ..) ?_; conv => whnf)
  iterate 2 (refine fac_s (fun hf => ?_); conv => whnf)
  (refine br_s (fun hb => ?_) (fun hb => ?_) <;> (try simp only [beq_iff_eq, bne_iff_ne, ne_eq, decide_eq_true_eq, decide_eq_false_iff_not, Int.not_lt, Int.not_le, Bool.false_eq_true, if_false, if_true, beq_eq_false_iff_ne, bne_eq_false_iff_eq, Bool.not_eq_true', Bool.not_eq_false', Int.ofNat_lt, Int.ofNat_le, Int.ofNat_inj, List.length_map, List.length_nil, List.length_cons] at hb) <;> conv => whnf)
  iterate 2 (refine br_t rfl ?_; conv => whnf)
  (refine br_s (fun hb => ?_) (fun hb => ?_) <;> (try simp only [beq_iff_eq, bne_iff_ne, ne_eq, decide_eq_true_eq, decide_eq_false_iff_not, Int.not_lt, Int.not_le, Bool.false_eq_true, if_false, if_true, beq_eq_false_iff_ne, bne_eq_false_iff_eq, Bool.not_eq_true', Bool.not_eq_false', Int.ofNat_lt, Int.ofNat_le, Int.ofNat_inj, List.length_map, List.length_nil, List.length_cons] at hb) <;> conv => whnf)
  (refine rq_s (by (rfl)) ?_; conv => whnf)
  (focus (refine sh_s ?_; ((simp only [checkF, hr, List.length_map]; first | (rw [if_pos (by omega)]; done) | (rw [if_neg (by omega)]; done)))))
  (refine rq_s (by (rfl)) ?_; conv => whnf)
  (focus (refine sh_s ?_; ((simp only [checkF, hr, List.length_map]; first | (rw [if_pos (by omega)]; done) | (rw [if_neg (by omega)]; done)))))
  iterate 4 (refine br_f rfl ?_; conv => whnf)
  (refine rq_s (by (rfl)) ?_; conv => whnf)
  (focus (refine sh_s ?_; ((simp only [checkF, hr, List.length_map]; first | (rw [if_pos (by omega)]; done) | (rw [if_neg (by omega)]; done)))))
theorem c36 (xs : List Itm) : Con Try.prog 36 [roT xs] (undefs [roT xs]) (.tup [.int .i64 (if askF xs = 0 then (chkF xs).1 else 0), .int .i64 (if askF xs = 0 then (chkF xs).2 else askF xs)]) := by
  refine Con.ev 16 T_ok mix Try.func36 rfl rfl rfl rfl [.tmp 2, .tmp 3] rfl ?_
  conv => whnf
  (refine rq_s (by (rfl)) ?_; conv => whnf)
  (refine lend_s ?_; conv => whnf)
  (refine rows_s (by (rfl)) ?_; conv => whnf)
  (refine call_s (c85 ..) ?_; conv => whnf)
  (refine fac_s (fun hf => ?_); conv => whnf)
  (refine br_s (fun hb => ?_) (fun hb => ?_) <;> (try simp only [beq_iff_eq, bne_iff_ne, ne_eq, decide_eq_true_eq, decide_eq_false_iff_not, Int.not_lt, Int.not_le, Bool.false_eq_true, if_false, if_true, beq_eq_false_iff_ne, bne_eq_false_iff_eq, Bool.not_eq_true', Bool.not_eq_false', Int.ofNat_lt, Int.ofNat_le, Int.ofNat_inj, List.length_map, List.length_nil, List.length_cons] at hb) <;> conv => whnf)
  iterate 2 (refine rq_s (by (rfl)) ?_; conv => whnf)
  (refine sh_s ?_; (((simp only [chkF]; repeat' split) <;> first | rfl | (exfalso; omega))))
  (refine rq_s (by (rfl)) ?_; conv => whnf)
  (refine lend_s ?_; conv => whnf)
  (refine rows_s (by (rfl)) ?_; conv => whnf)
  (refine call_s (c86 ..) ?_; conv => whnf)
  (refine fac_s (fun hf => ?_); conv => whnf)
  (refine br_s (fun hb => ?_) (fun hb => ?_) <;> (try simp only [beq_iff_eq, bne_iff_ne, ne_eq, decide_eq_true_eq, decide_eq_false_iff_not, Int.not_lt, Int.not_le, Bool.false_eq_true, if_false, if_true, beq_eq_false_iff_ne, bne_eq_false_iff_eq, Bool.not_eq_true', Bool.not_eq_false', Int.ofNat_lt, Int.ofNat_le, Int.ofNat_inj, List.length_map, List.length_nil, List.length_cons] at hb) <;> conv => whnf)
  iterate 2 (refine rq_s (by (rfl)) ?_; conv => whnf)
  (refine sh_s ?_; (((simp only [chkF]; repeat' split) <;> first | rfl | (exfalso; omega))))
  iterate 2 (refine rq_s (by (rfl)) ?_; conv => whnf)
  (refine sh_s ?_; (((simp only [chkF]; repeat' split) <;> first | rfl | (exfalso; omega))))

theorem check_f {xs : List Itm} {i : Nat} (h : ([], (i : Int)) = openF xs) : chkF xs = ((i : Int), 12) := by
  have : checkF xs = i := by rw [checkF, ← h, if_neg (by simp)]
  rw [chkF, this, if_pos (by omega)]
theorem check_o {xs : List Itm} {op : List Int} (h : (op, -1) = openF xs) (h0 : op.length > 0) : chkF xs = ((xs.length : Int), 12) := by
  have : checkF xs = xs.length := by rw [checkF, ← h, if_pos ⟨by simp, h0⟩]
  rw [chkF, this, if_pos (by omega)]
theorem check_t {xs : List Itm} {op : List Int} (h : (op, -1) = openF xs) (h0 : ¬ op.length > 0) : chkF xs = (0, 0) := by
  have : checkF xs = -1 := by rw [checkF, ← h, if_neg (fun e => h0 e.2)]
  rw [chkF, this, if_neg (by omega)]
theorem c64 (xs : List Itm) : Con Try.prog 64 [roT xs] (undefs [roT xs]) (.tup [.int .i64 (chkF xs).1, .int .i64 (chkF xs).2]) := by
  refine Con.evF 34 T_ok mix Try.func64 rfl rfl rfl rfl [.tmp 2, .tmp 3] rfl fun ⟨hx, _⟩ => ?_
  have hx := facts_len hx
  conv => whnf
  (refine rq_s (by (rfl)) ?_; conv => whnf)
  rotate_left
  refine LoopG.emp 4 zI rfl ?_
  refine LoopG.rounds (α := Nat × List Int) T_ok mix [0, 5, 4] [] (fun a => [(0, roT xs), (5, .int .i64 a.1), (4, roI a.2)]) (fun _ => []) (fun a => a.1 ≤ xs.length ∧ openK a.2 ∧ openGo (xs.drop a.1) a.1 a.2 = openF xs) (fun a => xs.length - a.1) ?_ ?_
  · conv => whnf
    exact head_s (0, []) ⟨by simp, openK_nil, by simp [openF]⟩ (by simp [roT, roI, subA]) rfl
  · rintro ⟨i, op⟩ ⟨h1, h2, h3⟩ - -
    simp only at h1 h2 h3 ⊢
    conv => whnf
    (refine br_s (fun hb => ?_) (fun hb => ?_) <;> (try simp only [beq_iff_eq, bne_iff_ne, ne_eq, decide_eq_true_eq, decide_eq_false_iff_not, Int.not_lt, Int.not_le, Bool.false_eq_true, if_false, if_true, beq_eq_false_iff_ne, bne_eq_false_iff_eq, Bool.not_eq_true', Bool.not_eq_false', Int.ofNat_lt, Int.ofNat_le, Int.ofNat_inj, List.length_map, List.length_nil, List.length_cons] at hb) <;> conv => whnf)
    (refine rq_s (by (rfl)) ?_; conv => whnf)
    (refine rq_s (by ((refine and_s rfl ?_; simp only [decide_eq_true_eq, List.length_map]; omega))) ?_; conv => whnf)
    (refine rq_s (by (rfl)) ?_; conv => whnf)
    (refine row_s (by ((try simp only [Int.toNat_natCast]); exact row_map itR _ _ _ default (by first | omega | (simp; omega)))) ?_; conv => whnf)
    iterate 2 (refine rq_s (by (rfl)) ?_; conv => whnf)
    (refine lend_s ?_; conv => whnf)
    (refine rows_s (by (rfl)) ?_; conv => whnf)
    (refine call_s (c89 _ _ h2.2) ?_; conv => whnf)
    (refine fac_s (fun hf => ?_); conv => whnf)
    (refine br_s (fun hb => ?_) (fun hb => ?_) <;> (try simp only [beq_iff_eq, bne_iff_ne, ne_eq, decide_eq_true_eq, decide_eq_false_iff_not, Int.not_lt, Int.not_le, Bool.false_eq_true, if_false, if_true, beq_eq_false_iff_ne, bne_eq_false_iff_eq, Bool.not_eq_true', Bool.not_eq_false', Int.ofNat_lt, Int.ofNat_le, Int.ofNat_inj, List.length_map, List.length_nil, List.length_cons] at hb) <;> conv => whnf)
    iterate 2 (refine rq_s (by (rfl)) ?_; conv => whnf)
    iterate 2 (rotate_left)
    (refine br_s (fun hb => ?_) (fun hb => ?_) <;> (try simp only [beq_iff_eq, bne_iff_ne, ne_eq, decide_eq_true_eq, decide_eq_false_iff_not, Int.not_lt, Int.not_le, Bool.false_eq_true, if_false, if_true, beq_eq_false_iff_ne, bne_eq_false_iff_eq, Bool.not_eq_true', Bool.not_eq_false', Int.ofNat_lt, Int.ofNat_le, Int.ofNat_inj, List.length_map, List.length_nil, List.length_cons] at hb) <;> conv => whnf)
    iterate 2 (refine rq_s (by (rfl)) ?_; conv => whnf)
    rotate_left
    iterate 2 (refine rq_s (by (rfl)) ?_; conv => whnf)
    rotate_left
    · rw [openGo_next (by assumption), if_neg (by simpa using hb)] at h3
      exact sh_s (by rw [check_f h3])
    · have hb' : fitB op (xs.getD i default).k = true := by simpa using hb
      rw [openGo_next (by assumption), if_pos hb'] at h3
      exact head_s (i + 1, fitL op (xs.getD i default).k) ⟨⟨by simp only; omega, openK_fit h2 hb', h3⟩, by simp only; omega⟩ (by rw [wrap64 (by omega) (by omega)]; rfl) rfl
    · obtain rfl : i = xs.length := by omega
      rw [List.drop_length] at h3
      exact sh_s (by rw [check_o h3 (by omega)]; simp)
    · obtain rfl : i = xs.length := by omega
      rw [List.drop_length] at h3
      exact sh_s (by rw [check_t h3 (by omega)])
theorem c124 (x : Itm) : Con Try.prog 124 [itV x] (undefs [itV x]) (.int .i64 (itSz x.k)) := by
  refine Con.ev 12 T_ok mix Try.func124 rfl rfl rfl rfl [.tmp 2] rfl ?_
  conv => whnf
  iterate 2 (refine rq_s (by (rfl)) ?_; conv => whnf)
  (refine br_s (fun hb => ?_) (fun hb => ?_) <;> (try simp only [beq_iff_eq, bne_iff_ne, ne_eq, decide_eq_true_eq, decide_eq_false_iff_not, Int.not_lt, Int.not_le, Bool.false_eq_true, if_false, if_true, beq_eq_false_iff_ne, bne_eq_false_iff_eq, Bool.not_eq_true', Bool.not_eq_false', Int.ofNat_lt, Int.ofNat_le, Int.ofNat_inj, List.length_map, List.length_nil, List.length_cons] at hb) <;> conv => whnf)
  (refine br_t rfl ?_; conv => whnf)
  (refine rq_s (by (rfl)) ?_; conv => whnf)
  (refine sh_s ?_; ((simp_all [itSz])))
  (refine br_s (fun hb => ?_) (fun hb => ?_) <;> (try simp only [beq_iff_eq, bne_iff_ne, ne_eq, decide_eq_true_eq, decide_eq_false_iff_not, Int.not_lt, Int.not_le, Bool.false_eq_true, if_false, if_true, beq_eq_false_iff_ne, bne_eq_false_iff_eq, Bool.not_eq_true', Bool.not_eq_false', Int.ofNat_lt, Int.ofNat_le, Int.ofNat_inj, List.length_map, List.length_nil, List.length_cons] at hb) <;> conv => whnf)
  (refine rq_s (by (rfl)) ?_; conv => whnf)
  (refine sh_s ?_; ((simp_all [itSz])))
  (refine br_s (fun hb => ?_) (fun hb => ?_) <;> (try simp only [beq_iff_eq, bne_iff_ne, ne_eq, decide_eq_true_eq, decide_eq_false_iff_not, Int.not_lt, Int.not_le, Bool.false_eq_true, if_false, if_true, beq_eq_false_iff_ne, bne_eq_false_iff_eq, Bool.not_eq_true', Bool.not_eq_false', Int.ofNat_lt, Int.ofNat_le, Int.ofNat_inj, List.length_map, List.length_nil, List.length_cons] at hb) <;> conv => whnf)
  (refine br_t rfl ?_; conv => whnf)
  (refine rq_s (by (rfl)) ?_; conv => whnf)
  (refine sh_s ?_; ((simp_all [itSz])))
  (refine br_s (fun hb => ?_) (fun hb => ?_) <;> (try simp only [beq_iff_eq, bne_iff_ne, ne_eq, decide_eq_true_eq, decide_eq_false_iff_not, Int.not_lt, Int.not_le, Bool.false_eq_true, if_false, if_true, beq_eq_false_iff_ne, bne_eq_false_iff_eq, Bool.not_eq_true', Bool.not_eq_false', Int.ofNat_lt, Int.ofNat_le, Int.ofNat_inj, List.length_map, List.length_nil, List.length_cons] at hb) <;> conv => whnf)
  (refine br_t rfl ?_; conv => whnf)
  (refine rq_s (by (rfl)) ?_; conv => whnf)
  (refine sh_s ?_; ((simp_all [itSz])))
  (refine br_s (fun hb => ?_) (fun hb => ?_) <;> (try simp only [beq_iff_eq, bne_iff_ne, ne_eq, decide_eq_true_eq, decide_eq_false_iff_not, Int.not_lt, Int.not_le, Bool.false_eq_true, if_false, if_true, beq_eq_false_iff_ne, bne_eq_false_iff_eq, Bool.not_eq_true', Bool.not_eq_false', Int.ofNat_lt, Int.ofNat_le, Int.ofNat_inj, List.length_map, List.length_nil, List.length_cons] at hb) <;> conv => whnf)
  (refine rq_s (by (rfl)) ?_; conv => whnf)
  (refine sh_s ?_; ((simp_all [itSz])))
  (refine rq_s (by (rfl)) ?_; conv => whnf)
  (refine sh_s ?_; ((simp_all [itSz])))
theorem c120 (k : Int) : Con Try.prog 120 [.int .i64 k] (undefs [.int .i64 k]) (.int .i64 (itSz k)) := by
  refine Con.ev 11 T_ok mix Try.func120 rfl rfl rfl rfl [.tmp 2] rfl ?_
  conv => whnf
  (refine br_s (fun hb => ?_) (fun hb => ?_) <;> (try simp only [beq_iff_eq, bne_iff_ne, ne_eq, decide_eq_true_eq, decide_eq_false_iff_not, Int.not_lt, Int.not_le, Bool.false_eq_true, if_false, if_true, beq_eq_false_iff_ne, bne_eq_false_iff_eq, Bool.not_eq_true', Bool.not_eq_false', Int.ofNat_lt, Int.ofNat_le, Int.ofNat_inj, List.length_map, List.length_nil, List.length_cons] at hb) <;> conv => whnf)
  (refine br_t rfl ?_; conv => whnf)
  (refine rq_s (by (rfl)) ?_; conv => whnf)
  (refine sh_s ?_; ((simp_all [itSz])))
  (refine br_s (fun hb => ?_) (fun hb => ?_) <;> (try simp only [beq_iff_eq, bne_iff_ne, ne_eq, decide_eq_true_eq, decide_eq_false_iff_not, Int.not_lt, Int.not_le, Bool.false_eq_true, if_false, if_true, beq_eq_false_iff_ne, bne_eq_false_iff_eq, Bool.not_eq_true', Bool.not_eq_false', Int.ofNat_lt, Int.ofNat_le, Int.ofNat_inj, List.length_map, List.length_nil, List.length_cons] at hb) <;> conv => whnf)
  (refine br_t rfl ?_; conv => whnf)
  (refine rq_s (by (rfl)) ?_; conv => whnf)
  (refine sh_s ?_; ((simp_all [itSz])))
  (refine br_s (fun hb => ?_) (fun hb => ?_) <;> (try simp only [beq_iff_eq, bne_iff_ne, ne_eq, decide_eq_true_eq, decide_eq_false_iff_not, Int.not_lt, Int.not_le, Bool.false_eq_true, if_false, if_true, beq_eq_false_iff_ne, bne_eq_false_iff_eq, Bool.not_eq_true', Bool.not_eq_false', Int.ofNat_lt, Int.ofNat_le, Int.ofNat_inj, List.length_map, List.length_nil, List.length_cons] at hb) <;> conv => whnf)
  (refine rq_s (by (rfl)) ?_; conv => whnf)
  (refine sh_s ?_; ((simp_all [itSz])))
  (refine br_s (fun hb => ?_) (fun hb => ?_) <;> (try simp only [beq_iff_eq, bne_iff_ne, ne_eq, decide_eq_true_eq, decide_eq_false_iff_not, Int.not_lt, Int.not_le, Bool.false_eq_true, if_false, if_true, beq_eq_false_iff_ne, bne_eq_false_iff_eq, Bool.not_eq_true', Bool.not_eq_false', Int.ofNat_lt, Int.ofNat_le, Int.ofNat_inj, List.length_map, List.length_nil, List.length_cons] at hb) <;> conv => whnf)
  (refine br_t rfl ?_; conv => whnf)
  (refine rq_s (by (rfl)) ?_; conv => whnf)
  (refine sh_s ?_; ((simp_all [itSz])))
  (refine br_s (fun hb => ?_) (fun hb => ?_) <;> (try simp only [beq_iff_eq, bne_iff_ne, ne_eq, decide_eq_true_eq, decide_eq_false_iff_not, Int.not_lt, Int.not_le, Bool.false_eq_true, if_false, if_true, beq_eq_false_iff_ne, bne_eq_false_iff_eq, Bool.not_eq_true', Bool.not_eq_false', Int.ofNat_lt, Int.ofNat_le, Int.ofNat_inj, List.length_map, List.length_nil, List.length_cons] at hb) <;> conv => whnf)
  (refine rq_s (by (rfl)) ?_; conv => whnf)
  (refine sh_s ?_; ((simp_all [itSz])))
  (refine rq_s (by (rfl)) ?_; conv => whnf)
  (refine sh_s ?_; ((simp_all [itSz])))
theorem c69 (xs : List Itm) (h : xs.length ≤ 1000000) : Con Try.prog 69 [roT xs] (undefs [roT xs]) (.int .i64 (sizeF xs)) := by
  refine Con.ev 18 T_ok mix Try.func69 rfl rfl rfl rfl [.tmp 2] rfl ?_
  conv => whnf
  rotate_left
  refine LoopG.rounds (α := Nat) T_ok mix [6, 7, 8, 3] [] (fun i => [(6, roT xs), (7, .int .i64 xs.length), (8, .int .i64 i), (3, .int .i64 (1 + szF (xs.take i)))]) (fun _ => []) (fun i => i ≤ xs.length) (fun i => xs.length - i) ?_ ?_
  · conv => whnf
    exact head_s 0 (by simp) (by simp [roT, szF]) rfl
  · intro i h1 _ _
    have h2 := szF_le (xs.take i)
    have h3 : (xs.take i).length ≤ xs.length := by simp; omega
    have h4 := itSz_le (xs.getD i default).k
    conv => whnf
    (refine br_s (fun hb => ?_) (fun hb => ?_) <;> (try simp only [beq_iff_eq, bne_iff_ne, ne_eq, decide_eq_true_eq, decide_eq_false_iff_not, Int.not_lt, Int.not_le, Bool.false_eq_true, if_false, if_true, beq_eq_false_iff_ne, bne_eq_false_iff_eq, Bool.not_eq_true', Bool.not_eq_false', Int.ofNat_lt, Int.ofNat_le, Int.ofNat_inj, List.length_map, List.length_nil, List.length_cons] at hb) <;> conv => whnf)
    (refine rq_s (by (rfl)) ?_; conv => whnf)
    (refine rq_s (by ((refine and_s rfl ?_; simp only [decide_eq_true_eq, List.length_map]; omega))) ?_; conv => whnf)
    (refine row_s (by ((try simp only [Int.toNat_natCast]); exact row_map itR _ _ _ default (by first | omega | (simp; omega)))) ?_; conv => whnf)
    iterate 2 (refine rq_s (by (rfl)) ?_; conv => whnf)
    (refine lend_s ?_; conv => whnf)
    (refine call_s (c124 ..) ?_; conv => whnf)
    (refine fac_s (fun hf => ?_); conv => whnf)
    rotate_left
    (refine rq_s (by (rfl)) ?_; conv => whnf)
    rotate_left
    · exact head_s (i + 1) ⟨by omega, by omega⟩ (by rw [szF_take (by assumption), wrap64 (by omega) (by omega), wrap64 (by omega) (by omega), Int.add_assoc]; rfl) rfl
    · obtain rfl : i = xs.length := by omega
      exact sh_s (by rw [List.take_length]; rfl)
theorem c65 (xs : List Itm) (h : xs.length ≤ 1000000) : Con Try.prog 65 [roT xs] (undefs [roT xs]) (.int .i64 (sizeF xs)) := by
  refine Con.ev 20 T_ok mix Try.func65 rfl rfl rfl rfl [.tmp 2] rfl ?_
  conv => whnf
  rotate_left
  refine LoopG.rounds (α := Nat) T_ok mix [0, 4, 3] [] (fun i => [(0, roT xs), (4, .int .i64 i), (3, .int .i64 (1 + szF (xs.take i)))]) (fun _ => []) (fun i => i ≤ xs.length) (fun i => xs.length - i) ?_ ?_
  · conv => whnf
    exact head_s 0 (by simp) (by simp [roT, szF]) rfl
  · intro i h1 _ _
    have h2 := szF_le (xs.take i)
    have h3 : (xs.take i).length ≤ xs.length := by simp; omega
    have h4 := itSz_le (xs.getD i default).k
    conv => whnf
    (refine br_s (fun hb => ?_) (fun hb => ?_) <;> (try simp only [beq_iff_eq, bne_iff_ne, ne_eq, decide_eq_true_eq, decide_eq_false_iff_not, Int.not_lt, Int.not_le, Bool.false_eq_true, if_false, if_true, beq_eq_false_iff_ne, bne_eq_false_iff_eq, Bool.not_eq_true', Bool.not_eq_false', Int.ofNat_lt, Int.ofNat_le, Int.ofNat_inj, List.length_map, List.length_nil, List.length_cons] at hb) <;> conv => whnf)
    (refine rq_s (by (rfl)) ?_; conv => whnf)
    (refine rq_s (by ((refine and_s rfl ?_; simp only [decide_eq_true_eq, List.length_map]; omega))) ?_; conv => whnf)
    (refine rq_s (by (rfl)) ?_; conv => whnf)
    (refine row_s (by ((try simp only [Int.toNat_natCast]); exact row_map itR _ _ _ default (by first | omega | (simp; omega)))) ?_; conv => whnf)
    (refine rq_s (by (rfl)) ?_; conv => whnf)
    (refine lend_s ?_; conv => whnf)
    (refine call_s (c120 ..) ?_; conv => whnf)
    (refine fac_s (fun hf => ?_); conv => whnf)
    rotate_left
    (refine rq_s (by (rfl)) ?_; conv => whnf)
    rotate_left
    · exact head_s (i + 1) ⟨by omega, by omega⟩ (by rw [szF_take (by assumption), wrap64 (by omega) (by omega), wrap64 (by omega) (by omega), Int.add_assoc]; rfl) rfl
    · obtain rfl : i = xs.length := by omega
      exact sh_s (by rw [List.take_length]; rfl)
end I4

/- Code of items, by the program: contracts. -/
set_option linter.unusedVariables false
set_option linter.unusedSimpArgs false
set_option maxRecDepth 100000
open Go Go.Abs Go.Proofs V1 H1 I1 I2 I3 I4
namespace I5


theorem c125 (op : List Int) (h1 : 1 ≤ op.length) (h2 : op.length ≤ 1000) : Con Try.prog 125 [.obj [ownI op]] [.obj [ownI (op.take (op.length - 1))]] (.int .i64 (lastF op)) := by
  have w1 : IntKind.i64.wrap ((op.length : Int) - 1) = (op.length : Int) - 1 := wrap64 (by omega) (by omega)
  have w2 : (IntKind.i64.wrap ((op.length : Int) - 1)).toNat = op.length - 1 := by omega
  refine Con.evP 15 [500000] rfl T_ok mix Try.func125 rfl rfl rfl rfl [.tmp 1] rfl ?_
  conv => whnf
  (refine rq_s (by ((simp only [Bool.and_eq_true, decide_eq_true_eq, List.length_map]; omega))) ?_; conv => whnf)
  (refine rq_s (by ((simp only [decide_eq_true_eq, List.length_map, mkS_len, setRow_len]; done))) ?_; conv => whnf)
  (refine rq_s (by ((refine and_s rfl ?_; simp only [decide_eq_true_eq, List.length_map]; omega))) ?_; conv => whnf)
  (refine row_s (by ((try simp only [Nat.zero_add, List.length_map]); exact row_last _ (by omega) (by omega))) ?_; conv => whnf)
  (refine rq_s (by ((simp only [Bool.and_eq_true, decide_eq_true_eq, List.length_map]; omega))) ?_; conv => whnf)
  (refine rq_s (by ((refine and_s rfl ?_; simp only [decide_eq_true_eq, List.length_map]; omega))) ?_; conv => whnf)
  (refine rq_s (by ((simp only [decide_eq_true_eq, List.length_map, mkS_len, setRow_len]; done))) ?_; conv => whnf)
  iterate 2 (refine rq_s (by (rfl)) ?_; conv => whnf)
  (refine aftp_s (by rfl) ?_; conv => whnf)
  (refine rows_s (by (exact sub_map _ _ _ _)) ?_; conv => whnf)
  (refine aftp_s (by (simp [w2, ownI, subA, List.map_take])) ?_; conv => whnf)
  exact True.intro
theorem c126 (a : Int) (c : List Int) (h1 : 0 ≤ a) (h2 : a ≤ 100000) (h3 : c.length ≤ 1000) : Con Try.prog 126 [.rp [.int .i64 a] 0, .rp [roI c] 0] (undefs [.rp [.int .i64 a] 0, .rp [roI c] 0]) (.int .i64 (a + c.length)) := by
  refine Con.ev 7 T_ok mix Try.func126 rfl rfl rfl rfl [.tmp 2] rfl ?_
  conv => whnf
  iterate 2 (refine row_s (by (rfl)) ?_; conv => whnf)
  (refine rq_s (by (rfl)) ?_; conv => whnf)
  (refine sh_s ?_; ((rw [wrap64 (by simp; omega) (by simp; omega)]; simp)))
def innF (k : Int) : Int := if k = 2 then 57 else if k = 3 ∨ k = 7 ∨ k = 8 then 59 else if k = 4 ∨ k = 9 then 58 else if k = 11 then 61 else 62
theorem c127 (x : Itm) : Con Try.prog 127 [itV x] (undefs [itV x]) (.int .i64 (innF x.k)) := by
  refine Con.ev 16 T_ok mix Try.func127 rfl rfl rfl rfl [.tmp 2] rfl ?_
  conv => whnf
  iterate 2 (refine rq_s (by (rfl)) ?_; conv => whnf)
  (refine br_s (fun hb => ?_) (fun hb => ?_) <;> (try simp only [beq_iff_eq, bne_iff_ne, ne_eq, decide_eq_true_eq, decide_eq_false_iff_not, Int.not_lt, Int.not_le, Bool.false_eq_true, if_false, if_true, beq_eq_false_iff_ne, bne_eq_false_iff_eq, Bool.not_eq_true', Bool.not_eq_false', Int.ofNat_lt, Int.ofNat_le, Int.ofNat_inj, List.length_map, List.length_nil, List.length_cons] at hb) <;> conv => whnf)
  (refine rq_s (by (rfl)) ?_; conv => whnf)
  (refine sh_s ?_; ((simp_all [innF])))
  (refine br_s (fun hb => ?_) (fun hb => ?_) <;> (try simp only [beq_iff_eq, bne_iff_ne, ne_eq, decide_eq_true_eq, decide_eq_false_iff_not, Int.not_lt, Int.not_le, Bool.false_eq_true, if_false, if_true, beq_eq_false_iff_ne, bne_eq_false_iff_eq, Bool.not_eq_true', Bool.not_eq_false', Int.ofNat_lt, Int.ofNat_le, Int.ofNat_inj, List.length_map, List.length_nil, List.length_cons] at hb) <;> conv => whnf)
  (refine br_t rfl ?_; conv => whnf)
  (refine rq_s (by (rfl)) ?_; conv => whnf)
  (refine sh_s ?_; ((simp_all [innF])))
  (refine br_s (fun hb => ?_) (fun hb => ?_) <;> (try simp only [beq_iff_eq, bne_iff_ne, ne_eq, decide_eq_true_eq, decide_eq_false_iff_not, Int.not_lt, Int.not_le, Bool.false_eq_true, if_false, if_true, beq_eq_false_iff_ne, bne_eq_false_iff_eq, Bool.not_eq_true', Bool.not_eq_false', Int.ofNat_lt, Int.ofNat_le, Int.ofNat_inj, List.length_map, List.length_nil, List.length_cons] at hb) <;> conv => whnf)
  (refine br_t rfl ?_; conv => whnf)
  (refine rq_s (by (rfl)) ?_; conv => whnf)
  (refine sh_s ?_; ((simp_all [innF])))
  (refine br_s (fun hb => ?_) (fun hb => ?_) <;> (try simp only [beq_iff_eq, bne_iff_ne, ne_eq, decide_eq_true_eq, decide_eq_false_iff_not, Int.not_lt, Int.not_le, Bool.false_eq_true, if_false, if_true, beq_eq_false_iff_ne, bne_eq_false_iff_eq, Bool.not_eq_true', Bool.not_eq_false', Int.ofNat_lt, Int.ofNat_le, Int.ofNat_inj, List.length_map, List.length_nil, List.length_cons] at hb) <;> conv => whnf)
  (refine rq_s (by (rfl)) ?_; conv => whnf)
  (refine sh_s ?_; ((simp_all [innF])))
  (refine br_s (fun hb => ?_) (fun hb => ?_) <;> (try simp only [beq_iff_eq, bne_iff_ne, ne_eq, decide_eq_true_eq, decide_eq_false_iff_not, Int.not_lt, Int.not_le, Bool.false_eq_true, if_false, if_true, beq_eq_false_iff_ne, bne_eq_false_iff_eq, Bool.not_eq_true', Bool.not_eq_false', Int.ofNat_lt, Int.ofNat_le, Int.ofNat_inj, List.length_map, List.length_nil, List.length_cons] at hb) <;> conv => whnf)
  (refine br_t rfl ?_; conv => whnf)
  (refine rq_s (by (rfl)) ?_; conv => whnf)
  (refine sh_s ?_; ((simp_all [innF])))
  (refine br_s (fun hb => ?_) (fun hb => ?_) <;> (try simp only [beq_iff_eq, bne_iff_ne, ne_eq, decide_eq_true_eq, decide_eq_false_iff_not, Int.not_lt, Int.not_le, Bool.false_eq_true, if_false, if_true, beq_eq_false_iff_ne, bne_eq_false_iff_eq, Bool.not_eq_true', Bool.not_eq_false', Int.ofNat_lt, Int.ofNat_le, Int.ofNat_inj, List.length_map, List.length_nil, List.length_cons] at hb) <;> conv => whnf)
  (refine rq_s (by (rfl)) ?_; conv => whnf)
  (refine sh_s ?_; ((simp_all [innF])))
  (refine br_s (fun hb => ?_) (fun hb => ?_) <;> (try simp only [beq_iff_eq, bne_iff_ne, ne_eq, decide_eq_true_eq, decide_eq_false_iff_not, Int.not_lt, Int.not_le, Bool.false_eq_true, if_false, if_true, beq_eq_false_iff_ne, bne_eq_false_iff_eq, Bool.not_eq_true', Bool.not_eq_false', Int.ofNat_lt, Int.ofNat_le, Int.ofNat_inj, List.length_map, List.length_nil, List.length_cons] at hb) <;> conv => whnf)
  (refine rq_s (by (rfl)) ?_; conv => whnf)
  (refine sh_s ?_; ((simp_all [innF])))
  (refine rq_s (by (rfl)) ?_; conv => whnf)
  (refine sh_s ?_; ((simp_all [innF])))
end I5
