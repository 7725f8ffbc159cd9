import Derived.Test.YtdbjklhadnnbdaaItD
/- The reference's compiler: an item; contracts. -/
set_option linter.unusedVariables false
set_option linter.unusedSimpArgs false
set_option maxRecDepth 100000
open Go Go.Abs Go.Proofs V1 H1 I1 I2 I3 I4 I5 I6 I7 I8 I9
namespace I10


theorem appM {K : Nat → List (List AV) → Nat → Prop} {lvl l : Nat} {xs : List Mk} {p q : Int} (k : K lvl ((xs ++ [(p, q)]).map mkR) (xs ++ [(p, q)]).length) :
    AppG lvl (subA (xs.map mkR) 0 xs.length ++ (l, subA [[.int .i64 p, .int .i64 q]] 0 1).snd) (xs.length + (l, subA [[AV.int .i64 p, .int .i64 q]] 0 1).snd.length) K := appf_s mkR rfl k
theorem appMm {K : Nat → List (List AV) → Nat → Prop} {lvl l : Nat} {xs : List Mk} {p q : Int} (k : K lvl ((xs ++ [(p, q)]).map mkR) (xs ++ [(p, q)]).length) :
    AppG lvl (subA (xs.map mkR) 0 (xs.map mkR).length ++ (l, subA [[.int .i64 p, .int .i64 q]] 0 1).snd) ((xs.map mkR).length + (l, subA [[AV.int .i64 p, .int .i64 q]] 0 1).snd.length) K := appfm_s mkR rfl k

set_option maxHeartbeats 1000000 in
theorem item (a self : Int) (x : Itm) (c : List Int) (ms : List Mk) (hk : 1 ≤ x.k ∧ x.k ≤ 13) (h1 : 0 ≤ a) (h2 : a ≤ 1000) (h3 : c.length ≤ 500) (h4 : ms.length ≤ 500)
    (hp : x.k = 4 ∨ x.k = 5 ∨ x.k = 7 ∨ x.k = 8 ∨ x.k = 9 ∨ x.k = 11 ∨ x.k = 12 → 1 ≤ ms.length) (hh : x.k = 4 ∨ x.k = 5 ∨ x.k = 9 → 0 ≤ (lastM ms).1 ∧ (lastM ms).1 < c.length) :
    Con Try.prog 121 [.obj (madC a c ms), itV x, .int .i64 self] [.obj (madC a (cstep a self x c ms).1 (cstep a self x c ms).2), .undef, .undef] (.tup []) := by
  obtain ⟨k, v⟩ := x
  simp only at hk hp hh
  have wc : IntKind.i64.wrap ((c.length : Int) + 2 - 1) = c.length + 1 := (wrap64 (by omega) (by omega)).trans (by omega)
  have wd : ∀ a b : Int, IntKind.i64.wrap (((c ++ [a, b]).length : Int) - 1) = c.length + 1 := fun a b => (wrap64 (by simp; omega) (by simp; omega)).trans (by simp; omega)
  have : k = 1 ∨ k = 2 ∨ k = 3 ∨ k = 4 ∨ k = 5 ∨ k = 6 ∨ k = 7 ∨ k = 8 ∨ k = 9 ∨ k = 10 ∨ k = 11 ∨ k = 12 ∨ k = 13 := by omega
  rcases this with rfl | rfl | rfl | rfl | rfl | rfl | rfl | rfl | rfl | rfl | rfl | rfl | rfl
  all_goals (try have hp := hp (by omega))
  all_goals (try have hh := hh (by omega))
  all_goals (
    refine Con.evP 188 [500000] rfl T_ok mix Try.func121 rfl rfl rfl rfl [] rfl ?_
    conv => whnf
    iterate 2 (refine rq_s (by (rfl)) ?_; conv => whnf)
    first
      | ( (refine br_t rfl ?_; conv => whnf)
          iterate 2 (refine rq_s (by (rfl)) ?_; conv => whnf)
          (refine handp_s 122 [some 3, none] ?_; conv => whnf)
          (refine rq_s (by (rfl)) ?_; conv => whnf)
          (refine rq_s (by ((simp only [decide_eq_true_eq, List.length_map, mkS_len, setRow_len]; done))) ?_; conv => whnf)
          (refine rq_s (by (rfl)) ?_; conv => whnf)
          (focus (apply callpe_s (f := 122); (· repeat' (first | (refine sub_all ?_; simp [List.length_map, mkS_len, setRow_len]; done) | exact sub_map _ _ _ _ | apply cons_eq | apply obj_eq | apply agg_eq | apply own_eq | apply ro_eq | apply rp_eq | apply fnc_eq | rfl)); refine callp_s (f := 122) rfl (c122 _ _ [v] _ (by first | omega | (dsimp only; omega) | (simp; omega)) (by simp)) ?_; conv => whnf))
          (refine aftp_s (by rfl) ?_; conv => whnf)
          iterate 2 (refine rows_s (by ((refine sub_all ?_; simp [List.length_map, mkS_len, setRow_len]; done))) ?_; conv => whnf)
          (refine aftp_s (by rfl) ?_; conv => whnf)
          exact True.intro)
      | ( iterate 2 (refine br_f rfl ?_; conv => whnf)
          (refine br_t rfl ?_; conv => whnf)
          iterate 2 (refine ChkS.mk (by kernel_rfl) ?_; conv => whnf)
          (refine rq_s (by (rfl)) ?_; conv => whnf)
          (refine call_s (w57 ..) ?_; conv => whnf)
          (refine ChkS.mk (by kernel_rfl) ?_; conv => whnf)
          (refine rq_s (by (rfl)) ?_; conv => whnf)
          iterate 2 (refine ChkS.mk (by kernel_rfl) ?_; conv => whnf)
          (refine rq_s (by (rfl)) ?_; conv => whnf)
          (refine ChkS.mk (by kernel_rfl) ?_; conv => whnf)
          (refine handp_s 122 [some 3, none] ?_; conv => whnf)
          (refine rq_s (by (rfl)) ?_; conv => whnf)
          (refine rq_s (by ((simp only [decide_eq_true_eq, List.length_map, mkS_len, setRow_len]; done))) ?_; conv => whnf)
          (refine rq_s (by (rfl)) ?_; conv => whnf)
          (focus (apply callpe_s (f := 122); (· repeat' (first | (refine sub_all ?_; simp [List.length_map, mkS_len, setRow_len]; done) | exact sub_map _ _ _ _ | apply cons_eq | apply obj_eq | apply agg_eq | apply own_eq | apply ro_eq | apply rp_eq | apply fnc_eq | rfl)); refine callp_s (f := 122) rfl (c122 _ _ [57, v] _ (by first | omega | (dsimp only; omega) | (simp; omega)) (by simp)) ?_; conv => whnf))
          (refine ChkS.mk (by kernel_rfl) ?_; conv => whnf)
          (refine fac_s (fun hf => ?_); conv => whnf)
          (refine aftp_s (by rfl) ?_; conv => whnf)
          iterate 2 (refine rows_s (by ((refine sub_all ?_; simp [List.length_map, mkS_len, setRow_len]; done))) ?_; conv => whnf)
          (refine aftp_s (by rfl) ?_; conv => whnf)
          exact True.intro)
      | ( iterate 3 (refine br_f rfl ?_; conv => whnf)
          (refine br_t rfl ?_; conv => whnf)
          (refine rq_s (by (rfl)) ?_; conv => whnf)
          (refine lend_s ?_; conv => whnf)
          (refine call_s (w59 ..) ?_; conv => whnf)
          (refine rq_s (by (rfl)) ?_; conv => whnf)
          (refine handp_s 122 [some 3, none] ?_; conv => whnf)
          (refine rq_s (by (rfl)) ?_; conv => whnf)
          (refine rq_s (by ((simp only [decide_eq_true_eq, List.length_map, mkS_len, setRow_len]; done))) ?_; conv => whnf)
          (refine rq_s (by (rfl)) ?_; conv => whnf)
          (focus (apply callpe_s (f := 122); (· repeat' (first | (refine sub_all ?_; simp [List.length_map, mkS_len, setRow_len]; done) | exact sub_map _ _ _ _ | apply cons_eq | apply obj_eq | apply agg_eq | apply own_eq | apply ro_eq | apply rp_eq | apply fnc_eq | rfl)); refine callp_s (f := 122) rfl (c122 _ _ [59, 0] _ (by first | omega | (dsimp only; omega) | (simp; omega)) (by simp)) ?_; conv => whnf))
          (refine fac_s (fun hf => ?_); conv => whnf)
          iterate 4 (refine ChkS.mk (by kernel_rfl) ?_; conv => whnf)
          (refine rq_s (by (rfl)) ?_; conv => whnf)
          iterate 4 (refine ChkS.mk (by kernel_rfl) ?_; conv => whnf)
          (refine rq_s (by (rfl)) ?_; conv => whnf)
          iterate 4 (refine ChkS.mk (by kernel_rfl) ?_; conv => whnf)
          (refine rq_s (by (rfl)) ?_; conv => whnf)
          (refine ChkS.mk (by kernel_rfl) ?_; conv => whnf)
          (refine rq_s (by (rfl)) ?_; conv => whnf)
          (refine ChkS.mk (by kernel_rfl) ?_; conv => whnf)
          (refine rq_s (by ((simp only [decide_eq_true_eq, List.length_map, mkS_len, setRow_len]; done))) ?_; conv => whnf)
          iterate 2 (refine rq_s (by (rfl)) ?_; conv => whnf)
          (refine rq_s (by ((simp only [decide_eq_true_eq, List.length_map, mkS_len, setRow_len]; done))) ?_; conv => whnf)
          (refine rq_s (by (((simp [maxBytes, subA]; omega)))) ?_; conv => whnf)
          (refine appMm ?_; conv => whnf)
          iterate 2 (refine ChkS.mk (by kernel_rfl) ?_; conv => whnf)
          (refine rq_s (by (rfl)) ?_; conv => whnf)
          iterate 2 (refine ChkS.mk (by kernel_rfl) ?_; conv => whnf)
          (refine aftp_s (by rfl) ?_; conv => whnf)
          iterate 2 (refine rows_s (by ((refine sub_all ?_; simp [List.length_map, mkS_len, setRow_len]; done))) ?_; conv => whnf)
          (refine aftp_s (by ((simp [cstep, madC, ownI, mkR, subA, List.take_of_length_le, wc, wd, List.map_take]))) ?_; conv => whnf)
          exact True.intro)
      | ( iterate 4 (refine br_f rfl ?_; conv => whnf)
          (refine br_t rfl ?_; conv => whnf)
          (refine handp_s 143 [some 3] ?_; conv => whnf)
          (refine rq_s (by (rfl)) ?_; conv => whnf)
          (focus (apply callpe_s (f := 143); (· repeat' (first | (refine sub_all ?_; simp [List.length_map, mkS_len, setRow_len]; done) | exact sub_map _ _ _ _ | apply cons_eq | apply obj_eq | apply agg_eq | apply own_eq | apply ro_eq | apply rp_eq | apply fnc_eq | rfl)); refine callp_s (f := 143) rfl (c143 _ _ _ (by first | omega | (dsimp only; omega) | (simp; omega)) (by first | omega | (dsimp only; omega) | (simp; omega))) ?_; conv => whnf))
          iterate 2 (refine fac_s (fun hf => ?_); conv => whnf)
          (refine rq_s (by (rfl)) ?_; conv => whnf)
          (refine lend_s ?_; conv => whnf)
          (refine call_s (w58 ..) ?_; conv => whnf)
          (refine rq_s (by (rfl)) ?_; conv => whnf)
          (refine handp_s 122 [some 3, none] ?_; conv => whnf)
          (refine rq_s (by (rfl)) ?_; conv => whnf)
          (refine rq_s (by ((simp only [decide_eq_true_eq, List.length_map, mkS_len, setRow_len]; done))) ?_; conv => whnf)
          (refine rq_s (by (rfl)) ?_; conv => whnf)
          (focus (apply callpe_s (f := 122); (· repeat' (first | (refine sub_all ?_; simp [List.length_map, mkS_len, setRow_len]; done) | exact sub_map _ _ _ _ | apply cons_eq | apply obj_eq | apply agg_eq | apply own_eq | apply ro_eq | apply rp_eq | apply fnc_eq | rfl)); refine callp_s (f := 122) rfl (c122 _ _ [58, 0] _ (by first | omega | (dsimp only; omega) | (simp; omega)) (by simp)) ?_; conv => whnf))
          (refine fac_s (fun hf => ?_); conv => whnf)
          (refine rq_s (by (rfl)) ?_; conv => whnf)
          (refine handp_s 144 [some 3, none] ?_; conv => whnf)
          iterate 2 (refine rq_s (by (rfl)) ?_; conv => whnf)
          (focus (apply callpe_s (f := 144); (· repeat' (first | (refine sub_all ?_; simp [List.length_map, mkS_len, setRow_len]; done) | exact sub_map _ _ _ _ | apply cons_eq | apply obj_eq | apply agg_eq | apply own_eq | apply ro_eq | apply rp_eq | apply fnc_eq | rfl)); refine callp_s (f := 144) rfl (c144 _ _ _ _ (by first | omega | (dsimp only; omega) | (simp; omega)) (by first | omega | (dsimp only; omega) | (simp; omega)) (by first | omega | (dsimp only; omega) | (simp; omega)) (by first | omega | (dsimp only; omega) | (simp; omega)) (by first | omega | (dsimp only; omega) | (simp; omega))) ?_; conv => whnf))
          iterate 4 (refine ChkS.mk (by kernel_rfl) ?_; conv => whnf)
          (refine rq_s (by (rfl)) ?_; conv => whnf)
          iterate 4 (refine ChkS.mk (by kernel_rfl) ?_; conv => whnf)
          (refine rq_s (by (rfl)) ?_; conv => whnf)
          iterate 4 (refine ChkS.mk (by kernel_rfl) ?_; conv => whnf)
          (refine rq_s (by (rfl)) ?_; conv => whnf)
          (refine ChkS.mk (by kernel_rfl) ?_; conv => whnf)
          (refine rq_s (by (rfl)) ?_; conv => whnf)
          (refine ChkS.mk (by kernel_rfl) ?_; conv => whnf)
          (refine rq_s (by ((simp only [decide_eq_true_eq, List.length_map, mkS_len, setRow_len]; done))) ?_; conv => whnf)
          iterate 2 (refine rq_s (by (rfl)) ?_; conv => whnf)
          (refine rq_s (by ((simp only [decide_eq_true_eq, List.length_map, mkS_len, setRow_len]; done))) ?_; conv => whnf)
          (refine rq_s (by (((simp [maxBytes, subA]; omega)))) ?_; conv => whnf)
          (refine appMm ?_; conv => whnf)
          iterate 2 (refine ChkS.mk (by kernel_rfl) ?_; conv => whnf)
          (refine rq_s (by (rfl)) ?_; conv => whnf)
          iterate 2 (refine ChkS.mk (by kernel_rfl) ?_; conv => whnf)
          (refine aftp_s (by rfl) ?_; conv => whnf)
          iterate 2 (refine rows_s (by ((refine sub_all ?_; simp [List.length_map, mkS_len, setRow_len]; done))) ?_; conv => whnf)
          (refine aftp_s (by ((simp [cstep, madC, ownI, mkR, subA, List.take_of_length_le, wc, wd, List.map_take]))) ?_; conv => whnf)
          exact True.intro)
      | ( iterate 5 (refine br_f rfl ?_; conv => whnf)
          (refine br_t rfl ?_; conv => whnf)
          (refine handp_s 143 [some 3] ?_; conv => whnf)
          (refine rq_s (by (rfl)) ?_; conv => whnf)
          (focus (apply callpe_s (f := 143); (· repeat' (first | (refine sub_all ?_; simp [List.length_map, mkS_len, setRow_len]; done) | exact sub_map _ _ _ _ | apply cons_eq | apply obj_eq | apply agg_eq | apply own_eq | apply ro_eq | apply rp_eq | apply fnc_eq | rfl)); refine callp_s (f := 143) rfl (c143 _ _ _ (by first | omega | (dsimp only; omega) | (simp; omega)) (by first | omega | (dsimp only; omega) | (simp; omega))) ?_; conv => whnf))
          (refine handp_s 144 [some 3, none] ?_; conv => whnf)
          iterate 2 (refine rq_s (by (rfl)) ?_; conv => whnf)
          (focus (apply callpe_s (f := 144); (· repeat' (first | (refine sub_all ?_; simp [List.length_map, mkS_len, setRow_len]; done) | exact sub_map _ _ _ _ | apply cons_eq | apply obj_eq | apply agg_eq | apply own_eq | apply ro_eq | apply rp_eq | apply fnc_eq | rfl)); refine callp_s (f := 144) rfl (c144 _ _ _ _ (by first | omega | (dsimp only; omega) | (simp; omega)) (by first | omega | (dsimp only; omega) | (simp; omega)) (by first | omega | (dsimp only; omega) | (simp; omega)) (by first | omega | (dsimp only; omega) | (simp; omega)) (by first | omega | (dsimp only; omega) | (simp; omega))) ?_; conv => whnf))
          iterate 2 (refine fac_s (fun hf => ?_); conv => whnf)
          (refine aftp_s (by rfl) ?_; conv => whnf)
          iterate 2 (refine rows_s (by ((refine sub_all ?_; simp [List.length_map, mkS_len, setRow_len]; done))) ?_; conv => whnf)
          (refine aftp_s (by rfl) ?_; conv => whnf)
          exact True.intro)
      | ( iterate 6 (refine br_f rfl ?_; conv => whnf)
          (refine br_t rfl ?_; conv => whnf)
          iterate 4 (refine ChkS.mk (by kernel_rfl) ?_; conv => whnf)
          (refine rq_s (by (rfl)) ?_; conv => whnf)
          iterate 3 (refine ChkS.mk (by kernel_rfl) ?_; conv => whnf)
          (refine handp_s 145 [none] ?_; conv => whnf)
          iterate 3 (refine rq_s (by (rfl)) ?_; conv => whnf)
          (refine rq_s (by ((simp only [decide_eq_true_eq, List.length_map, mkS_len, setRow_len]; done))) ?_; conv => whnf)
          iterate 2 (refine rq_s (by (rfl)) ?_; conv => whnf)
          (refine rq_s (by ((simp only [decide_eq_true_eq, List.length_map, mkS_len, setRow_len]; done))) ?_; conv => whnf)
          (refine rq_s (by (rfl)) ?_; conv => whnf)
          (focus (apply callpe_s (f := 145); (· repeat' (first | (refine sub_all ?_; simp [List.length_map, mkS_len, setRow_len]; done) | exact sub_map _ _ _ _ | apply cons_eq | apply obj_eq | apply agg_eq | apply own_eq | apply ro_eq | apply rp_eq | apply fnc_eq | rfl)); refine callp_s (f := 145) rfl (c145 _ _ _ (by first | omega | (dsimp only; omega) | (simp; omega)) (by first | omega | (dsimp only; omega) | (simp; omega)) (by first | omega | (dsimp only; omega) | (simp; omega))) ?_; conv => whnf))
          (refine ChkS.mk (by kernel_rfl) ?_; conv => whnf)
          (refine rq_s (by (rfl)) ?_; conv => whnf)
          (refine ChkS.mk (by kernel_rfl) ?_; conv => whnf)
          (refine rq_s (by (rfl)) ?_; conv => whnf)
          (refine ChkS.mk (by kernel_rfl) ?_; conv => whnf)
          (refine rq_s (by ((simp only [decide_eq_true_eq, List.length_map, mkS_len, setRow_len]; done))) ?_; conv => whnf)
          iterate 2 (refine rq_s (by (rfl)) ?_; conv => whnf)
          (refine rq_s (by ((simp only [decide_eq_true_eq, List.length_map, mkS_len, setRow_len]; done))) ?_; conv => whnf)
          (refine rq_s (by (((simp [maxBytes, subA]; omega)))) ?_; conv => whnf)
          (refine appMm ?_; conv => whnf)
          iterate 2 (refine ChkS.mk (by kernel_rfl) ?_; conv => whnf)
          (refine rq_s (by (rfl)) ?_; conv => whnf)
          iterate 2 (refine ChkS.mk (by kernel_rfl) ?_; conv => whnf)
          (refine fac_s (fun hf => ?_); conv => whnf)
          (refine aftp_s (by rfl) ?_; conv => whnf)
          iterate 2 (refine rows_s (by ((refine sub_all ?_; simp [List.length_map, mkS_len, setRow_len]; done))) ?_; conv => whnf)
          (refine aftp_s (by rfl) ?_; conv => whnf)
          exact True.intro)
      | ( iterate 7 (refine br_f rfl ?_; conv => whnf)
          (refine br_t rfl ?_; conv => whnf)
          (refine rq_s (by (rfl)) ?_; conv => whnf)
          (refine lend_s ?_; conv => whnf)
          (refine call_s (w59 ..) ?_; conv => whnf)
          (refine handp_s 143 [some 3] ?_; conv => whnf)
          (refine rq_s (by (rfl)) ?_; conv => whnf)
          (focus (apply callpe_s (f := 143); (· repeat' (first | (refine sub_all ?_; simp [List.length_map, mkS_len, setRow_len]; done) | exact sub_map _ _ _ _ | apply cons_eq | apply obj_eq | apply agg_eq | apply own_eq | apply ro_eq | apply rp_eq | apply fnc_eq | rfl)); refine callp_s (f := 143) rfl (c143 _ _ _ (by first | omega | (dsimp only; omega) | (simp; omega)) (by first | omega | (dsimp only; omega) | (simp; omega))) ?_; conv => whnf))
          (refine rq_s (by (rfl)) ?_; conv => whnf)
          (refine handp_s 122 [some 3, none] ?_; conv => whnf)
          (refine rq_s (by (rfl)) ?_; conv => whnf)
          (refine rq_s (by ((simp only [decide_eq_true_eq, List.length_map, mkS_len, setRow_len]; done))) ?_; conv => whnf)
          (refine rq_s (by (rfl)) ?_; conv => whnf)
          (focus (apply callpe_s (f := 122); (· repeat' (first | (refine sub_all ?_; simp [List.length_map, mkS_len, setRow_len]; done) | exact sub_map _ _ _ _ | apply cons_eq | apply obj_eq | apply agg_eq | apply own_eq | apply ro_eq | apply rp_eq | apply fnc_eq | rfl)); refine callp_s (f := 122) rfl (c122 _ _ [59, (lastM ms).2] _ (by first | omega | (dsimp only; omega) | (simp; omega)) (by simp)) ?_; conv => whnf))
          iterate 3 (refine fac_s (fun hf => ?_); conv => whnf)
          (refine aftp_s (by rfl) ?_; conv => whnf)
          iterate 2 (refine rows_s (by ((refine sub_all ?_; simp [List.length_map, mkS_len, setRow_len]; done))) ?_; conv => whnf)
          (refine aftp_s (by rfl) ?_; conv => whnf)
          exact True.intro)
      | ( iterate 8 (refine br_f rfl ?_; conv => whnf)
          (refine br_t rfl ?_; conv => whnf)
          (refine handp_s 143 [some 3] ?_; conv => whnf)
          (refine rq_s (by (rfl)) ?_; conv => whnf)
          (focus (apply callpe_s (f := 143); (· repeat' (first | (refine sub_all ?_; simp [List.length_map, mkS_len, setRow_len]; done) | exact sub_map _ _ _ _ | apply cons_eq | apply obj_eq | apply agg_eq | apply own_eq | apply ro_eq | apply rp_eq | apply fnc_eq | rfl)); refine callp_s (f := 143) rfl (c143 _ _ _ (by first | omega | (dsimp only; omega) | (simp; omega)) (by first | omega | (dsimp only; omega) | (simp; omega))) ?_; conv => whnf))
          iterate 2 (refine fac_s (fun hf => ?_); conv => whnf)
          (refine rq_s (by (rfl)) ?_; conv => whnf)
          (refine lend_s ?_; conv => whnf)
          (refine call_s (w59 ..) ?_; conv => whnf)
          (refine rq_s (by (rfl)) ?_; conv => whnf)
          (refine handp_s 122 [some 3, none] ?_; conv => whnf)
          (refine rq_s (by (rfl)) ?_; conv => whnf)
          (refine rq_s (by ((simp only [decide_eq_true_eq, List.length_map, mkS_len, setRow_len]; done))) ?_; conv => whnf)
          (refine rq_s (by (rfl)) ?_; conv => whnf)
          (focus (apply callpe_s (f := 122); (· repeat' (first | (refine sub_all ?_; simp [List.length_map, mkS_len, setRow_len]; done) | exact sub_map _ _ _ _ | apply cons_eq | apply obj_eq | apply agg_eq | apply own_eq | apply ro_eq | apply rp_eq | apply fnc_eq | rfl)); refine callp_s (f := 122) rfl (c122 _ _ [59, 0] _ (by first | omega | (dsimp only; omega) | (simp; omega)) (by simp)) ?_; conv => whnf))
          (refine fac_s (fun hf => ?_); conv => whnf)
          iterate 4 (refine ChkS.mk (by kernel_rfl) ?_; conv => whnf)
          (refine rq_s (by (rfl)) ?_; conv => whnf)
          iterate 4 (refine ChkS.mk (by kernel_rfl) ?_; conv => whnf)
          (refine rq_s (by (rfl)) ?_; conv => whnf)
          iterate 4 (refine ChkS.mk (by kernel_rfl) ?_; conv => whnf)
          (refine rq_s (by (rfl)) ?_; conv => whnf)
          iterate 2 (refine ChkS.mk (by kernel_rfl) ?_; conv => whnf)
          (refine rq_s (by (rfl)) ?_; conv => whnf)
          (refine ChkS.mk (by kernel_rfl) ?_; conv => whnf)
          (refine rq_s (by (rfl)) ?_; conv => whnf)
          (refine ChkS.mk (by kernel_rfl) ?_; conv => whnf)
          (refine rq_s (by ((simp only [decide_eq_true_eq, List.length_map, mkS_len, setRow_len]; done))) ?_; conv => whnf)
          iterate 2 (refine rq_s (by (rfl)) ?_; conv => whnf)
          (refine rq_s (by ((simp only [decide_eq_true_eq, List.length_map, mkS_len, setRow_len]; done))) ?_; conv => whnf)
          (refine rq_s (by (((simp [maxBytes, subA]; omega)))) ?_; conv => whnf)
          (refine appMm ?_; conv => whnf)
          iterate 2 (refine ChkS.mk (by kernel_rfl) ?_; conv => whnf)
          (refine rq_s (by (rfl)) ?_; conv => whnf)
          iterate 2 (refine ChkS.mk (by kernel_rfl) ?_; conv => whnf)
          (refine aftp_s (by rfl) ?_; conv => whnf)
          iterate 2 (refine rows_s (by ((refine sub_all ?_; simp [List.length_map, mkS_len, setRow_len]; done))) ?_; conv => whnf)
          (refine aftp_s (by ((simp [cstep, madC, ownI, mkR, subA, List.take_of_length_le, wc, wd, List.map_take]))) ?_; conv => whnf)
          exact True.intro)
      | ( iterate 9 (refine br_f rfl ?_; conv => whnf)
          (refine br_t rfl ?_; conv => whnf)
          (refine handp_s 143 [some 3] ?_; conv => whnf)
          (refine rq_s (by (rfl)) ?_; conv => whnf)
          (focus (apply callpe_s (f := 143); (· repeat' (first | (refine sub_all ?_; simp [List.length_map, mkS_len, setRow_len]; done) | exact sub_map _ _ _ _ | apply cons_eq | apply obj_eq | apply agg_eq | apply own_eq | apply ro_eq | apply rp_eq | apply fnc_eq | rfl)); refine callp_s (f := 143) rfl (c143 _ _ _ (by first | omega | (dsimp only; omega) | (simp; omega)) (by first | omega | (dsimp only; omega) | (simp; omega))) ?_; conv => whnf))
          iterate 2 (refine fac_s (fun hf => ?_); conv => whnf)
          iterate 2 (refine ChkS.mk (by kernel_rfl) ?_; conv => whnf)
          (refine rq_s (by (rfl)) ?_; conv => whnf)
          (refine call_s (w58 ..) ?_; conv => whnf)
          (refine ChkS.mk (by kernel_rfl) ?_; conv => whnf)
          (refine rq_s (by (rfl)) ?_; conv => whnf)
          iterate 2 (refine ChkS.mk (by kernel_rfl) ?_; conv => whnf)
          (refine rq_s (by (rfl)) ?_; conv => whnf)
          (refine ChkS.mk (by kernel_rfl) ?_; conv => whnf)
          (refine handp_s 122 [some 3, none] ?_; conv => whnf)
          (refine rq_s (by (rfl)) ?_; conv => whnf)
          (refine rq_s (by ((simp only [decide_eq_true_eq, List.length_map, mkS_len, setRow_len]; done))) ?_; conv => whnf)
          (refine rq_s (by (rfl)) ?_; conv => whnf)
          (focus (apply callpe_s (f := 122); (· repeat' (first | (refine sub_all ?_; simp [List.length_map, mkS_len, setRow_len]; done) | exact sub_map _ _ _ _ | apply cons_eq | apply obj_eq | apply agg_eq | apply own_eq | apply ro_eq | apply rp_eq | apply fnc_eq | rfl)); refine callp_s (f := 122) rfl (c122 _ _ [58, (lastM ms).2] _ (by first | omega | (dsimp only; omega) | (simp; omega)) (by simp)) ?_; conv => whnf))
          (refine ChkS.mk (by kernel_rfl) ?_; conv => whnf)
          (refine fac_s (fun hf => ?_); conv => whnf)
          (refine rq_s (by (rfl)) ?_; conv => whnf)
          (refine handp_s 144 [some 3, none] ?_; conv => whnf)
          iterate 2 (refine rq_s (by (rfl)) ?_; conv => whnf)
          (focus (apply callpe_s (f := 144); (· repeat' (first | (refine sub_all ?_; simp [List.length_map, mkS_len, setRow_len]; done) | exact sub_map _ _ _ _ | apply cons_eq | apply obj_eq | apply agg_eq | apply own_eq | apply ro_eq | apply rp_eq | apply fnc_eq | rfl)); refine callp_s (f := 144) rfl (c144 _ _ _ _ (by first | omega | (dsimp only; omega) | (simp; omega)) (by first | omega | (dsimp only; omega) | (simp; omega)) (by first | omega | (dsimp only; omega) | (simp; omega)) (by first | omega | (dsimp only; omega) | (simp; omega)) (by first | omega | (dsimp only; omega) | (simp; omega))) ?_; conv => whnf))
          (refine aftp_s (by rfl) ?_; conv => whnf)
          iterate 2 (refine rows_s (by ((refine sub_all ?_; simp [List.length_map, mkS_len, setRow_len]; done))) ?_; conv => whnf)
          (refine aftp_s (by ((simp [cstep, madC, ownI, mkR, subA, List.take_of_length_le, wc, wd, List.map_take]))) ?_; conv => whnf)
          exact True.intro)
      | ( iterate 10 (refine br_f rfl ?_; conv => whnf)
          (refine br_t rfl ?_; conv => whnf)
          (refine rq_s (by (rfl)) ?_; conv => whnf)
          (refine lend_s ?_; conv => whnf)
          (refine call_s (w60 ..) ?_; conv => whnf)
          (refine rq_s (by (rfl)) ?_; conv => whnf)
          (refine handp_s 122 [some 3, none] ?_; conv => whnf)
          (refine rq_s (by (rfl)) ?_; conv => whnf)
          (refine rq_s (by ((simp only [decide_eq_true_eq, List.length_map, mkS_len, setRow_len]; done))) ?_; conv => whnf)
          (refine rq_s (by (rfl)) ?_; conv => whnf)
          (focus (apply callpe_s (f := 122); (· repeat' (first | (refine sub_all ?_; simp [List.length_map, mkS_len, setRow_len]; done) | exact sub_map _ _ _ _ | apply cons_eq | apply obj_eq | apply agg_eq | apply own_eq | apply ro_eq | apply rp_eq | apply fnc_eq | rfl)); refine callp_s (f := 122) rfl (c122 _ _ [60] _ (by first | omega | (dsimp only; omega) | (simp; omega)) (by simp)) ?_; conv => whnf))
          (refine fac_s (fun hf => ?_); conv => whnf)
          iterate 4 (refine ChkS.mk (by kernel_rfl) ?_; conv => whnf)
          (refine rq_s (by (rfl)) ?_; conv => whnf)
          iterate 3 (refine ChkS.mk (by kernel_rfl) ?_; conv => whnf)
          (refine handp_s 145 [none] ?_; conv => whnf)
          iterate 3 (refine rq_s (by (rfl)) ?_; conv => whnf)
          (refine rq_s (by ((simp only [decide_eq_true_eq, List.length_map, mkS_len, setRow_len]; done))) ?_; conv => whnf)
          iterate 2 (refine rq_s (by (rfl)) ?_; conv => whnf)
          (refine rq_s (by ((simp only [decide_eq_true_eq, List.length_map, mkS_len, setRow_len]; done))) ?_; conv => whnf)
          (refine rq_s (by (rfl)) ?_; conv => whnf)
          (focus (apply callpe_s (f := 145); (· repeat' (first | (refine sub_all ?_; simp [List.length_map, mkS_len, setRow_len]; done) | exact sub_map _ _ _ _ | apply cons_eq | apply obj_eq | apply agg_eq | apply own_eq | apply ro_eq | apply rp_eq | apply fnc_eq | rfl)); refine callp_s (f := 145) rfl (c145 _ _ _ (by first | omega | (dsimp only; omega) | (simp; omega)) (by first | omega | (dsimp only; omega) | (simp; omega)) (by first | omega | (dsimp only; omega) | (simp; omega))) ?_; conv => whnf))
          (refine ChkS.mk (by kernel_rfl) ?_; conv => whnf)
          (refine rq_s (by (rfl)) ?_; conv => whnf)
          (refine ChkS.mk (by kernel_rfl) ?_; conv => whnf)
          (refine rq_s (by (rfl)) ?_; conv => whnf)
          (refine ChkS.mk (by kernel_rfl) ?_; conv => whnf)
          (refine rq_s (by ((simp only [decide_eq_true_eq, List.length_map, mkS_len, setRow_len]; done))) ?_; conv => whnf)
          iterate 2 (refine rq_s (by (rfl)) ?_; conv => whnf)
          (refine rq_s (by ((simp only [decide_eq_true_eq, List.length_map, mkS_len, setRow_len]; done))) ?_; conv => whnf)
          (refine rq_s (by (((simp [maxBytes, subA]; omega)))) ?_; conv => whnf)
          (refine appMm ?_; conv => whnf)
          iterate 2 (refine ChkS.mk (by kernel_rfl) ?_; conv => whnf)
          (refine rq_s (by (rfl)) ?_; conv => whnf)
          iterate 2 (refine ChkS.mk (by kernel_rfl) ?_; conv => whnf)
          (refine fac_s (fun hf => ?_); conv => whnf)
          (refine aftp_s (by rfl) ?_; conv => whnf)
          iterate 2 (refine rows_s (by ((refine sub_all ?_; simp [List.length_map, mkS_len, setRow_len]; done))) ?_; conv => whnf)
          (refine aftp_s (by ((simp [cstep, madC, ownI, mkR, subA, List.take_of_length_le, wc, wd, List.map_take]))) ?_; conv => whnf)
          exact True.intro)
      | ( iterate 11 (refine br_f rfl ?_; conv => whnf)
          (refine br_t rfl ?_; conv => whnf)
          (refine rq_s (by (rfl)) ?_; conv => whnf)
          (refine lend_s ?_; conv => whnf)
          (refine call_s (w61 ..) ?_; conv => whnf)
          (refine handp_s 143 [some 3] ?_; conv => whnf)
          (refine rq_s (by (rfl)) ?_; conv => whnf)
          (focus (apply callpe_s (f := 143); (· repeat' (first | (refine sub_all ?_; simp [List.length_map, mkS_len, setRow_len]; done) | exact sub_map _ _ _ _ | apply cons_eq | apply obj_eq | apply agg_eq | apply own_eq | apply ro_eq | apply rp_eq | apply fnc_eq | rfl)); refine callp_s (f := 143) rfl (c143 _ _ _ (by first | omega | (dsimp only; omega) | (simp; omega)) (by first | omega | (dsimp only; omega) | (simp; omega))) ?_; conv => whnf))
          (refine rq_s (by (rfl)) ?_; conv => whnf)
          (refine handp_s 122 [some 3, none] ?_; conv => whnf)
          (refine rq_s (by (rfl)) ?_; conv => whnf)
          (refine rq_s (by ((simp only [decide_eq_true_eq, List.length_map, mkS_len, setRow_len]; done))) ?_; conv => whnf)
          (refine rq_s (by (rfl)) ?_; conv => whnf)
          (focus (apply callpe_s (f := 122); (· repeat' (first | (refine sub_all ?_; simp [List.length_map, mkS_len, setRow_len]; done) | exact sub_map _ _ _ _ | apply cons_eq | apply obj_eq | apply agg_eq | apply own_eq | apply ro_eq | apply rp_eq | apply fnc_eq | rfl)); refine callp_s (f := 122) rfl (c122 _ _ [61, (lastM ms).2] _ (by first | omega | (dsimp only; omega) | (simp; omega)) (by simp)) ?_; conv => whnf))
          iterate 3 (refine fac_s (fun hf => ?_); conv => whnf)
          (refine aftp_s (by rfl) ?_; conv => whnf)
          iterate 2 (refine rows_s (by ((refine sub_all ?_; simp [List.length_map, mkS_len, setRow_len]; done))) ?_; conv => whnf)
          (refine aftp_s (by rfl) ?_; conv => whnf)
          exact True.intro)
      | ( iterate 12 (refine br_f rfl ?_; conv => whnf)
          (refine br_t rfl ?_; conv => whnf)
          (refine rq_s (by (rfl)) ?_; conv => whnf)
          (refine lend_s ?_; conv => whnf)
          (refine call_s (w62 ..) ?_; conv => whnf)
          (refine handp_s 143 [some 3] ?_; conv => whnf)
          (refine rq_s (by (rfl)) ?_; conv => whnf)
          (focus (apply callpe_s (f := 143); (· repeat' (first | (refine sub_all ?_; simp [List.length_map, mkS_len, setRow_len]; done) | exact sub_map _ _ _ _ | apply cons_eq | apply obj_eq | apply agg_eq | apply own_eq | apply ro_eq | apply rp_eq | apply fnc_eq | rfl)); refine callp_s (f := 143) rfl (c143 _ _ _ (by first | omega | (dsimp only; omega) | (simp; omega)) (by first | omega | (dsimp only; omega) | (simp; omega))) ?_; conv => whnf))
          (refine rq_s (by (rfl)) ?_; conv => whnf)
          (refine handp_s 122 [some 3, none] ?_; conv => whnf)
          (refine rq_s (by (rfl)) ?_; conv => whnf)
          (refine rq_s (by ((simp only [decide_eq_true_eq, List.length_map, mkS_len, setRow_len]; done))) ?_; conv => whnf)
          (refine rq_s (by (rfl)) ?_; conv => whnf)
          (focus (apply callpe_s (f := 122); (· repeat' (first | (refine sub_all ?_; simp [List.length_map, mkS_len, setRow_len]; done) | exact sub_map _ _ _ _ | apply cons_eq | apply obj_eq | apply agg_eq | apply own_eq | apply ro_eq | apply rp_eq | apply fnc_eq | rfl)); refine callp_s (f := 122) rfl (c122 _ _ [62, (lastM ms).2] _ (by first | omega | (dsimp only; omega) | (simp; omega)) (by simp)) ?_; conv => whnf))
          iterate 3 (refine fac_s (fun hf => ?_); conv => whnf)
          (refine aftp_s (by rfl) ?_; conv => whnf)
          iterate 2 (refine rows_s (by ((refine sub_all ?_; simp [List.length_map, mkS_len, setRow_len]; done))) ?_; conv => whnf)
          (refine aftp_s (by rfl) ?_; conv => whnf)
          exact True.intro)
      | ( (refine br_f rfl ?_; conv => whnf)
          (refine br_t rfl ?_; conv => whnf)
          (refine rq_s (by (rfl)) ?_; conv => whnf)
          (refine handp_s 122 [some 3, none] ?_; conv => whnf)
          (refine rq_s (by (rfl)) ?_; conv => whnf)
          (refine rq_s (by ((simp only [decide_eq_true_eq, List.length_map, mkS_len, setRow_len]; done))) ?_; conv => whnf)
          (refine rq_s (by (rfl)) ?_; conv => whnf)
          (focus (apply callpe_s (f := 122); (· repeat' (first | (refine sub_all ?_; simp [List.length_map, mkS_len, setRow_len]; done) | exact sub_map _ _ _ _ | apply cons_eq | apply obj_eq | apply agg_eq | apply own_eq | apply ro_eq | apply rp_eq | apply fnc_eq | rfl)); refine callp_s (f := 122) rfl (c122 _ _ [self] _ (by first | omega | (dsimp only; omega) | (simp; omega)) (by simp)) ?_; conv => whnf))
          (refine aftp_s (by rfl) ?_; conv => whnf)
          iterate 2 (refine rows_s (by ((refine sub_all ?_; simp [List.length_map, mkS_len, setRow_len]; done))) ?_; conv => whnf)
          (refine aftp_s (by rfl) ?_; conv => whnf)
          exact True.intro))
end I10

/- The reference's compiler: contracts. -/
set_option linter.unusedVariables false
set_option linter.unusedSimpArgs false
set_option maxRecDepth 100000
open Go Go.Abs Go.Proofs V1 H1 I1 I2 I3 I4 I5 I6 I7 I8 I9 I10
namespace I11


structure LM where
  i : Nat
  c : List Int
  ms : List Mk
theorem c66 (xs : List Itm) (at' self : Int) (h60 : xs.length ≤ 60) (hx : itemsOK xs = true) (ho : openF xs = ([], -1)) (ha : 0 ≤ at' ∧ at' ≤ 400) (hs : 1 ≤ self ∧ self ≤ 103) :
    Con Try.prog 66 [roT xs, .int .i64 at', .int .i64 self] (undefs [roT xs, .int .i64 at', .int .i64 self]) (ownI (compF xs at' self)) := by
  refine Con.ev 33 T_ok mix Try.func66 rfl rfl rfl rfl [.tmp 6] rfl ?_
  conv => whnf
  iterate 2 (refine rq_s (by (rfl)) ?_; conv => whnf)
  rotate_left
  refine LoopG.bearM 11 1 101 zI rfl rfl rfl ?_
  refine LoopG.bearM 11 2 102 zM rfl rfl rfl ?_
  refine LoopG.auto (α := LM) T_ok mix [0, 2, 7, 8]
    (fun a => [(0, roT xs), (2, .int .i64 self), (7, .ptr 1 0 0), (8, .int .i64 a.i)])
    (fun a => [(1, .live ⟨false, 0, [.int .i64 at', .emp, .emp], [[.int .i64 at', .ref 2 0 a.c.length, .ref 3 0 a.ms.length]]⟩), (2, .live ⟨true, 0, zI, a.c.map intR⟩), (3, .live ⟨true, 0, zM, a.ms.map mkR⟩)])
    (fun a => ∃ st : List Op1, a.ms = st.map (·.2) ∧ CInv xs a.i a.c st ∧ compGo at' self (xs.drop a.i) a.c a.ms = compF xs at' self) (fun a => xs.length - a.i) ?_ ?_
  · conv => whnf
    (refine ChkS.mk (by kernel_rfl) ?_; conv => whnf)
    rotate_left
    exact head_s ⟨0, [], []⟩ ⟨[], rfl, CInv.zero ho, rfl⟩ rfl rfl
  · rintro ⟨i, c, ms⟩ ⟨st, hms, hI, hC⟩ _ _
    simp only at hms hI hC ⊢
    have hm8 : ms.length ≤ 8 := by
      have := hI.hk.2
      rw [hms]
      simpa using this
    have hcl := hI.hl
    have hin := hI.hi
    by_cases hi : i < xs.length
    · have hok : itemOK (xs.getD i default) = true := by
        have : xs.getD i default = xs[i] := by simp [hi]
        rw [this]
        exact List.all_eq_true.1 hx _ (List.getElem_mem hi)
      have hk := item_k hok
      have hn := hI.next hi hk at' self
      have hc := hC
      rw [compGo_next hi] at hc
      have hs2 := st_snd at' self (xs.getD i default) c st hk
      rw [← hms] at hn hs2
      obtain ⟨f4, f5, f7, f8, f9, f11⟩ := fit_last (hI.fit hi)
      have P1 : (xs.getD i default).k = 4 ∨ (xs.getD i default).k = 5 ∨ (xs.getD i default).k = 7 ∨ (xs.getD i default).k = 8 ∨ (xs.getD i default).k = 9 ∨ (xs.getD i default).k = 11 ∨ (xs.getD i default).k = 12 → 1 ≤ ms.length := fun e => by
        have T := (top_of (st := st) 0 (by omega)).ne
        rw [hms, List.length_map]
        omega
      have P2 : (xs.getD i default).k = 4 ∨ (xs.getD i default).k = 5 ∨ (xs.getD i default).k = 9 → 0 ≤ (lastM ms).1 ∧ (lastM ms).1 < c.length := fun e => by
        have T := top_of (st := st) 0 (by omega)
        have := T.k
        rw [hms, lastM_map]
        exact hI.hh _ T.mem (by omega)
      generalize hxe : xs.getD i default = x at *
      obtain ⟨k, v⟩ := x
      have hrow : ∀ z, rowA (xs.map itR) i z = itR ⟨k, v⟩ := fun z => (row_map itR xs i z default hi).trans (congrArg itR hxe)
      have hlt : decide ((i : Int) < ((xs.map itR).length : Int)) = true := by simp; omega
      conv => whnf
      (refine br_t (by assumption) ?_; conv => whnf)
      (refine rq_s (by (rfl)) ?_; conv => whnf)
      (refine rq_s (by ((refine and_s rfl ?_; simp only [decide_eq_true_eq, List.length_map]; omega))) ?_; conv => whnf)
      (refine row_s (by (exact hrow _)) ?_; conv => whnf)
      (refine handp_s 121 [some 3, none, none] ?_; conv => whnf)
      iterate 4 (refine rq_s (by (rfl)) ?_; conv => whnf)
      (focus (apply callpe_s (f := 121); (· repeat' (first | (refine sub_all ?_; simp [List.length_map, mkS_len, setRow_len]; done) | exact sub_map _ _ _ _ | apply cons_eq | apply obj_eq | apply agg_eq | apply own_eq | apply ro_eq | apply rp_eq | apply fnc_eq | rfl)); refine callp_s (f := 121) rfl (item at' self ⟨k, v⟩ c ms hk (by first | omega | (dsimp only; omega) | (simp; omega)) (by first | omega | (dsimp only; omega) | (simp; omega)) (by first | omega | (dsimp only; omega) | (simp; omega)) (by first | omega | (dsimp only; omega) | (simp; omega)) P1 P2 ..) ?_; conv => whnf))
      (refine ChkS.mk (by kernel_rfl) ?_; conv => whnf)
      rotate_left
      exact head_s (LM.mk (i + 1) _ _) ⟨⟨_, hs2, hn, hc⟩, by simp only; omega⟩ (by rw [wrap64 (by omega) (by omega)]; rfl) (by simp only [List.length_map])
    · have hlt : decide ((i : Int) < ((xs.map itR).length : Int)) = false := by simp; omega
      obtain rfl : i = xs.length := by omega
      rw [List.drop_length] at hC
      conv => whnf
      (focus (refine br_f (by (simp; done)) ?_; conv => whnf))
      (refine rq_s (by (rfl)) ?_; conv => whnf)
      (refine lend_s ?_; conv => whnf)
      (refine call_s (w53 ..) ?_; conv => whnf)
      (refine rq_s (by (rfl)) ?_; conv => whnf)
      (refine handp_s 122 [some 3, none] ?_; conv => whnf)
      (refine rq_s (by (rfl)) ?_; conv => whnf)
      (refine rq_s (by ((simp only [decide_eq_true_eq, List.length_map, mkS_len, setRow_len]; done))) ?_; conv => whnf)
      (refine rq_s (by (rfl)) ?_; conv => whnf)
      (focus (apply callpe_s (f := 122); (· repeat' (first | (refine sub_all ?_; simp [List.length_map, mkS_len, setRow_len]; done) | exact sub_map _ _ _ _ | apply cons_eq | apply obj_eq | apply agg_eq | apply own_eq | apply ro_eq | apply rp_eq | apply fnc_eq | rfl)); refine callp_s (f := 122) rfl (c122 _ _ [53] _ (by first | omega | (dsimp only; omega) | (simp; omega)) (by simp)) ?_; conv => whnf))
      (refine fac_s (fun hf => ?_); conv => whnf)
      (refine rq_s (by (rfl)) ?_; conv => whnf)
      (refine rq_s (by ((simp only [decide_eq_true_eq, List.length_map, mkS_len, setRow_len]; done))) ?_; conv => whnf)
      (refine rq_s (by (rfl)) ?_; conv => whnf)
      (refine rows_s (by ((refine sub_all ?_; simp [List.length_map, mkS_len, setRow_len]; done))) ?_; conv => whnf)
      rotate_left
      exact ⟨by rw [← hC]; exact Sh.refl _⟩

theorem c17 (xs : List Itm) (a s : Int) : Con Try.prog 17 [roT xs, .int .i64 a, .int .i64 s] (undefs [roT xs, .int .i64 a, .int .i64 s]) (ciV (ciF xs a s)) := by
  have ha := c63 xs
  have hc := c64 xs
  generalize hq : (chkF xs).1 = q at hc
  by_cases h0 : askF xs = 0
  · have hl := askF_0 h0
    have hz := szF_le xs
    have hw : inR a 0 400 = true → IntKind.i64.wrap (a + sizeF xs) = a + sizeF xs := fun e => by
      have := inR_t e
      have := hl.1
      exact wrap64 (by unfold sizeF; omega) (by unfold sizeF; omega)
    rw [h0] at ha
    have hn : decide ((xs.length : Int) > 4096) = false := by simp; omega
    refine Con.ev 49 T_ok mix Try.func17 rfl rfl rfl rfl [.tmp 6, .tmp 7] rfl ?_
    conv => whnf
    (refine br_s (fun hb => ?_) (fun hb => ?_) <;> (try simp only [beq_iff_eq, bne_iff_ne, ne_eq, decide_eq_true_eq, decide_eq_false_iff_not, Int.not_lt, Int.not_le, Bool.false_eq_true, if_false, if_true, beq_eq_false_iff_ne, bne_eq_false_iff_eq, Bool.not_eq_true', Bool.not_eq_false', Int.ofNat_lt, Int.ofNat_le, Int.ofNat_inj, List.length_map, List.length_nil, List.length_cons] at hb) <;> conv => whnf)
    iterate 3 (refine rq_s (by (rfl)) ?_; conv => whnf)
    rotate_left
    (refine rq_s (by (rfl)) ?_; conv => whnf)
    (refine lend_s ?_; conv => whnf)
    (refine rows_s (by (rfl)) ?_; conv => whnf)
    (refine call_s (ha ..) ?_; conv => whnf)
    (refine fac_s (fun hf => ?_); conv => whnf)
    (refine br_f rfl ?_; conv => whnf)
    (refine rq_s (by (rfl)) ?_; conv => whnf)
    (refine lend_s ?_; conv => whnf)
    (refine rows_s (by (rfl)) ?_; conv => whnf)
    (refine call_s (hc ..) ?_; conv => whnf)
    iterate 2 (refine fac_s (fun hf => ?_); conv => whnf)
    (refine br_s (fun hb => ?_) (fun hb => ?_) <;> (try simp only [beq_iff_eq, bne_iff_ne, ne_eq, decide_eq_true_eq, decide_eq_false_iff_not, Int.not_lt, Int.not_le, Bool.false_eq_true, if_false, if_true, beq_eq_false_iff_ne, bne_eq_false_iff_eq, Bool.not_eq_true', Bool.not_eq_false', Int.ofNat_lt, Int.ofNat_le, Int.ofNat_inj, List.length_map, List.length_nil, List.length_cons] at hb) <;> conv => whnf)
    iterate 3 (refine rq_s (by (rfl)) ?_; conv => whnf)
    rotate_left
    iterate 3 (refine rq_s (by (rfl)) ?_; conv => whnf)
    (refine lend_s ?_; conv => whnf)
    (refine call_s (c54 ..) ?_; conv => whnf)
    (refine br_s (fun hb => ?_) (fun hb => ?_) <;> (try simp only [beq_iff_eq, bne_iff_ne, ne_eq, decide_eq_true_eq, decide_eq_false_iff_not, Int.not_lt, Int.not_le, Bool.false_eq_true, if_false, if_true, beq_eq_false_iff_ne, bne_eq_false_iff_eq, Bool.not_eq_true', Bool.not_eq_false', Int.ofNat_lt, Int.ofNat_le, Int.ofNat_inj, List.length_map, List.length_nil, List.length_cons] at hb) <;> conv => whnf)
    iterate 4 (refine br_t rfl ?_; conv => whnf)
    iterate 3 (refine rq_s (by (rfl)) ?_; conv => whnf)
    rotate_left
    (refine br_f rfl ?_; conv => whnf)
    iterate 3 (refine rq_s (by (rfl)) ?_; conv => whnf)
    (refine lend_s ?_; conv => whnf)
    (refine call_s (c54 ..) ?_; conv => whnf)
    (refine br_f rfl ?_; conv => whnf)
    (refine br_s (fun hb => ?_) (fun hb => ?_) <;> (try simp only [beq_iff_eq, bne_iff_ne, ne_eq, decide_eq_true_eq, decide_eq_false_iff_not, Int.not_lt, Int.not_le, Bool.false_eq_true, if_false, if_true, beq_eq_false_iff_ne, bne_eq_false_iff_eq, Bool.not_eq_true', Bool.not_eq_false', Int.ofNat_lt, Int.ofNat_le, Int.ofNat_inj, List.length_map, List.length_nil, List.length_cons] at hb) <;> conv => whnf)
    iterate 3 (refine rq_s (by (rfl)) ?_; conv => whnf)
    rotate_left
    (refine rq_s (by (rfl)) ?_; conv => whnf)
    (refine lend_s ?_; conv => whnf)
    (refine rows_s (by (rfl)) ?_; conv => whnf)
    (refine call_s (c65 _ (by first | omega | (dsimp only; omega) | (simp; omega))) ?_; conv => whnf)
    (refine fac_s (fun hf => ?_); conv => whnf)
    (refine br_s (fun hb => ?_) (fun hb => ?_) <;> (try simp only [beq_iff_eq, bne_iff_ne, ne_eq, decide_eq_true_eq, decide_eq_false_iff_not, Int.not_lt, Int.not_le, Bool.false_eq_true, if_false, if_true, beq_eq_false_iff_ne, bne_eq_false_iff_eq, Bool.not_eq_true', Bool.not_eq_false', Int.ofNat_lt, Int.ofNat_le, Int.ofNat_inj, List.length_map, List.length_nil, List.length_cons] at hb) <;> conv => whnf)
    iterate 3 (refine rq_s (by (rfl)) ?_; conv => whnf)
    rotate_left
    iterate 3 (refine rq_s (by (rfl)) ?_; conv => whnf)
    (refine lend_s ?_; conv => whnf)
    (refine rows_s (by (rfl)) ?_; conv => whnf)
    (refine call_s (c66 _ _ _ hl.1 hl.2 (open_of (by assumption)) (inR_t (by assumption)) (inR_t (by assumption))) ?_; conv => whnf)
    (refine fac_s (fun hf => ?_); conv => whnf)
    (refine rq_s (by ((simp only [decide_eq_true_eq, List.length_map, mkS_len, setRow_len]; done))) ?_; conv => whnf)
    iterate 2 (refine rq_s (by (rfl)) ?_; conv => whnf)
    (refine rows_s (by ((refine sub_all ?_; simp [List.length_map, mkS_len, setRow_len]; done))) ?_; conv => whnf)
    rotate_left
    all_goals first
      | (exfalso; omega)
      | exact ⟨by rw [ci_chk h0 (by assumption)]; exact ci_sh _⟩
      | exact ⟨by rw [ci_r h0 (by assumption) (.inl (by assumption))]; exact ci_sh _⟩
      | exact ⟨by rw [ci_r h0 (by assumption) (.inr (by assumption))]; exact ci_sh _⟩
      | exact ⟨by rw [ci_f h0 (by assumption) (by assumption) (by assumption) (by rw [hw (by assumption)] at hb; exact hb)]; exact ci_sh _⟩
      | exact ⟨by rw [ci_0 h0 (by assumption) (by assumption) (by assumption) (by rw [hw (by assumption)] at hb; omega)]; exact Sh.refl _⟩
  · refine Con.ev 49 T_ok mix Try.func17 rfl rfl rfl rfl [.tmp 6, .tmp 7] rfl ?_
    conv => whnf
    (refine br_s (fun hb => ?_) (fun hb => ?_) <;> (try simp only [beq_iff_eq, bne_iff_ne, ne_eq, decide_eq_true_eq, decide_eq_false_iff_not, Int.not_lt, Int.not_le, Bool.false_eq_true, if_false, if_true, beq_eq_false_iff_ne, bne_eq_false_iff_eq, Bool.not_eq_true', Bool.not_eq_false', Int.ofNat_lt, Int.ofNat_le, Int.ofNat_inj, List.length_map, List.length_nil, List.length_cons] at hb) <;> conv => whnf)
    iterate 3 (refine rq_s (by (rfl)) ?_; conv => whnf)
    rotate_left
    (refine rq_s (by (rfl)) ?_; conv => whnf)
    (refine lend_s ?_; conv => whnf)
    (refine rows_s (by (rfl)) ?_; conv => whnf)
    (refine call_s (ha ..) ?_; conv => whnf)
    (refine fac_s (fun hf => ?_); conv => whnf)
    (refine br_s (fun hb => ?_) (fun hb => ?_) <;> (try simp only [beq_iff_eq, bne_iff_ne, ne_eq, decide_eq_true_eq, decide_eq_false_iff_not, Int.not_lt, Int.not_le, Bool.false_eq_true, if_false, if_true, beq_eq_false_iff_ne, bne_eq_false_iff_eq, Bool.not_eq_true', Bool.not_eq_false', Int.ofNat_lt, Int.ofNat_le, Int.ofNat_inj, List.length_map, List.length_nil, List.length_cons] at hb) <;> conv => whnf)
    iterate 3 (refine rq_s (by (rfl)) ?_; conv => whnf)
    rotate_left
    (refine rq_s (by (rfl)) ?_; conv => whnf)
    (refine lend_s ?_; conv => whnf)
    (refine rows_s (by (rfl)) ?_; conv => whnf)
    rotate_left
    · exact ⟨by rw [ci_ask h0]; unfold askF; rw [if_pos (by omega)]; exact ci_sh _⟩
    · exact ⟨by rw [ci_ask h0]; exact ci_sh _⟩
    · exact absurd hb h0
end I11
