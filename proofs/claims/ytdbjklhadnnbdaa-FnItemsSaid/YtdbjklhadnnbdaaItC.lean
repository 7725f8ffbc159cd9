import Derived.Test.YtdbjklhadnnbdaaItB
import Derived.Test.YtdbjklhadnnbdaaAbsh
/- Code of items, by the program: the loop; contracts. -/
set_option linter.unusedVariables false
set_option linter.unusedSimpArgs false
set_option maxRecDepth 100000
open Go Go.Abs Go.Proofs V1 H1 I1 I2 I3 I4 I5
namespace I6




structure LS where
  i : Nat
  c : List Int
  st : List Op1
theorem c70 (xs : List Itm) (at' self : Int) (h60 : xs.length ≤ 60) (hx : itemsOK xs = true) (ho : openF xs = ([], -1)) (ha : 0 ≤ at' ∧ at' ≤ 400) (hs : 1 ≤ self ∧ self ≤ 103) :
    Con Try.prog 70 [roT xs, .int .i64 at', .int .i64 self] (undefs [roT xs, .int .i64 at', .int .i64 self]) (ownI (compF xs at' self)) := by
  refine Con.ev 126 T_ok mix Try.func70 rfl rfl rfl rfl [.tmp 6] rfl ?_
  conv => whnf
  iterate 3 (refine rq_s (by (rfl)) ?_; conv => whnf)
  rotate_left
  refine LoopG.bearM 7 0 101 zI rfl rfl rfl ?_
  refine LoopG.bearM 8 0 102 zI rfl rfl rfl ?_
  refine LoopG.auto (α := LS) T_ok mix [2, 4, 7, 8, 9, 10, 18, 19, 20]
    (fun a => [(2, .int .i64 self), (4, .ptr 1 0 0), (7, .ptr 2 0 0), (8, .ptr 4 0 0), (9, .fn 125 [.ptr 4 0 0]), (10, .fn 126 [.ptr 1 0 0, .ptr 2 0 0]), (18, roT xs), (19, .int .i64 xs.length), (20, .int .i64 a.i)])
    (fun a => [(1, .live ⟨false, 0, [.int .i64 at'], [[.int .i64 at']]⟩), (2, .live ⟨false, 0, [.emp], [[.ref 3 0 a.c.length]]⟩), (3, .live ⟨true, 0, zI, a.c.map intR⟩), (4, .live ⟨false, 0, [.emp], [[.ref 5 0 (flat a.st).length]]⟩), (5, .live ⟨true, 0, zI, (flat a.st).map intR⟩)])
    (fun a => CInv xs a.i a.c a.st ∧ compGo at' self (xs.drop a.i) a.c (a.st.map (·.2)) = compF xs at' self) (fun a => xs.length - a.i) ?_ ?_
  · conv => whnf
    (refine ChkS.mk (by kernel_rfl) ?_; conv => whnf)
    rotate_left
    exact head_s ⟨0, [], []⟩ ⟨CInv.zero ho, rfl⟩ (by simp [roT]) rfl
  · rintro ⟨i, c, st⟩ ⟨hI, hC⟩ _ _
    simp only at hI hC ⊢
    have h16 := hI.fl16
    have hcl := hI.hl
    have hin := hI.hi
    by_cases hi : i < xs.length
    · have hok : itemOK (xs.getD i default) = true := by
        have : xs.getD i default = xs[i] := by simp [hi]
        rw [this]
        exact List.all_eq_true.1 hx _ (List.getElem_mem hi)
      have hk := item_k hok
      have hv := item_v hok
      have hn := hI.next hi hk at' self
      have hc := hC
      rw [compGo_next hi, st_snd at' self _ c st hk] at hc
      obtain ⟨f4, f5, f7, f8, f9, f11⟩ := fit_last (hI.fit hi)
      have P3 : (xs.getD i default).k = 4 ∨ (xs.getD i default).k = 5 → _ := fun e => hI.pop3 (by omega)
      have P6 : (xs.getD i default).k = 7 ∨ (xs.getD i default).k = 8 ∨ (xs.getD i default).k = 11 ∨ (xs.getD i default).k = 12 → _ := fun e => hI.pop6 (by omega)
      have P8 : (xs.getD i default).k = 9 → _ := fun e => hI.pop8 (by omega)
      have wc : IntKind.i64.wrap ((c.length : Int) + 2 - 1) = c.length + 1 := (wrap64 (by omega) (by omega)).trans (by omega)
      have wd : ∀ a b : Int, IntKind.i64.wrap (((c ++ [a, b]).length : Int) - 1) = c.length + 1 := fun a b => (wrap64 (by simp; omega) (by simp; omega)).trans (by simp; omega)
      have wt : ((c.length : Int) + 1).toNat = c.length + 1 := by omega
      generalize hxe : xs.getD i default = x at *
      obtain ⟨k, v⟩ := x
      simp only at hk hv hn hc P3 P6 P8 f4 f5 f7 f8 f9 f11
      have hrow : ∀ z, rowA (xs.map itR) i z = itR ⟨k, v⟩ := fun z => (row_map itR xs i z default hi).trans (congrArg itR hxe)
      have hlt : decide ((i : Int) < (xs.length : Int)) = true := by simp; omega
      have : k = 1 ∨ k = 2 ∨ k = 3 ∨ k = 4 ∨ k = 5 ∨ k = 6 ∨ k = 7 ∨ k = 8 ∨ k = 9 ∨ k = 10 ∨ k = 11 ∨ k = 12 ∨ k = 13 := by omega
      rcases this with rfl | rfl | rfl | rfl | rfl | rfl | rfl | rfl | rfl | rfl | rfl | rfl | rfl
      all_goals first | have P := P3 (by omega) | have P := P6 (by omega) | have P := P8 (by omega) | skip
      all_goals (
        conv => whnf
        (refine br_t (by assumption) ?_; conv => whnf)
        (refine rq_s (by (rfl)) ?_; conv => whnf)
        (refine rq_s (by ((refine and_s rfl ?_; simp only [decide_eq_true_eq, List.length_map]; omega))) ?_; conv => whnf)
        (refine row_s (by (exact hrow _)) ?_; conv => whnf)
        (refine rq_s (by (rfl)) ?_; conv => whnf)
        first
          | ( (refine br_t rfl ?_; conv => whnf)
              iterate 2 (refine rq_s (by (rfl)) ?_; conv => whnf)
              (refine rq_s (by ((simp only [decide_eq_true_eq, List.length_map, mkS_len, setRow_len]; done))) ?_; conv => whnf)
              iterate 2 (refine rq_s (by (rfl)) ?_; conv => whnf)
              (refine rq_s (by ((simp only [decide_eq_true_eq, List.length_map, mkS_len, setRow_len]; done))) ?_; conv => whnf)
              (refine rq_s (by (((first | (simp [maxBytes, subA]; done) | (simp [maxBytes, subA]; omega) | (simp only [List.length_append, List.length_cons, List.length_nil, decide_eq_true_eq, List.length_map, Bool.and_eq_true]; rw [wrap64 (by omega) (by omega)]; first | done | omega | (refine ⟨by rfl, ?_⟩; omega)))))) ?_; conv => whnf)
              (refine appf_s intR rfl ?_; conv => whnf)
              (refine ChkS.mk (by kernel_rfl) ?_; conv => whnf)
              rotate_left)
          | ( iterate 5 (refine br_f rfl ?_; conv => whnf)
              iterate 3 (refine ChkS.mk (by kernel_rfl) ?_; conv => whnf)
              iterate 2 (refine rq_s (by (rfl)) ?_; conv => whnf)
              (refine call_s (c127 ..) ?_; conv => whnf)
              (refine ChkS.mk (by kernel_rfl) ?_; conv => whnf)
              (refine rq_s (by (rfl)) ?_; conv => whnf)
              (refine ChkS.mk (by kernel_rfl) ?_; conv => whnf)
              (refine rq_s (by ((simp only [decide_eq_true_eq, List.length_map, mkS_len, setRow_len]; done))) ?_; conv => whnf)
              iterate 2 (refine rq_s (by (rfl)) ?_; conv => whnf)
              (refine rq_s (by ((simp only [decide_eq_true_eq, List.length_map, mkS_len, setRow_len]; done))) ?_; conv => whnf)
              (refine rq_s (by (((first | (simp [maxBytes, subA]; done) | (simp [maxBytes, subA]; omega) | (simp only [List.length_append, List.length_cons, List.length_nil, decide_eq_true_eq, List.length_map, Bool.and_eq_true]; rw [wrap64 (by omega) (by omega)]; first | done | omega | (refine ⟨by rfl, ?_⟩; omega)))))) ?_; conv => whnf)
              (refine app2_s intR rfl rfl ?_; conv => whnf)
              iterate 2 (refine ChkS.mk (by kernel_rfl) ?_; conv => whnf)
              (refine fac_s (fun hf => ?_); conv => whnf)
              (refine rq_s (by (rfl)) ?_; conv => whnf)
              first
                | ( (refine br_t rfl ?_; conv => whnf)
                    (refine rq_s (by (rfl)) ?_; conv => whnf)
                    (refine rq_s (by ((simp; omega))) ?_; conv => whnf)
                    (refine rq_s (by ((simp only [decide_eq_true_eq, List.length_map, mkS_len, setRow_len]; done))) ?_; conv => whnf)
                    (refine rq_s (by ((simp; omega))) ?_; conv => whnf)
                    (refine rows_s (by ((rw [wd, setRow_int _ _ _ _ (by simp)]))) ?_; conv => whnf)
                    (refine ChkS.mk (by kernel_rfl) ?_; conv => whnf)
                    rotate_left)
                | ( (refine br_f rfl ?_; conv => whnf)
                    iterate 2 (refine br_t rfl ?_; conv => whnf)
                    (refine rq_s (by (rfl)) ?_; conv => whnf)
                    (refine rq_s (by ((simp only [decide_eq_true_eq, List.length_map, mkS_len, setRow_len]; done))) ?_; conv => whnf)
                    iterate 2 (refine rq_s (by (rfl)) ?_; conv => whnf)
                    (refine rq_s (by ((simp only [decide_eq_true_eq, List.length_map, mkS_len, setRow_len]; done))) ?_; conv => whnf)
                    (refine rq_s (by (((first | (simp [maxBytes, subA]; done) | (simp [maxBytes, subA]; omega) | (simp only [List.length_append, List.length_cons, List.length_nil, decide_eq_true_eq, List.length_map, Bool.and_eq_true]; rw [wrap64 (by omega) (by omega)]; first | done | omega | (refine ⟨by rfl, ?_⟩; omega)))))) ?_; conv => whnf)
                    (refine appf_s intR rfl ?_; conv => whnf)
                    (refine ChkS.mk (by kernel_rfl) ?_; conv => whnf)
                    rotate_left)
                | ( iterate 3 (refine br_f rfl ?_; conv => whnf)
                    (refine br_t rfl ?_; conv => whnf)
                    iterate 3 (refine ChkS.mk (by kernel_rfl) ?_; conv => whnf)
                    (refine handp_s 125 [some 1] ?_; conv => whnf)
                    (refine rq_s (by (rfl)) ?_; conv => whnf)
                    (focus (apply callpe_s (f := 125); (· repeat' (first | (refine sub_all ?_; simp [List.length_map, mkS_len, setRow_len]; done) | exact sub_map _ _ _ _ | apply cons_eq | apply obj_eq | apply agg_eq | apply own_eq | apply ro_eq | apply rp_eq | apply fnc_eq | rfl)); refine callp_s (f := 125) rfl (c125 _ (by first | omega | (dsimp only; omega) | (simp; omega)) (by first | omega | (dsimp only; omega) | (simp; omega))) ?_; conv => whnf))
                    iterate 2 (refine ChkS.mk (by kernel_rfl) ?_; conv => whnf)
                    (refine handp_s 126 [none, none] ?_; conv => whnf)
                    iterate 3 (refine rq_s (by (rfl)) ?_; conv => whnf)
                    (refine rq_s (by ((simp only [decide_eq_true_eq, List.length_map, mkS_len, setRow_len]; done))) ?_; conv => whnf)
                    (refine rq_s (by (rfl)) ?_; conv => whnf)
                    (focus (apply callpe_s (f := 126); (· repeat' (first | (refine sub_all ?_; simp [List.length_map, mkS_len, setRow_len]; done) | exact sub_map _ _ _ _ | apply cons_eq | apply obj_eq | apply agg_eq | apply own_eq | apply ro_eq | apply rp_eq | apply fnc_eq | rfl)); refine callp_s (f := 126) rfl (c126 _ _ (by first | omega | (dsimp only; omega) | (simp; omega)) (by first | omega | (dsimp only; omega) | (simp; omega)) (by first | omega | (dsimp only; omega) | (simp; omega))) ?_; conv => whnf))
                    (refine ChkS.mk (by kernel_rfl) ?_; conv => whnf)
                    (refine rq_s (by ((simp only [Bool.and_eq_true, decide_eq_true_eq, List.length_map]; omega))) ?_; conv => whnf)
                    (refine rq_s (by ((simp only [decide_eq_true_eq, List.length_map, mkS_len, setRow_len]; done))) ?_; conv => whnf)
                    (refine rq_s (by ((simp; omega))) ?_; conv => whnf)
                    (refine ChkS.mk (by kernel_rfl) ?_; conv => whnf)
                    (refine rows_s (by ((rw [setRow_int _ _ _ _ (by first | omega | (simp only [List.length_append, List.length_cons, List.length_nil, Nat.zero_add, Int.natCast_add, Int.cast_ofNat_Int]; omega))]))) ?_; conv => whnf)
                    (refine ChkS.mk (by kernel_rfl) ?_; conv => whnf)
                    iterate 2 (refine fac_s (fun hf => ?_); conv => whnf)
                    (refine rq_s (by (rfl)) ?_; conv => whnf)
                    (refine rq_s (by ((simp only [decide_eq_true_eq, List.length_map, mkS_len, setRow_len]; done))) ?_; conv => whnf)
                    iterate 2 (refine rq_s (by (rfl)) ?_; conv => whnf)
                    (refine rq_s (by ((simp only [decide_eq_true_eq, List.length_map, mkS_len, setRow_len]; done))) ?_; conv => whnf)
                    (refine rq_s (by (((first | (simp [maxBytes, subA]; done) | (simp [maxBytes, subA]; omega) | (simp only [List.length_append, List.length_cons, List.length_nil, decide_eq_true_eq, List.length_map, Bool.and_eq_true]; rw [wrap64 (by omega) (by omega)]; first | done | omega | (refine ⟨by rfl, ?_⟩; omega)))))) ?_; conv => whnf)
                    (refine app0_s ?_; conv => whnf)
                    (refine ChkS.mk (by kernel_rfl) ?_; conv => whnf)
                    rotate_left)
                | ( iterate 4 (refine br_f rfl ?_; conv => whnf)
                    iterate 2 (refine br_t rfl ?_; conv => whnf)
                    iterate 4 (refine ChkS.mk (by kernel_rfl) ?_; conv => whnf)
                    (refine handp_s 125 [some 1] ?_; conv => whnf)
                    (refine rq_s (by (rfl)) ?_; conv => whnf)
                    (focus (apply callpe_s (f := 125); (· repeat' (first | (refine sub_all ?_; simp [List.length_map, mkS_len, setRow_len]; done) | exact sub_map _ _ _ _ | apply cons_eq | apply obj_eq | apply agg_eq | apply own_eq | apply ro_eq | apply rp_eq | apply fnc_eq | rfl)); refine callp_s (f := 125) rfl (c125 _ (by first | omega | (dsimp only; omega) | (simp; omega)) (by first | omega | (dsimp only; omega) | (simp; omega))) ?_; conv => whnf))
                    (refine ChkS.mk (by kernel_rfl) ?_; conv => whnf)
                    (refine rq_s (by ((simp; omega))) ?_; conv => whnf)
                    (refine rq_s (by ((simp only [decide_eq_true_eq, List.length_map, mkS_len, setRow_len]; done))) ?_; conv => whnf)
                    (refine rq_s (by ((simp; omega))) ?_; conv => whnf)
                    (refine ChkS.mk (by kernel_rfl) ?_; conv => whnf)
                    (refine rows_s (by ((rw [wd, setRow_int _ _ _ _ (by simp)]))) ?_; conv => whnf)
                    (refine ChkS.mk (by kernel_rfl) ?_; conv => whnf)
                    (refine fac_s (fun hf => ?_); conv => whnf)
                    (refine ChkS.mk (by kernel_rfl) ?_; conv => whnf)
                    rotate_left)
                | ( iterate 2 (refine br_f rfl ?_; conv => whnf)
                    (refine br_t rfl ?_; conv => whnf)
                    (refine rq_s (by (rfl)) ?_; conv => whnf)
                    (refine rq_s (by ((simp only [decide_eq_true_eq, List.length_map, mkS_len, setRow_len]; done))) ?_; conv => whnf)
                    iterate 2 (refine rq_s (by (rfl)) ?_; conv => whnf)
                    (refine rq_s (by ((simp only [decide_eq_true_eq, List.length_map, mkS_len, setRow_len]; done))) ?_; conv => whnf)
                    (refine rq_s (by (((first | (simp [maxBytes, subA]; done) | (simp [maxBytes, subA]; omega) | (simp only [List.length_append, List.length_cons, List.length_nil, decide_eq_true_eq, List.length_map, Bool.and_eq_true]; rw [wrap64 (by omega) (by omega)]; first | done | omega | (refine ⟨by rfl, ?_⟩; omega)))))) ?_; conv => whnf)
                    (refine appf_s intR rfl ?_; conv => whnf)
                    (refine ChkS.mk (by kernel_rfl) ?_; conv => whnf)
                    rotate_left)
                | ( iterate 7 (refine br_f rfl ?_; conv => whnf)
                    (refine br_t rfl ?_; conv => whnf)
                    iterate 3 (refine ChkS.mk (by kernel_rfl) ?_; conv => whnf)
                    (refine handp_s 125 [some 1] ?_; conv => whnf)
                    (refine rq_s (by (rfl)) ?_; conv => whnf)
                    (focus (apply callpe_s (f := 125); (· repeat' (first | (refine sub_all ?_; simp [List.length_map, mkS_len, setRow_len]; done) | exact sub_map _ _ _ _ | apply cons_eq | apply obj_eq | apply agg_eq | apply own_eq | apply ro_eq | apply rp_eq | apply fnc_eq | rfl)); refine callp_s (f := 125) rfl (c125 _ (by first | omega | (dsimp only; omega) | (simp; omega)) (by first | omega | (dsimp only; omega) | (simp; omega))) ?_; conv => whnf))
                    iterate 2 (refine ChkS.mk (by kernel_rfl) ?_; conv => whnf)
                    (refine handp_s 126 [none, none] ?_; conv => whnf)
                    iterate 3 (refine rq_s (by (rfl)) ?_; conv => whnf)
                    (refine rq_s (by ((simp only [decide_eq_true_eq, List.length_map, mkS_len, setRow_len]; done))) ?_; conv => whnf)
                    (refine rq_s (by (rfl)) ?_; conv => whnf)
                    (focus (apply callpe_s (f := 126); (· repeat' (first | (refine sub_all ?_; simp [List.length_map, mkS_len, setRow_len]; done) | exact sub_map _ _ _ _ | apply cons_eq | apply obj_eq | apply agg_eq | apply own_eq | apply ro_eq | apply rp_eq | apply fnc_eq | rfl)); refine callp_s (f := 126) rfl (c126 _ _ (by first | omega | (dsimp only; omega) | (simp; omega)) (by first | omega | (dsimp only; omega) | (simp; omega)) (by first | omega | (dsimp only; omega) | (simp; omega))) ?_; conv => whnf))
                    (refine ChkS.mk (by kernel_rfl) ?_; conv => whnf)
                    (refine rq_s (by ((simp only [Bool.and_eq_true, decide_eq_true_eq, List.length_map]; omega))) ?_; conv => whnf)
                    (refine rq_s (by ((simp only [decide_eq_true_eq, List.length_map, mkS_len, setRow_len]; done))) ?_; conv => whnf)
                    (refine rq_s (by ((simp; omega))) ?_; conv => whnf)
                    (refine ChkS.mk (by kernel_rfl) ?_; conv => whnf)
                    (refine rows_s (by ((rw [setRow_int _ _ _ _ (by first | omega | (simp only [List.length_append, List.length_cons, List.length_nil, Nat.zero_add, Int.natCast_add, Int.cast_ofNat_Int]; omega))]))) ?_; conv => whnf)
                    (refine ChkS.mk (by kernel_rfl) ?_; conv => whnf)
                    iterate 2 (refine fac_s (fun hf => ?_); conv => whnf)
                    iterate 4 (refine ChkS.mk (by kernel_rfl) ?_; conv => whnf)
                    (refine handp_s 125 [some 1] ?_; conv => whnf)
                    (refine rq_s (by (rfl)) ?_; conv => whnf)
                    (focus (apply callpe_s (f := 125); (· repeat' (first | (refine sub_all ?_; simp [List.length_map, mkS_len, setRow_len]; done) | exact sub_map _ _ _ _ | apply cons_eq | apply obj_eq | apply agg_eq | apply own_eq | apply ro_eq | apply rp_eq | apply fnc_eq | rfl)); refine callp_s (f := 125) rfl (c125 _ (by first | omega | (dsimp only; omega) | (simp; omega)) (by first | omega | (dsimp only; omega) | (simp; omega))) ?_; conv => whnf))
                    (refine ChkS.mk (by kernel_rfl) ?_; conv => whnf)
                    (refine rq_s (by ((simp; omega))) ?_; conv => whnf)
                    (refine rq_s (by ((simp only [decide_eq_true_eq, List.length_map, mkS_len, setRow_len]; done))) ?_; conv => whnf)
                    (refine rq_s (by ((simp; omega))) ?_; conv => whnf)
                    (refine ChkS.mk (by kernel_rfl) ?_; conv => whnf)
                    (refine rows_s (by ((rw [wd, setRow_int _ _ _ _ (by simp)]))) ?_; conv => whnf)
                    (refine ChkS.mk (by kernel_rfl) ?_; conv => whnf)
                    (refine fac_s (fun hf => ?_); conv => whnf)
                    (refine ChkS.mk (by kernel_rfl) ?_; conv => whnf)
                    rotate_left)
                | ( iterate 5 (refine br_f rfl ?_; conv => whnf)
                    iterate 2 (refine br_t rfl ?_; conv => whnf)
                    iterate 4 (refine ChkS.mk (by kernel_rfl) ?_; conv => whnf)
                    (refine handp_s 125 [some 1] ?_; conv => whnf)
                    (refine rq_s (by (rfl)) ?_; conv => whnf)
                    (focus (apply callpe_s (f := 125); (· repeat' (first | (refine sub_all ?_; simp [List.length_map, mkS_len, setRow_len]; done) | exact sub_map _ _ _ _ | apply cons_eq | apply obj_eq | apply agg_eq | apply own_eq | apply ro_eq | apply rp_eq | apply fnc_eq | rfl)); refine callp_s (f := 125) rfl (c125 _ (by first | omega | (dsimp only; omega) | (simp; omega)) (by first | omega | (dsimp only; omega) | (simp; omega))) ?_; conv => whnf))
                    (refine ChkS.mk (by kernel_rfl) ?_; conv => whnf)
                    (refine rq_s (by ((simp; omega))) ?_; conv => whnf)
                    (refine rq_s (by ((simp only [decide_eq_true_eq, List.length_map, mkS_len, setRow_len]; done))) ?_; conv => whnf)
                    (refine rq_s (by ((simp; omega))) ?_; conv => whnf)
                    (refine ChkS.mk (by kernel_rfl) ?_; conv => whnf)
                    (refine rows_s (by ((rw [wd, setRow_int _ _ _ _ (by simp)]))) ?_; conv => whnf)
                    (refine ChkS.mk (by kernel_rfl) ?_; conv => whnf)
                    (refine fac_s (fun hf => ?_); conv => whnf)
                    (refine ChkS.mk (by kernel_rfl) ?_; conv => whnf)
                    rotate_left)
                | ( iterate 6 (refine br_f rfl ?_; conv => whnf)
                    (refine br_t rfl ?_; conv => whnf)
                    iterate 4 (refine ChkS.mk (by kernel_rfl) ?_; conv => whnf)
                    (refine handp_s 125 [some 1] ?_; conv => whnf)
                    (refine rq_s (by (rfl)) ?_; conv => whnf)
                    (focus (apply callpe_s (f := 125); (· repeat' (first | (refine sub_all ?_; simp [List.length_map, mkS_len, setRow_len]; done) | exact sub_map _ _ _ _ | apply cons_eq | apply obj_eq | apply agg_eq | apply own_eq | apply ro_eq | apply rp_eq | apply fnc_eq | rfl)); refine callp_s (f := 125) rfl (c125 _ (by first | omega | (dsimp only; omega) | (simp; omega)) (by first | omega | (dsimp only; omega) | (simp; omega))) ?_; conv => whnf))
                    (refine ChkS.mk (by kernel_rfl) ?_; conv => whnf)
                    (refine rq_s (by ((simp; omega))) ?_; conv => whnf)
                    (refine rq_s (by ((simp only [decide_eq_true_eq, List.length_map, mkS_len, setRow_len]; done))) ?_; conv => whnf)
                    (refine rq_s (by ((simp; omega))) ?_; conv => whnf)
                    (refine ChkS.mk (by kernel_rfl) ?_; conv => whnf)
                    (refine rows_s (by ((rw [wd, setRow_int _ _ _ _ (by simp)]))) ?_; conv => whnf)
                    (refine ChkS.mk (by kernel_rfl) ?_; conv => whnf)
                    (refine fac_s (fun hf => ?_); conv => whnf)
                    (refine ChkS.mk (by kernel_rfl) ?_; conv => whnf)
                    rotate_left))
          | ( iterate 2 (refine br_f rfl ?_; conv => whnf)
              (refine br_t rfl ?_; conv => whnf)
              iterate 3 (refine ChkS.mk (by kernel_rfl) ?_; conv => whnf)
              (refine handp_s 125 [some 1] ?_; conv => whnf)
              (refine rq_s (by (rfl)) ?_; conv => whnf)
              (focus (apply callpe_s (f := 125); (· repeat' (first | (refine sub_all ?_; simp [List.length_map, mkS_len, setRow_len]; done) | exact sub_map _ _ _ _ | apply cons_eq | apply obj_eq | apply agg_eq | apply own_eq | apply ro_eq | apply rp_eq | apply fnc_eq | rfl)); refine callp_s (f := 125) rfl (c125 _ (by first | omega | (dsimp only; omega) | (simp; omega)) (by first | omega | (dsimp only; omega) | (simp; omega))) ?_; conv => whnf))
              iterate 2 (refine ChkS.mk (by kernel_rfl) ?_; conv => whnf)
              (refine handp_s 126 [none, none] ?_; conv => whnf)
              iterate 3 (refine rq_s (by (rfl)) ?_; conv => whnf)
              (refine rq_s (by ((simp only [decide_eq_true_eq, List.length_map, mkS_len, setRow_len]; done))) ?_; conv => whnf)
              (refine rq_s (by (rfl)) ?_; conv => whnf)
              (focus (apply callpe_s (f := 126); (· repeat' (first | (refine sub_all ?_; simp [List.length_map, mkS_len, setRow_len]; done) | exact sub_map _ _ _ _ | apply cons_eq | apply obj_eq | apply agg_eq | apply own_eq | apply ro_eq | apply rp_eq | apply fnc_eq | rfl)); refine callp_s (f := 126) rfl (c126 _ _ (by first | omega | (dsimp only; omega) | (simp; omega)) (by first | omega | (dsimp only; omega) | (simp; omega)) (by first | omega | (dsimp only; omega) | (simp; omega))) ?_; conv => whnf))
              (refine ChkS.mk (by kernel_rfl) ?_; conv => whnf)
              (refine rq_s (by ((simp only [Bool.and_eq_true, decide_eq_true_eq, List.length_map]; omega))) ?_; conv => whnf)
              (refine rq_s (by ((simp only [decide_eq_true_eq, List.length_map, mkS_len, setRow_len]; done))) ?_; conv => whnf)
              (refine rq_s (by ((refine and_s rfl ?_; simp only [decide_eq_true_eq, List.length_map]; omega))) ?_; conv => whnf)
              (refine ChkS.mk (by kernel_rfl) ?_; conv => whnf)
              (refine rows_s (by ((rw [setRow_int _ _ _ _ (by first | omega | (simp only [List.length_append, List.length_cons, List.length_nil, Nat.zero_add, Int.natCast_add, Int.cast_ofNat_Int]; omega))]))) ?_; conv => whnf)
              (refine ChkS.mk (by kernel_rfl) ?_; conv => whnf)
              iterate 2 (refine fac_s (fun hf => ?_); conv => whnf)
              (refine ChkS.mk (by kernel_rfl) ?_; conv => whnf)
              rotate_left)
          | ( iterate 3 (refine br_f rfl ?_; conv => whnf)
              (refine br_t rfl ?_; conv => whnf)
              iterate 3 (refine ChkS.mk (by kernel_rfl) ?_; conv => whnf)
              (refine handp_s 126 [none, none] ?_; conv => whnf)
              iterate 3 (refine rq_s (by (rfl)) ?_; conv => whnf)
              (refine rq_s (by ((simp only [decide_eq_true_eq, List.length_map, mkS_len, setRow_len]; done))) ?_; conv => whnf)
              (refine rq_s (by (rfl)) ?_; conv => whnf)
              (focus (apply callpe_s (f := 126); (· repeat' (first | (refine sub_all ?_; simp [List.length_map, mkS_len, setRow_len]; done) | exact sub_map _ _ _ _ | apply cons_eq | apply obj_eq | apply agg_eq | apply own_eq | apply ro_eq | apply rp_eq | apply fnc_eq | rfl)); refine callp_s (f := 126) rfl (c126 _ _ (by first | omega | (dsimp only; omega) | (simp; omega)) (by first | omega | (dsimp only; omega) | (simp; omega)) (by first | omega | (dsimp only; omega) | (simp; omega))) ?_; conv => whnf))
              (refine ChkS.mk (by kernel_rfl) ?_; conv => whnf)
              (refine rq_s (by (rfl)) ?_; conv => whnf)
              (refine ChkS.mk (by kernel_rfl) ?_; conv => whnf)
              (refine rq_s (by ((simp only [decide_eq_true_eq, List.length_map, mkS_len, setRow_len]; done))) ?_; conv => whnf)
              iterate 2 (refine rq_s (by (rfl)) ?_; conv => whnf)
              (refine rq_s (by ((simp only [decide_eq_true_eq, List.length_map, mkS_len, setRow_len]; done))) ?_; conv => whnf)
              (refine rq_s (by (((first | (simp [maxBytes, subA]; done) | (simp [maxBytes, subA]; omega) | (simp only [List.length_append, List.length_cons, List.length_nil, decide_eq_true_eq, List.length_map, Bool.and_eq_true]; rw [wrap64 (by omega) (by omega)]; first | done | omega | (refine ⟨by rfl, ?_⟩; omega)))))) ?_; conv => whnf)
              (refine appf_s intR rfl ?_; conv => whnf)
              iterate 2 (refine ChkS.mk (by kernel_rfl) ?_; conv => whnf)
              (refine fac_s (fun hf => ?_); conv => whnf)
              (refine ChkS.mk (by kernel_rfl) ?_; conv => whnf)
              rotate_left)
          | ( iterate 4 (refine br_f rfl ?_; conv => whnf)
              (refine br_t rfl ?_; conv => whnf)
              (refine rq_s (by (rfl)) ?_; conv => whnf)
              (refine rq_s (by ((simp only [decide_eq_true_eq, List.length_map, mkS_len, setRow_len]; done))) ?_; conv => whnf)
              iterate 2 (refine rq_s (by (rfl)) ?_; conv => whnf)
              (refine rq_s (by ((simp only [decide_eq_true_eq, List.length_map, mkS_len, setRow_len]; done))) ?_; conv => whnf)
              (refine rq_s (by (((first | (simp [maxBytes, subA]; done) | (simp [maxBytes, subA]; omega) | (simp only [List.length_append, List.length_cons, List.length_nil, decide_eq_true_eq, List.length_map, Bool.and_eq_true]; rw [wrap64 (by omega) (by omega)]; first | done | omega | (refine ⟨by rfl, ?_⟩; omega)))))) ?_; conv => whnf)
              (refine appf_s intR rfl ?_; conv => whnf)
              iterate 3 (refine ChkS.mk (by kernel_rfl) ?_; conv => whnf)
              (refine handp_s 126 [none, none] ?_; conv => whnf)
              iterate 3 (refine rq_s (by (rfl)) ?_; conv => whnf)
              (refine rq_s (by ((simp only [decide_eq_true_eq, List.length_map, mkS_len, setRow_len]; done))) ?_; conv => whnf)
              (refine rq_s (by (rfl)) ?_; conv => whnf)
              (focus (apply callpe_s (f := 126); (· repeat' (first | (refine sub_all ?_; simp [List.length_map, mkS_len, setRow_len]; done) | exact sub_map _ _ _ _ | apply cons_eq | apply obj_eq | apply agg_eq | apply own_eq | apply ro_eq | apply rp_eq | apply fnc_eq | rfl)); refine callp_s (f := 126) rfl (c126 _ _ (by first | omega | (dsimp only; omega) | (simp; omega)) (by first | omega | (dsimp only; omega) | (simp; omega)) (by first | omega | (dsimp only; omega) | (simp; omega))) ?_; conv => whnf))
              (refine ChkS.mk (by kernel_rfl) ?_; conv => whnf)
              (refine rq_s (by (rfl)) ?_; conv => whnf)
              (refine ChkS.mk (by kernel_rfl) ?_; conv => whnf)
              (refine rq_s (by ((simp only [decide_eq_true_eq, List.length_map, mkS_len, setRow_len]; done))) ?_; conv => whnf)
              iterate 2 (refine rq_s (by (rfl)) ?_; conv => whnf)
              (refine rq_s (by ((simp only [decide_eq_true_eq, List.length_map, mkS_len, setRow_len]; done))) ?_; conv => whnf)
              (refine rq_s (by (((first | (simp [maxBytes, subA]; done) | (simp [maxBytes, subA]; omega) | (simp only [List.length_append, List.length_cons, List.length_nil, decide_eq_true_eq, List.length_map, Bool.and_eq_true]; rw [wrap64 (by omega) (by omega)]; first | done | omega | (refine ⟨by rfl, ?_⟩; omega)))))) ?_; conv => whnf)
              (refine appf_s intR rfl ?_; conv => whnf)
              iterate 2 (refine ChkS.mk (by kernel_rfl) ?_; conv => whnf)
              (refine fac_s (fun hf => ?_); conv => whnf)
              (refine ChkS.mk (by kernel_rfl) ?_; conv => whnf)
              rotate_left)
          | ( (refine br_f rfl ?_; conv => whnf)
              (refine br_t rfl ?_; conv => whnf)
              (refine rq_s (by (rfl)) ?_; conv => whnf)
              (refine rq_s (by ((simp only [decide_eq_true_eq, List.length_map, mkS_len, setRow_len]; done))) ?_; conv => whnf)
              iterate 2 (refine rq_s (by (rfl)) ?_; conv => whnf)
              (refine rq_s (by ((simp only [decide_eq_true_eq, List.length_map, mkS_len, setRow_len]; done))) ?_; conv => whnf)
              (refine rq_s (by (((first | (simp [maxBytes, subA]; done) | (simp [maxBytes, subA]; omega) | (simp only [List.length_append, List.length_cons, List.length_nil, decide_eq_true_eq, List.length_map, Bool.and_eq_true]; rw [wrap64 (by omega) (by omega)]; first | done | omega | (refine ⟨by rfl, ?_⟩; omega)))))) ?_; conv => whnf)
              (refine appf_s intR rfl ?_; conv => whnf)
              (refine ChkS.mk (by kernel_rfl) ?_; conv => whnf)
              rotate_left))
      all_goals try refine head_s (LS.mk (i + 1) _ _) ⟨⟨hn, hc⟩, by simp only; omega⟩ (by rw [wrap64 (by omega) (by omega)]; rfl) ?_
      all_goals first
        | (simp [cstep, stStep, flat_snoc, flatP, flatK, subA, intR, List.take_of_length_le, lastM_map, innF, wc, wd, wt, P]; done)
        | (simp [cstep, stStep, flat_snoc, flatP, flatK, subA, intR, List.take_of_length_le, lastM_map, innF, wc, wd, wt]; done)
        | (simp only [P.2.1, P.2.2.1]; simp [cstep, stStep, flat_snoc, flatP, flatK, subA, intR, List.take_of_length_le, lastM_map, innF, wc, wd, wt]; done)
        | (have ph : ((lastS st).2.1).toNat < c.length := by omega
           simp only [P.2.1, P.2.2.2.2.1, P.2.2.2.2.2]
           simp [cstep, stStep, flat_snoc, flatP, flatK, subA, intR, List.take_of_length_le, lastM_map, innF, wc, wd, wt, List.set_append, ph]; done)
        | skip
    · have hlt : decide ((i : Int) < (xs.length : Int)) = false := by simp; omega
      obtain rfl : i = xs.length := by omega
      rw [List.drop_length] at hC
      conv => whnf
      (focus (refine br_f (by (simp; done)) ?_; conv => whnf))
      (refine rq_s (by (rfl)) ?_; conv => whnf)
      (refine rq_s (by ((simp only [decide_eq_true_eq, List.length_map, mkS_len, setRow_len]; done))) ?_; conv => whnf)
      iterate 2 (refine rq_s (by (rfl)) ?_; conv => whnf)
      (refine rq_s (by ((simp only [decide_eq_true_eq, List.length_map, mkS_len, setRow_len]; done))) ?_; conv => whnf)
      (refine rq_s (by (((simp [maxBytes, subA]; omega)))) ?_; conv => whnf)
      (refine appf_s intR rfl ?_; conv => whnf)
      (refine rq_s (by ((simp only [decide_eq_true_eq, List.length_map, mkS_len, setRow_len]; done))) ?_; conv => whnf)
      (refine rq_s (by (rfl)) ?_; conv => whnf)
      (refine rows_s (by ((refine sub_all ?_; simp [List.length_map, mkS_len, setRow_len]; done))) ?_; conv => whnf)
      rotate_left
      exact ⟨by rw [← hC]; exact Sh.refl _⟩
end I6

/- CompileItems: the program's function; the reference's parts: contracts. -/
set_option linter.unusedVariables false
set_option linter.unusedSimpArgs false
set_option maxRecDepth 100000
open Go Go.Abs Go.Proofs V1 H1 I1 I2 I3 I4 I5 I6
namespace I7

theorem open_of {xs : List Itm} (h : (chkF xs).2 = 0) : openF xs = ([], -1) := by
  have h1 := openGo_lt xs 0 [] (by omega)
  unfold chkF at h
  split at h
  · simp at h
  · rename_i h2
    unfold checkF at h2
    have h3 : (openF xs).2 = -1 := by
      rcases h1 with h1 | h1
      · exact h1
      · exfalso
        apply h2
        rw [if_neg (by unfold openF; omega)]
        exact h1.1
    have h4 : (openF xs).1 = [] := by
      cases h5 : (openF xs).1 with
      | nil => rfl
      | cons a l =>
        exfalso
        apply h2
        rw [if_pos ⟨by omega, by rw [h5]; simp⟩]
        omega
    exact Prod.ext h4 h3
def ciF (xs : List Itm) (a s : Int) : List Int × Int :=
  if askF xs ≠ 0 then ([], askF xs) else if (chkF xs).2 ≠ 0 then ([], (chkF xs).2) else if inR a 0 400 = false ∨ inR s 1 103 = false then ([], 4) else if a + sizeF xs > 400 then ([], 7) else (compF xs a s, 0)
def ciV (r : List Int × Int) : AV := .tup [ownI r.1, .int .i64 r.2]
section
variable {xs : List Itm} {a s : Int}
theorem ci_ask (h : askF xs ≠ 0) : ciF xs a s = ([], askF xs) := by rw [ciF, if_pos h]
theorem ci_chk (h : askF xs = 0) (h2 : (chkF xs).2 ≠ 0) : ciF xs a s = ([], (chkF xs).2) := by rw [ciF, if_neg (by omega), if_pos h2]
theorem ci_r (h : askF xs = 0) (h2 : (chkF xs).2 = 0) (h3 : inR a 0 400 = false ∨ inR s 1 103 = false) : ciF xs a s = ([], 4) := by rw [ciF, if_neg (by omega), if_neg (by omega), if_pos h3]
theorem ci_f (h : askF xs = 0) (h2 : (chkF xs).2 = 0) (h3 : inR a 0 400 = true) (h4 : inR s 1 103 = true) (h5 : a + sizeF xs > 400) : ciF xs a s = ([], 7) := by rw [ciF, if_neg (by omega), if_neg (by omega), if_neg (by simp [h3, h4]), if_pos h5]
theorem ci_0 (h : askF xs = 0) (h2 : (chkF xs).2 = 0) (h3 : inR a 0 400 = true) (h4 : inR s 1 103 = true) (h5 : ¬ a + sizeF xs > 400) : ciF xs a s = (compF xs a s, 0) := by rw [ciF, if_neg (by omega), if_neg (by omega), if_neg (by simp [h3, h4]), if_neg h5]
end
theorem ci_sh (n : Int) : Sh (.tup [.emp, .int .i64 n]) (ciV ([], n)) := Sh.tup ⟨Sh.emp_own _ _, Sh.refl _, trivial⟩

theorem c19 (xs : List Itm) (a s : Int) : Con Try.prog 19 [roT xs, .int .i64 a, .int .i64 s] (undefs [roT xs, .int .i64 a, .int .i64 s]) (ciV (ciF xs a s)) := by
  have hc := c36 xs
  generalize hq : (if askF xs = 0 then (chkF xs).1 else 0) = q at hc
  by_cases h0 : askF xs = 0
  · rw [if_pos h0] at hc
    have hl := askF_0 h0
    have hz := szF_le xs
    have hw : inR a 0 400 = true → IntKind.i64.wrap (a + sizeF xs) = a + sizeF xs := fun e => by
      have := inR_t e
      have := hl.1
      exact wrap64 (by unfold sizeF; omega) (by unfold sizeF; omega)
    refine Con.ev 37 T_ok mix Try.func19 rfl rfl rfl rfl [.tmp 6, .tmp 7] rfl ?_
    conv => whnf
    (refine rq_s (by (rfl)) ?_; conv => whnf)
    (refine lend_s ?_; conv => whnf)
    (refine rows_s (by (rfl)) ?_; conv => whnf)
    (refine call_s (hc ..) ?_; conv => whnf)
    iterate 2 (refine fac_s (fun hf => ?_); conv => whnf)
    (refine br_s (fun hb => ?_) (fun hb => ?_) <;> (try simp only [beq_iff_eq, bne_iff_ne, ne_eq, decide_eq_true_eq, decide_eq_false_iff_not, Int.not_lt, Int.not_le, Bool.false_eq_true, if_false, if_true, beq_eq_false_iff_ne, bne_eq_false_iff_eq, Bool.not_eq_true', Bool.not_eq_false', Int.ofNat_lt, Int.ofNat_le, Int.ofNat_inj, List.length_map, List.length_nil, List.length_cons] at hb) <;> conv => whnf)
    iterate 2 (refine rq_s (by (rfl)) ?_; conv => whnf)
    rotate_left
    iterate 3 (refine rq_s (by (rfl)) ?_; conv => whnf)
    (refine lend_s ?_; conv => whnf)
    (refine call_s (c68 ..) ?_; conv => whnf)
    (refine br_s (fun hb => ?_) (fun hb => ?_) <;> (try simp only [beq_iff_eq, bne_iff_ne, ne_eq, decide_eq_true_eq, decide_eq_false_iff_not, Int.not_lt, Int.not_le, Bool.false_eq_true, if_false, if_true, beq_eq_false_iff_ne, bne_eq_false_iff_eq, Bool.not_eq_true', Bool.not_eq_false', Int.ofNat_lt, Int.ofNat_le, Int.ofNat_inj, List.length_map, List.length_nil, List.length_cons] at hb) <;> conv => whnf)
    iterate 4 (refine br_t rfl ?_; conv => whnf)
    iterate 2 (refine rq_s (by (rfl)) ?_; conv => whnf)
    rotate_left
    (refine br_f rfl ?_; conv => whnf)
    iterate 3 (refine rq_s (by (rfl)) ?_; conv => whnf)
    (refine lend_s ?_; conv => whnf)
    (refine call_s (c68 ..) ?_; conv => whnf)
    (refine br_f rfl ?_; conv => whnf)
    (refine br_s (fun hb => ?_) (fun hb => ?_) <;> (try simp only [beq_iff_eq, bne_iff_ne, ne_eq, decide_eq_true_eq, decide_eq_false_iff_not, Int.not_lt, Int.not_le, Bool.false_eq_true, if_false, if_true, beq_eq_false_iff_ne, bne_eq_false_iff_eq, Bool.not_eq_true', Bool.not_eq_false', Int.ofNat_lt, Int.ofNat_le, Int.ofNat_inj, List.length_map, List.length_nil, List.length_cons] at hb) <;> conv => whnf)
    iterate 2 (refine rq_s (by (rfl)) ?_; conv => whnf)
    rotate_left
    (refine rq_s (by (rfl)) ?_; conv => whnf)
    (refine lend_s ?_; conv => whnf)
    (refine rows_s (by (rfl)) ?_; conv => whnf)
    (refine call_s (c69 _ (by first | omega | (dsimp only; omega) | (simp; omega))) ?_; conv => whnf)
    (refine fac_s (fun hf => ?_); conv => whnf)
    (refine br_s (fun hb => ?_) (fun hb => ?_) <;> (try simp only [beq_iff_eq, bne_iff_ne, ne_eq, decide_eq_true_eq, decide_eq_false_iff_not, Int.not_lt, Int.not_le, Bool.false_eq_true, if_false, if_true, beq_eq_false_iff_ne, bne_eq_false_iff_eq, Bool.not_eq_true', Bool.not_eq_false', Int.ofNat_lt, Int.ofNat_le, Int.ofNat_inj, List.length_map, List.length_nil, List.length_cons] at hb) <;> conv => whnf)
    iterate 2 (refine rq_s (by (rfl)) ?_; conv => whnf)
    rotate_left
    iterate 3 (refine rq_s (by (rfl)) ?_; conv => whnf)
    (refine lend_s ?_; conv => whnf)
    (refine rows_s (by (rfl)) ?_; conv => whnf)
    (refine call_s (c70 _ _ _ hl.1 hl.2 (open_of (by assumption)) (inR_t (by assumption)) (inR_t (by assumption))) ?_; conv => whnf)
    (refine fac_s (fun hf => ?_); conv => whnf)
    (refine rq_s (by ((simp only [decide_eq_true_eq, List.length_map, mkS_len, setRow_len]; done))) ?_; conv => whnf)
    iterate 2 (refine rq_s (by (rfl)) ?_; conv => whnf)
    (refine rows_s (by ((refine sub_all ?_; simp [List.length_map, mkS_len, setRow_len]; done))) ?_; conv => whnf)
    rotate_left
    all_goals first
      | exact ⟨by rw [ci_chk h0 (by assumption)]; exact ci_sh _⟩
      | exact ⟨by rw [ci_r h0 (by assumption) (.inl (by assumption))]; exact ci_sh _⟩
      | exact ⟨by rw [ci_r h0 (by assumption) (.inr (by assumption))]; exact ci_sh _⟩
      | exact ⟨by rw [ci_f h0 (by assumption) (by assumption) (by assumption) (by rw [hw (by assumption)] at hb; exact hb)]; exact ci_sh _⟩
      | exact ⟨by rw [ci_0 h0 (by assumption) (by assumption) (by assumption) (by rw [hw (by assumption)] at hb; omega)]; exact Sh.refl _⟩
  · rw [if_neg h0] at hc
    refine Con.ev 37 T_ok mix Try.func19 rfl rfl rfl rfl [.tmp 6, .tmp 7] rfl ?_
    conv => whnf
    (refine rq_s (by (rfl)) ?_; conv => whnf)
    (refine lend_s ?_; conv => whnf)
    (refine rows_s (by (rfl)) ?_; conv => whnf)
    (refine call_s (hc ..) ?_; conv => whnf)
    iterate 2 (refine fac_s (fun hf => ?_); conv => whnf)
    (refine br_s (fun hb => ?_) (fun hb => ?_) <;> (try simp only [beq_iff_eq, bne_iff_ne, ne_eq, decide_eq_true_eq, decide_eq_false_iff_not, Int.not_lt, Int.not_le, Bool.false_eq_true, if_false, if_true, beq_eq_false_iff_ne, bne_eq_false_iff_eq, Bool.not_eq_true', Bool.not_eq_false', Int.ofNat_lt, Int.ofNat_le, Int.ofNat_inj, List.length_map, List.length_nil, List.length_cons] at hb) <;> conv => whnf)
    iterate 2 (refine rq_s (by (rfl)) ?_; conv => whnf)
    rotate_left
    iterate 3 (refine rq_s (by (rfl)) ?_; conv => whnf)
    (refine lend_s ?_; conv => whnf)
    rotate_left
    · exact ⟨by rw [ci_ask h0]; exact ci_sh _⟩
    · exact absurd hb h0
end I7
