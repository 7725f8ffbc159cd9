import Derived.Test.YtdbjklhadnnbdaaGtD
import Derived.Test.YtdbjklhadnnbdaaAbsi
import Derived.Test.YtdbjklhadnnbdaaAbsl
/- The reference's source of data, 4: flat items, lists; contracts. -/
set_option linter.unusedVariables false
set_option linter.unusedSimpArgs false
set_option maxRecDepth 100000
open Go Go.Abs Go.Proofs V1 H1 S1 S2 S3
namespace S4

def tbl : List Int := [1, 2, 3, 4, 15, 16, 17, 46, 32, 34]

theorem fl (d : List UInt8) {a m L : Int} (w : Int) (hw : 84 ≤ w ∧ w ≤ 103) (h : SrcOk a m L) (hl : L ≤ 10000000000 - 100) : ∃ x a' m', Con Try.prog 150 [.obj (srcC d a m), .int .i64 w] [.obj (srcC d a' m'), .undef] (itV x) ∧ itemOK x = true ∧ (x.k = 1 ∨ x.k = 2) ∧ SrcOk a' m' (L + 70) := by
  obtain ⟨v0, a0, m0, k0, p0, q0, h0⟩ := nx d 5 h (by omega)
  have hv0 : v0 = 0 ∨ v0 = 1 ∨ v0 = 2 ∨ v0 = 3 ∨ v0 = 4 := by omega
  by_cases c0 : v0 = 0 ∨ v0 = 1
  · obtain ⟨v1, a1, m1, k1, p1, q1, h1⟩ := nx d 6 h0 (by omega)
    obtain ⟨v2, a2, m2, k2, p2, h2⟩ := ce d h1 (by omega)
    obtain ⟨v3, a3, m3, k3, p3, h3⟩ := ad d h2 (by omega)
    obtain ⟨v4, a4, m4, k4, p4, q4, h4⟩ := nx d 3 h3 (by omega)
    have hv : v4 = 0 ∨ v4 = 1 ∨ v4 = 2 := by omega
    have hrow : ∀ z, rowA [[AV.int .i64 v1], [AV.int .i64 v2], [AV.int .i64 v3]] v4.toNat z = [.int .i64 ([v1, v2, v3].getD v4.toNat 0)] := fun z => by
      rcases hv with rfl | rfl | rfl <;> rfl
    refine ⟨⟨2, [v1, v2, v3].getD v4.toNat 0⟩, a4, m4, ?_, ?_, by simp, sle h4 (by omega)⟩
    · rcases c0 with rfl | rfl <;>
      (refine Con.evP 44 [500000] rfl T_ok mix Try.func150 rfl rfl rfl rfl [.cell 4 86] rfl ?_
       conv => whnf
       (refine handp_s 93 [some 3, none] ?_; conv => whnf)
       iterate 2 (refine rq_s (by (rfl)) ?_; conv => whnf)
       (focus (apply callpe_s (f := 93); (· repeat' (first | (refine sub_all ?_; simp [List.length_map]; done) | exact sub_map _ _ _ _ | apply cons_eq | apply obj_eq | apply agg_eq | apply own_eq | apply ro_eq | apply rp_eq | apply fnc_eq | rfl)); refine callp_s (f := 93) rfl (k0 ..) ?_; conv => whnf))
       (refine fac_s (fun hf => ?_); conv => whnf)
       first
         | ( iterate 2 (refine br_t rfl ?_; conv => whnf)
             (refine handp_s 93 [some 3, none] ?_; conv => whnf)
             iterate 2 (refine rq_s (by (rfl)) ?_; conv => whnf)
             (focus (apply callpe_s (f := 93); (· repeat' (first | (refine sub_all ?_; simp [List.length_map]; done) | exact sub_map _ _ _ _ | apply cons_eq | apply obj_eq | apply agg_eq | apply own_eq | apply ro_eq | apply rp_eq | apply fnc_eq | rfl)); refine callp_s (f := 93) rfl (k1 ..) ?_; conv => whnf))
             (refine handp_s 61 [some 3] ?_; conv => whnf)
             (refine rq_s (by (rfl)) ?_; conv => whnf)
             (focus (apply callpe_s (f := 61); (· repeat' (first | (refine sub_all ?_; simp [List.length_map]; done) | exact sub_map _ _ _ _ | apply cons_eq | apply obj_eq | apply agg_eq | apply own_eq | apply ro_eq | apply rp_eq | apply fnc_eq | rfl)); refine callp_s (f := 61) rfl (k2 ..) ?_; conv => whnf))
             (refine handp_s 162 [some 3] ?_; conv => whnf)
             (refine rq_s (by (rfl)) ?_; conv => whnf)
             (focus (apply callpe_s (f := 162); (· repeat' (first | (refine sub_all ?_; simp [List.length_map]; done) | exact sub_map _ _ _ _ | apply cons_eq | apply obj_eq | apply agg_eq | apply own_eq | apply ro_eq | apply rp_eq | apply fnc_eq | rfl)); refine callp_s (f := 162) rfl (k3 ..) ?_; conv => whnf))
             (refine rq_s (by (rfl)) ?_; conv => whnf)
             (refine handp_s 93 [some 3, none] ?_; conv => whnf)
             iterate 2 (refine rq_s (by (rfl)) ?_; conv => whnf)
             (focus (apply callpe_s (f := 93); (· repeat' (first | (refine sub_all ?_; simp [List.length_map]; done) | exact sub_map _ _ _ _ | apply cons_eq | apply obj_eq | apply agg_eq | apply own_eq | apply ro_eq | apply rp_eq | apply fnc_eq | rfl)); refine callp_s (f := 93) rfl (k4 ..) ?_; conv => whnf))
             (refine rq_s (by ((simp only [Bool.and_eq_true, decide_eq_true_eq, List.length_map]; omega))) ?_; conv => whnf)
             (refine rq_s (by ((simp only [decide_eq_true_eq, List.length_map]; done))) ?_; conv => whnf)
             (refine rq_s (by ((refine and_s rfl ?_; simp only [decide_eq_true_eq, List.length_map]; omega))) ?_; conv => whnf)
             (refine row_s (by ((rewrite [Nat.zero_add]; exact hrow _))) ?_; conv => whnf)
             (refine rq_s (by (rfl)) ?_; conv => whnf)
             iterate 4 (refine fac_s (fun hf => ?_); conv => whnf)
             iterate 3 (refine rq_s (by (rfl)) ?_; conv => whnf)
             (refine aftp_s (by rfl) ?_; conv => whnf)
             (refine rows_s (by (rfl)) ?_; conv => whnf)
             (refine aftp_s (by rfl) ?_; conv => whnf)
             exact True.intro)
         | ( (refine br_f rfl ?_; conv => whnf)
             (refine br_t rfl ?_; conv => whnf)
             (refine handp_s 93 [some 3, none] ?_; conv => whnf)
             iterate 2 (refine rq_s (by (rfl)) ?_; conv => whnf)
             (focus (apply callpe_s (f := 93); (· repeat' (first | (refine sub_all ?_; simp [List.length_map]; done) | exact sub_map _ _ _ _ | apply cons_eq | apply obj_eq | apply agg_eq | apply own_eq | apply ro_eq | apply rp_eq | apply fnc_eq | rfl)); refine callp_s (f := 93) rfl (k1 ..) ?_; conv => whnf))
             (refine handp_s 61 [some 3] ?_; conv => whnf)
             (refine rq_s (by (rfl)) ?_; conv => whnf)
             (focus (apply callpe_s (f := 61); (· repeat' (first | (refine sub_all ?_; simp [List.length_map]; done) | exact sub_map _ _ _ _ | apply cons_eq | apply obj_eq | apply agg_eq | apply own_eq | apply ro_eq | apply rp_eq | apply fnc_eq | rfl)); refine callp_s (f := 61) rfl (k2 ..) ?_; conv => whnf))
             (refine handp_s 162 [some 3] ?_; conv => whnf)
             (refine rq_s (by (rfl)) ?_; conv => whnf)
             (focus (apply callpe_s (f := 162); (· repeat' (first | (refine sub_all ?_; simp [List.length_map]; done) | exact sub_map _ _ _ _ | apply cons_eq | apply obj_eq | apply agg_eq | apply own_eq | apply ro_eq | apply rp_eq | apply fnc_eq | rfl)); refine callp_s (f := 162) rfl (k3 ..) ?_; conv => whnf))
             (refine rq_s (by (rfl)) ?_; conv => whnf)
             (refine handp_s 93 [some 3, none] ?_; conv => whnf)
             iterate 2 (refine rq_s (by (rfl)) ?_; conv => whnf)
             (focus (apply callpe_s (f := 93); (· repeat' (first | (refine sub_all ?_; simp [List.length_map]; done) | exact sub_map _ _ _ _ | apply cons_eq | apply obj_eq | apply agg_eq | apply own_eq | apply ro_eq | apply rp_eq | apply fnc_eq | rfl)); refine callp_s (f := 93) rfl (k4 ..) ?_; conv => whnf))
             (refine rq_s (by ((simp only [Bool.and_eq_true, decide_eq_true_eq, List.length_map]; omega))) ?_; conv => whnf)
             (refine rq_s (by ((simp only [decide_eq_true_eq, List.length_map]; done))) ?_; conv => whnf)
             (refine rq_s (by ((refine and_s rfl ?_; simp only [decide_eq_true_eq, List.length_map]; omega))) ?_; conv => whnf)
             (refine row_s (by ((rewrite [Nat.zero_add]; exact hrow _))) ?_; conv => whnf)
             (refine rq_s (by (rfl)) ?_; conv => whnf)
             iterate 4 (refine fac_s (fun hf => ?_); conv => whnf)
             iterate 3 (refine rq_s (by (rfl)) ?_; conv => whnf)
             (refine aftp_s (by rfl) ?_; conv => whnf)
             (refine rows_s (by (rfl)) ?_; conv => whnf)
             (refine aftp_s (by rfl) ?_; conv => whnf)
             exact True.intro))
    · have p1' : cell v1 = true := by simp [cell, inR]; omega
      simp only [itemOK]
      rcases hv with rfl | rfl | rfl <;> simpa using (by assumption)
  · by_cases c2 : v0 = 2
    · subst c2
      have w1 : IntKind.i64.wrap (w - 83) = w - 83 := wrap64 (by omega) (by omega)
      obtain ⟨v1, a1, m1, k1, p1, q1, h1⟩ := nx d (IntKind.i64.wrap (w - 83)) h0 (by omega)
      rw [w1] at q1
      have w2 : IntKind.i64.wrap (84 + v1) = 84 + v1 := wrap64 (by omega) (by omega)
      have hw1 : decide (w > 83) = true := by simp; omega
      refine ⟨⟨1, 84 + v1⟩, a1, m1, ?_, by simp [itemOK, inR]; omega, by simp, sle h1 (by omega)⟩
      refine Con.evP 44 [500000] rfl T_ok mix Try.func150 rfl rfl rfl rfl [.cell 4 86] rfl ?_
      conv => whnf
      (refine handp_s 93 [some 3, none] ?_; conv => whnf)
      iterate 2 (refine rq_s (by (rfl)) ?_; conv => whnf)
      (focus (apply callpe_s (f := 93); (· repeat' (first | (refine sub_all ?_; simp [List.length_map]; done) | exact sub_map _ _ _ _ | apply cons_eq | apply obj_eq | apply agg_eq | apply own_eq | apply ro_eq | apply rp_eq | apply fnc_eq | rfl)); refine callp_s (f := 93) rfl (k0 ..) ?_; conv => whnf))
      (refine fac_s (fun hf => ?_); conv => whnf)
      iterate 2 (refine br_f rfl ?_; conv => whnf)
      (refine br_t rfl ?_; conv => whnf)
      (refine br_t (by assumption) ?_; conv => whnf)
      (refine handp_s 93 [some 3, none] ?_; conv => whnf)
      iterate 2 (refine rq_s (by (rfl)) ?_; conv => whnf)
      (focus (apply callpe_s (f := 93); (· repeat' (first | (refine sub_all ?_; simp [List.length_map]; done) | exact sub_map _ _ _ _ | apply cons_eq | apply obj_eq | apply agg_eq | apply own_eq | apply ro_eq | apply rp_eq | apply fnc_eq | rfl)); refine callp_s (f := 93) rfl (k1 ..) ?_; conv => whnf))
      (refine rq_s (by (rfl)) ?_; conv => whnf)
      (refine fac_s (fun hf => ?_); conv => whnf)
      iterate 3 (refine rq_s (by (rfl)) ?_; conv => whnf)
      (refine aftp_s (by ((rw [w2]; rfl))) ?_; conv => whnf)
      (refine rows_s (by (rfl)) ?_; conv => whnf)
      (refine aftp_s (by rfl) ?_; conv => whnf)
      exact True.intro
    · by_cases c3 : v0 = 3
      · subst c3
        obtain ⟨v1, a1, m1, k1, p1, q1, h1⟩ := nx d 10 h0 (by omega)
        have hv : v1 = 0 ∨ v1 = 1 ∨ v1 = 2 ∨ v1 = 3 ∨ v1 = 4 ∨ v1 = 5 ∨ v1 = 6 ∨ v1 = 7 ∨ v1 = 8 ∨ v1 = 9 := by omega
        have hrow : ∀ z, rowA [[AV.int .i64 1], [AV.int .i64 2], [AV.int .i64 3], [AV.int .i64 4], [AV.int .i64 15], [AV.int .i64 16], [AV.int .i64 17], [AV.int .i64 46], [AV.int .i64 32], [AV.int .i64 34]] v1.toNat z = [.int .i64 (tbl.getD v1.toNat 0)] := fun z => by
          rcases hv with rfl | rfl | rfl | rfl | rfl | rfl | rfl | rfl | rfl | rfl <;> rfl
        refine ⟨⟨1, tbl.getD v1.toNat 0⟩, a1, m1, ?_, by rcases hv with rfl | rfl | rfl | rfl | rfl | rfl | rfl | rfl | rfl | rfl <;> rfl, by simp, sle h1 (by omega)⟩
        refine Con.evP 44 [500000] rfl T_ok mix Try.func150 rfl rfl rfl rfl [.cell 4 86] rfl ?_
        conv => whnf
        (refine handp_s 93 [some 3, none] ?_; conv => whnf)
        iterate 2 (refine rq_s (by (rfl)) ?_; conv => whnf)
        (focus (apply callpe_s (f := 93); (· repeat' (first | (refine sub_all ?_; simp [List.length_map]; done) | exact sub_map _ _ _ _ | apply cons_eq | apply obj_eq | apply agg_eq | apply own_eq | apply ro_eq | apply rp_eq | apply fnc_eq | rfl)); refine callp_s (f := 93) rfl (k0 ..) ?_; conv => whnf))
        (refine fac_s (fun hf => ?_); conv => whnf)
        iterate 3 (refine br_f rfl ?_; conv => whnf)
        (refine br_t rfl ?_; conv => whnf)
        (refine rq_s (by (rfl)) ?_; conv => whnf)
        (refine handp_s 93 [some 3, none] ?_; conv => whnf)
        iterate 2 (refine rq_s (by (rfl)) ?_; conv => whnf)
        (focus (apply callpe_s (f := 93); (· repeat' (first | (refine sub_all ?_; simp [List.length_map]; done) | exact sub_map _ _ _ _ | apply cons_eq | apply obj_eq | apply agg_eq | apply own_eq | apply ro_eq | apply rp_eq | apply fnc_eq | rfl)); refine callp_s (f := 93) rfl (k1 ..) ?_; conv => whnf))
        (refine rq_s (by ((simp only [Bool.and_eq_true, decide_eq_true_eq, List.length_map]; omega))) ?_; conv => whnf)
        (refine rq_s (by ((simp only [decide_eq_true_eq, List.length_map]; done))) ?_; conv => whnf)
        (refine rq_s (by ((refine and_s rfl ?_; simp only [decide_eq_true_eq, List.length_map]; omega))) ?_; conv => whnf)
        (refine row_s (by ((rewrite [Nat.zero_add]; exact hrow _))) ?_; conv => whnf)
        (refine rq_s (by (rfl)) ?_; conv => whnf)
        (refine fac_s (fun hf => ?_); conv => whnf)
        iterate 3 (refine rq_s (by (rfl)) ?_; conv => whnf)
        (refine aftp_s (by rfl) ?_; conv => whnf)
        (refine rows_s (by (rfl)) ?_; conv => whnf)
        (refine aftp_s (by rfl) ?_; conv => whnf)
        exact True.intro
      · obtain rfl : v0 = 4 := by omega
        obtain ⟨v1, a1, m1, k1, p1, q1, h1⟩ := nx d 66 h0 (by omega)
        have w2 : IntKind.i64.wrap (1 + v1) = 1 + v1 := wrap64 (by omega) (by omega)
        refine ⟨⟨1, 1 + v1⟩, a1, m1, ?_, by simp [itemOK, inR]; omega, by simp, sle h1 (by omega)⟩
        refine Con.evP 44 [500000] rfl T_ok mix Try.func150 rfl rfl rfl rfl [.cell 4 86] rfl ?_
        conv => whnf
        (refine handp_s 93 [some 3, none] ?_; conv => whnf)
        iterate 2 (refine rq_s (by (rfl)) ?_; conv => whnf)
        (focus (apply callpe_s (f := 93); (· repeat' (first | (refine sub_all ?_; simp [List.length_map]; done) | exact sub_map _ _ _ _ | apply cons_eq | apply obj_eq | apply agg_eq | apply own_eq | apply ro_eq | apply rp_eq | apply fnc_eq | rfl)); refine callp_s (f := 93) rfl (k0 ..) ?_; conv => whnf))
        (refine fac_s (fun hf => ?_); conv => whnf)
        iterate 4 (refine br_f rfl ?_; conv => whnf)
        (refine handp_s 93 [some 3, none] ?_; conv => whnf)
        iterate 2 (refine rq_s (by (rfl)) ?_; conv => whnf)
        (focus (apply callpe_s (f := 93); (· repeat' (first | (refine sub_all ?_; simp [List.length_map]; done) | exact sub_map _ _ _ _ | apply cons_eq | apply obj_eq | apply agg_eq | apply own_eq | apply ro_eq | apply rp_eq | apply fnc_eq | rfl)); refine callp_s (f := 93) rfl (k1 ..) ?_; conv => whnf))
        (refine rq_s (by (rfl)) ?_; conv => whnf)
        (refine fac_s (fun hf => ?_); conv => whnf)
        iterate 3 (refine rq_s (by (rfl)) ?_; conv => whnf)
        (refine aftp_s (by ((rw [w2]; rfl))) ?_; conv => whnf)
        (refine rows_s (by (rfl)) ?_; conv => whnf)
        (refine aftp_s (by rfl) ?_; conv => whnf)
        exact True.intro
theorem c130 (k : Int) : Con Try.prog 130 [.int .i64 k] (undefs [.int .i64 k]) (ownT [⟨k, 0⟩]) := by
  refine Con.ev 6 T_ok mix Try.func130 rfl rfl rfl rfl [.tmp 2] rfl ?_
  conv => whnf
  iterate 2 (refine rq_s (by (rfl)) ?_; conv => whnf)
  (refine rq_s (by ((simp only [decide_eq_true_eq, List.length_map]; done))) ?_; conv => whnf)
  (refine rq_s (by (rfl)) ?_; conv => whnf)
  (refine rows_s (by ((refine sub_all ?_; simp [List.length_map]; done))) ?_; conv => whnf)
  (refine sh_s ?_; (rfl))
theorem c152 (k : Int) : Con Try.prog 152 [.int .i64 k] (undefs [.int .i64 k]) (ownT [⟨2, k⟩]) := by
  refine Con.ev 6 T_ok mix Try.func152 rfl rfl rfl rfl [.tmp 2] rfl ?_
  conv => whnf
  iterate 2 (refine rq_s (by (rfl)) ?_; conv => whnf)
  (refine rq_s (by ((simp only [decide_eq_true_eq, List.length_map]; done))) ?_; conv => whnf)
  (refine rq_s (by (rfl)) ?_; conv => whnf)
  (refine rows_s (by ((refine sub_all ?_; simp [List.length_map]; done))) ?_; conv => whnf)
  (refine sh_s ?_; (rfl))
theorem c153 (k : Int) : Con Try.prog 153 [.int .i64 k] (undefs [.int .i64 k]) (ownT [⟨1, k⟩]) := by
  refine Con.ev 6 T_ok mix Try.func153 rfl rfl rfl rfl [.tmp 2] rfl ?_
  conv => whnf
  iterate 2 (refine rq_s (by (rfl)) ?_; conv => whnf)
  (refine rq_s (by ((simp only [decide_eq_true_eq, List.length_map]; done))) ?_; conv => whnf)
  (refine rq_s (by (rfl)) ?_; conv => whnf)
  (refine rows_s (by ((refine sub_all ?_; simp [List.length_map]; done))) ?_; conv => whnf)
  (refine sh_s ?_; (rfl))
end S4

/- The reference's source of data, 5: lists of lists, put together; a contract. -/
set_option linter.unusedVariables false
set_option linter.unusedSimpArgs false
set_option maxRecDepth 100000
open Go Go.Abs Go.Proofs V1 H1 S1 S2 S3 S4
namespace S5

def liR (xs : List Itm) : List AV := [roT xs]
def roL (l : List (List Itm)) : AV := .ro [.emp] (l.map liR)
theorem flat_take {l : List (List Itm)} {i : Nat} (h : i < l.length) : (l.take (i + 1)).flatten = (l.take i).flatten ++ l.getD i [] := by
  rw [List.take_succ_eq_append_getElem h, List.flatten_append]
  simp [h]
theorem flat_le {l : List (List Itm)} {i : Nat} : (l.take i).flatten.length ≤ l.flatten.length := by
  conv => rhs; rw [← List.take_append_drop i l]
  rw [List.flatten_append, List.length_append]
  omega


theorem c151 (l : List (List Itm)) (h1 : l.length ≤ 100) (h2 : l.flatten.length ≤ 1000000) : Con Try.prog 151 [roL l] (undefs [roL l]) (ownT l.flatten) := by
  refine Con.ev 19 T_ok mix Try.func151 rfl rfl rfl rfl [.tmp 2] rfl ?_
  conv => whnf
  (refine rq_s (by (rfl)) ?_; conv => whnf)
  rotate_left
  refine LoopG.bearL 1 3 101 zT rfl rfl ?_
  refine LoopG.auto (α := Nat) T_ok mix [0, 3, 4] (fun i => [(0, roL l), (3, .ref 1 0 (l.take i).flatten.length), (4, .int .i64 i)]) (fun i => [(1, .live ⟨true, 1, zT, (l.take i).flatten.map itR⟩)]) (fun i => i ≤ l.length) (fun i => l.length - i) ?_ ?_
  · conv => whnf
    (refine ChkS.mk (by kernel_rfl) ?_; conv => whnf)
    rotate_left
    exact head_s 0 (by omega) rfl rfl
  · intro i hi _ _
    have h3 := flat_le (l := l) (i := i)
    have h4 := flat_le (l := l) (i := i + 1)
    conv => whnf
    (refine br_s (fun hb => ?_) (fun hb => ?_) <;> (try simp only [beq_iff_eq, bne_iff_ne, ne_eq, decide_eq_true_eq, decide_eq_false_iff_not, Int.not_lt, Int.not_le, Bool.false_eq_true, if_false, if_true, beq_eq_false_iff_ne, bne_eq_false_iff_eq, Bool.not_eq_true', Bool.not_eq_false', Int.ofNat_lt, Int.ofNat_le, Int.ofNat_inj, List.length_map, List.length_nil, List.length_cons] at hb) <;> conv => whnf)
    (refine rq_s (by (rfl)) ?_; conv => whnf)
    (refine rq_s (by ((refine and_s rfl ?_; simp only [decide_eq_true_eq, List.length_map]; omega))) ?_; conv => whnf)
    (refine row_s (by ((try simp only [Int.toNat_natCast]); exact row_map liR l _ _ [] (by first | omega | (simp; omega)))) ?_; conv => whnf)
    iterate 2 (refine rq_s (by (rfl)) ?_; conv => whnf)
    (refine rq_s (by ((simp only [decide_eq_true_eq, List.length_map]; done))) ?_; conv => whnf)
    (refine rq_s (by (((rewrite [flat_take (by simpa using hb), List.length_append] at h4; refine and_s rfl ?_; simp only [decide_eq_true_eq, List.length_map, maxBytes]; omega)))) ?_; conv => whnf)
    (refine appl_s itR ?_; conv => whnf)
    (refine ChkS.mk (by kernel_rfl) ?_; conv => whnf)
    rotate_left
    (refine rq_s (by ((simp only [decide_eq_true_eq, List.length_map]; done))) ?_; conv => whnf)
    (refine rq_s (by (rfl)) ?_; conv => whnf)
    (refine rows_s (by (exact sub_map _ _ _ _)) ?_; conv => whnf)
    rotate_left
    · have hi2 : i < l.length := by simpa using hb
      exact head_s (i + 1) ⟨by omega, by omega⟩ (by rw [flat_take hi2, wrap64 (by omega) (by omega)]; rfl) (by rw [flat_take hi2])
    · obtain rfl : i = l.length := (by have : ¬ i < l.length := (by simpa using hb); omega)
      rw [List.take_length]
      refine ⟨?_⟩
      rw [List.drop_zero, List.take_length]
      exact Sh.flat_map (fun _ => rfl) _
end S5

/- The reference's source of data, 6: blocks of items; the walk. -/
set_option linter.unusedVariables false
set_option linter.unusedSimpArgs false
set_option maxRecDepth 100000
open Go Go.Abs Go.Proofs V1 H1 S1 S2 S3 S4 S5
namespace S6

structure Ss where
  i : Int
  a : Int
  m : Int
  xs : List Itm
def clampF (x : Itm) : Itm := if x.k = 1 ∧ inR x.v 57 62 = true then ⟨1, 1⟩ else x
abbrev srcO (d : List UInt8) (a m : Int) : AV := .obj (srcC d a m)
def BlkC (d : List UInt8) (k : Int) (a m a' m' : Int) (xs : List Itm) : Prop := Con Try.prog 135 [srcO d a m, .int .i64 86, .int .i64 k] [srcO d a' m', .undef, .undef] (ownT xs)
def NxC (d : List UInt8) (n : Int) (a m a' m' v : Int) : Prop := Con Try.prog 93 [srcO d a m, .int .i64 n] [srcO d a' m', .undef] (.int .i64 v)
def ChC (d : List UInt8) (n : Int) (a m a' m' : Int) (b : Bool) : Prop := Con Try.prog 91 [srcO d a m, .int .i64 n] [srcO d a' m', .undef] (.bool b)
def FlC (d : List UInt8) (a m a' m' : Int) (x : Itm) : Prop := Con Try.prog 150 [srcO d a m, .int .i64 86] [srcO d a' m', .undef] (itV x)
theorem own_ro_T (xs : List Itm) : Sh (ownT xs) (roT xs) := Sh.own_ro (by omega) _ _
theorem cIt (k : Int) : Con Try.prog 130 [.int .i64 k] (undefs [.int .i64 k]) (roT [⟨k, 0⟩]) := Con.sh (c130 k) (own_ro_T _)
theorem cLit (k : Int) : Con Try.prog 152 [.int .i64 k] (undefs [.int .i64 k]) (roT [⟨2, k⟩]) := Con.sh (c152 k) (own_ro_T _)
theorem cIt2 (k : Int) : Con Try.prog 153 [.int .i64 k] (undefs [.int .i64 k]) (roT [⟨1, k⟩]) := Con.sh (c153 k) (own_ro_T _)
theorem BlkC.ro {d : List UInt8} {k a m a' m' : Int} {xs : List Itm} (h : BlkC d k a m a' m' xs) : Con Try.prog 135 [srcO d a m, .int .i64 86, .int .i64 k] [srcO d a' m', .undef, .undef] (roT xs) := Con.sh h (own_ro_T _)
/-- One round. -/
inductive Rnd (d : List UInt8) (k : Int) : Ss → Ss → Prop
  | z {i a m a1 m1 : Int} {xs : List Itm} {x : Itm} (hk : (k == 0) = true) (c1 : FlC d a m a1 m1 x) : Rnd d k ⟨i, a, m, xs⟩ ⟨i - 1, a1, m1, xs ++ [clampF x]⟩
  | f {i a m a1 m1 a2 m2 : Int} {xs : List Itm} {x : Itm} (hk : (k == 0) = false) (c1 : ChC d 4 a m a1 m1 false) (c2 : FlC d a1 m1 a2 m2 x) : Rnd d k ⟨i, a, m, xs⟩ ⟨i - 1, a2, m2, xs ++ [clampF x]⟩
  | c0 {i a m a1 m1 a2 m2 a3 m3 : Int} {xs ys : List Itm} (hk : (k == 0) = false) (c1 : ChC d 4 a m a1 m1 true) (c2 : NxC d 5 a1 m1 a2 m2 0) (c3 : BlkC d (IntKind.i64.wrap (k - 1)) a2 m2 a3 m3 ys) (hl : ys.length ≤ 1000) : Rnd d k ⟨i, a, m, xs⟩ ⟨i - 1, a3, m3, [xs, [⟨3, 0⟩], ys, [⟨5, 0⟩]].flatten⟩
  | c1 {i a m a1 m1 a2 m2 a3 m3 a4 m4 : Int} {xs ys zs : List Itm} (hk : (k == 0) = false) (c1 : ChC d 4 a m a1 m1 true) (c2 : NxC d 5 a1 m1 a2 m2 1) (c3 : BlkC d (IntKind.i64.wrap (k - 1)) a2 m2 a3 m3 ys) (hl : ys.length ≤ 1000) (c4 : BlkC d (IntKind.i64.wrap (k - 1)) a3 m3 a4 m4 zs) (hl : zs.length ≤ 1000) : Rnd d k ⟨i, a, m, xs⟩ ⟨i - 1, a4, m4, [xs, [⟨3, 0⟩], ys, [⟨4, 0⟩], zs, [⟨5, 0⟩]].flatten⟩
  | c2 {i a m a1 m1 a2 m2 a3 m3 a4 m4 v : Int} {xs ys : List Itm} (hk : (k == 0) = false) (c1 : ChC d 4 a m a1 m1 true) (c2 : NxC d 5 a1 m1 a2 m2 2) (c3 : NxC d 3 a2 m2 a3 m3 v) (hv : IntKind.i64.wrap (1 + v) = 1 + v) (c4 : BlkC d 0 a3 m3 a4 m4 ys) (hl : ys.length ≤ 1000) : Rnd d k ⟨i, a, m, xs⟩ ⟨i - 1, a4, m4, [xs, [⟨2, 1 + v⟩], [⟨6, 0⟩], [⟨1, 29⟩], ys, [⟨1, 1⟩], [⟨1, 37⟩], [⟨7, 0⟩]].flatten⟩
  | c3 {i a m a1 m1 a2 m2 a3 m3 a4 m4 a5 m5 v u : Int} {xs ys : List Itm} (hk : (k == 0) = false) (c1 : ChC d 4 a m a1 m1 true) (c2 : NxC d 5 a1 m1 a2 m2 3) (c3 : NxC d 4 a2 m2 a3 m3 v) (c4 : BlkC d (IntKind.i64.wrap (k - 1)) a3 m3 a4 m4 ys) (hl : ys.length ≤ 1000) (c5 : NxC d 3 a4 m4 a5 m5 u) (hu : u = 0 ∨ u = 1 ∨ u = 2) : Rnd d k ⟨i, a, m, xs⟩ ⟨i - 1, a5, m5, [xs, [⟨2, v⟩], [⟨2, 0⟩], [⟨10, 0⟩], ys, [⟨if u = 2 then 12 else 11, 0⟩]].flatten⟩
  | c4 {i a m a1 m1 a2 m2 a3 m3 a4 m4 : Int} {xs ys zs : List Itm} (hk : (k == 0) = false) (c1 : ChC d 4 a m a1 m1 true) (c2 : NxC d 5 a1 m1 a2 m2 4) (c3 : BlkC d 0 a2 m2 a3 m3 ys) (hl : ys.length ≤ 1000) (c4 : BlkC d (IntKind.i64.wrap (k - 1)) a3 m3 a4 m4 zs) (hl : zs.length ≤ 1000) : Rnd d k ⟨i, a, m, xs⟩ ⟨i - 1, a4, m4, [xs, [⟨6, 0⟩], ys, [⟨8, 0⟩], zs, [⟨9, 0⟩]].flatten⟩


theorem block_walk (d : List UInt8) (k a m v0 : Int) (f : Nat → Ss) (n : Nat) (k0 : NxC d 4 a m (f 0).a (f 0).m v0) (hv : IntKind.i64.wrap (1 + v0) = (f 0).i) (hx : (f 0).xs = []) (hn : n ≤ 10)
    (hi : ∀ j, j ≤ n → (f j).i = (n : Int) - j) (hl : ∀ j, j ≤ n → (f j).xs.length ≤ 100000) (hr : ∀ j, j < n → Rnd d k (f j) (f (j + 1))) : BlkC d k a m (f n).a (f n).m (f n).xs := by
  unfold NxC at k0
  refine Con.evPK [(10, [888888, 7]), (1000109, [109])] 129 [500000] rfl T_ok mix Try.func135 rfl rfl rfl rfl [.tmp 6] rfl ?_
  conv => whnf
  (refine rq_s (by (rfl)) ?_; conv => whnf)
  (refine handp_s 93 [some 3, none] ?_; conv => whnf)
  iterate 2 (refine rq_s (by (rfl)) ?_; conv => whnf)
  (focus (apply callpe_s (f := 93); (· repeat' (first | (refine sub_all ?_; simp [List.length_map]; done) | exact sub_map _ _ _ _ | apply cons_eq | apply obj_eq | apply agg_eq | apply own_eq | apply ro_eq | apply rp_eq | apply fnc_eq | rfl)); refine callp_s (f := 93) rfl (k0 ..) ?_; conv => whnf))
  (refine fac_s (fun hf => ?_); conv => whnf)
  rotate_left
  refine LoopG.bearT 7 101 zT rfl rfl ?_
  refine LoopG.auto (α := Nat) T_ok mix [0, 1, 2, 7, 8] (fun j => [(0, .ptr 500000 0 0), (1, .int .i64 86), (2, .int .i64 k), (7, .ref 2 0 (f j).xs.length), (8, .int .i64 (f j).i)]) (fun j => [(500000, .live ⟨false, 0, [.undef, .undef, .undef], [srcC d (f j).a (f j).m]⟩), (2, .live ⟨true, 0, zT, (f j).xs.map itR⟩)]) (fun j => j ≤ n) (fun j => n - j) ?_ ?_
  · conv => whnf
    (refine ChkS.mk (by kernel_rfl) ?_; conv => whnf)
    rotate_left
    exact head_s 0 (by omega) (by rw [hx, hv]; rfl) (by rw [hx]; rfl)
  · intro j hj _ _
    have hij := hi j hj
    have hlj := hl j hj
    by_cases hjn : j = n
    · subst hjn
      have hb0 : decide ((f j).i > 0) = false := by rw [hij]; simp
      conv => whnf
      (refine br_f (by assumption) ?_; conv => whnf)
      (refine rq_s (by ((simp only [decide_eq_true_eq, List.length_map]; done))) ?_; conv => whnf)
      (refine rq_s (by (rfl)) ?_; conv => whnf)
      (refine rows_s (by ((refine sub_all ?_; simp [List.length_map]; done))) ?_; conv => whnf)
      (refine aftp_s (by rfl) ?_; conv => whnf)
      (refine rows_s (by (rfl)) ?_; conv => whnf)
      (refine aftp_s (by rfl) ?_; conv => whnf)
      exact True.intro
    · have hb0 : decide ((f j).i > 0) = true := by rw [hij]; simp; omega
      have hx := hr j (by omega)
      have hi1 : IntKind.i64.wrap ((f j).i - 1) = (f (j + 1)).i := by rw [hi (j + 1) (by omega), hij, wrap64 (by omega) (by omega)]; omega
      have hl1 := hl (j + 1) (by omega)
      generalize h1 : f j = s1 at *
      generalize h2 : f (j + 1) = s2 at *
      cases hx with
      | @z i' a' m' a1 m1 xs x hk c1 =>
        simp only at hij hlj hb0 hl1 hi1
        conv => whnf
        iterate 2 (refine br_t (by assumption) ?_; conv => whnf)
        iterate 4 (refine br_t rfl ?_; conv => whnf)
        (refine handp_s 150 [some 3, none] ?_; conv => whnf)
        iterate 2 (refine rq_s (by (rfl)) ?_; conv => whnf)
        (focus (apply callpe_s (f := 150); (· repeat' (first | (refine sub_all ?_; simp [List.length_map]; done) | exact sub_map _ _ _ _ | apply cons_eq | apply obj_eq | apply agg_eq | apply own_eq | apply ro_eq | apply rp_eq | apply fnc_eq | rfl)); refine callp_s (f := 150) rfl (c1 ..) ?_; conv => whnf))
        iterate 2 (refine fac_s (fun hf => ?_); conv => whnf)
        (refine rq_s (by (rfl)) ?_; conv => whnf)
        (refine br_s (fun hb => ?_) (fun hb => ?_) <;> (try simp only [beq_iff_eq, bne_iff_ne, ne_eq, decide_eq_true_eq, decide_eq_false_iff_not, Int.not_lt, Int.not_le, Bool.false_eq_true, if_false, if_true, beq_eq_false_iff_ne, bne_eq_false_iff_eq, Bool.not_eq_true', Bool.not_eq_false', Int.ofNat_lt, Int.ofNat_le, Int.ofNat_inj, List.length_map, List.length_nil, List.length_cons] at hb) <;> conv => whnf)
        (refine rq_s (by (rfl)) ?_; conv => whnf)
        iterate 2 (refine br_t rfl ?_; conv => whnf)
        iterate 3 (refine rq_s (by (rfl)) ?_; conv => whnf)
        (refine lend_s ?_; conv => whnf)
        (refine call_s (c54 ..) ?_; conv => whnf)
        (refine br_s (fun hb => ?_) (fun hb => ?_) <;> (try simp only [beq_iff_eq, bne_iff_ne, ne_eq, decide_eq_true_eq, decide_eq_false_iff_not, Int.not_lt, Int.not_le, Bool.false_eq_true, if_false, if_true, beq_eq_false_iff_ne, bne_eq_false_iff_eq, Bool.not_eq_true', Bool.not_eq_false', Int.ofNat_lt, Int.ofNat_le, Int.ofNat_inj, List.length_map, List.length_nil, List.length_cons] at hb) <;> conv => whnf)
        iterate 2 (refine rq_s (by (rfl)) ?_; conv => whnf)
        (refine rq_s (by ((simp only [decide_eq_true_eq, List.length_map]; done))) ?_; conv => whnf)
        iterate 2 (refine rq_s (by (rfl)) ?_; conv => whnf)
        (refine rq_s (by ((simp only [decide_eq_true_eq, List.length_map]; done))) ?_; conv => whnf)
        (refine rq_s (by (((refine and_s rfl ?_; simp [maxBytes, subA]; omega)))) ?_; conv => whnf)
        (refine appf_s itR (y := clampF x) (by simp_all [clampF, itR]) ?_; conv => whnf)
        (refine ChkS.mk (by kernel_rfl) ?_; conv => whnf)
        rotate_left
        (refine rq_s (by (rfl)) ?_; conv => whnf)
        (refine rq_s (by ((simp only [decide_eq_true_eq, List.length_map]; done))) ?_; conv => whnf)
        iterate 2 (refine rq_s (by (rfl)) ?_; conv => whnf)
        (refine rq_s (by ((simp only [decide_eq_true_eq, List.length_map]; done))) ?_; conv => whnf)
        (refine rq_s (by (((refine and_s rfl ?_; simp [maxBytes, subA]; omega)))) ?_; conv => whnf)
        (refine appf_s itR (y := clampF x) (by simp_all [clampF, itR]) ?_; conv => whnf)
        (refine ChkS.mk (by kernel_rfl) ?_; conv => whnf)
        rotate_left
        iterate 4 (refine br_f rfl ?_; conv => whnf)
        (refine rq_s (by (rfl)) ?_; conv => whnf)
        (refine rq_s (by ((simp only [decide_eq_true_eq, List.length_map]; done))) ?_; conv => whnf)
        iterate 2 (refine rq_s (by (rfl)) ?_; conv => whnf)
        (refine rq_s (by ((simp only [decide_eq_true_eq, List.length_map]; done))) ?_; conv => whnf)
        (refine rq_s (by (((refine and_s rfl ?_; simp [maxBytes, subA]; omega)))) ?_; conv => whnf)
        (refine appf_s itR (y := clampF x) (by simp_all [clampF, itR]) ?_; conv => whnf)
        (refine ChkS.mk (by kernel_rfl) ?_; conv => whnf)
        rotate_left
        all_goals exact head_s (j + 1) ⟨by omega, by omega⟩ (by simp only [h2, hi1, List.length_map]; first | done | rfl) (by simp only [h2]; rfl)
      | @f i' a' m' a1 m1 a2 m2 xs x hk c1 c2 =>
        simp only at hij hlj hb0 hl1 hi1
        conv => whnf
        (refine br_t (by assumption) ?_; conv => whnf)
        (refine br_f (by assumption) ?_; conv => whnf)
        (refine br_f rfl ?_; conv => whnf)
        (refine handp_s 91 [some 3, none] ?_; conv => whnf)
        iterate 2 (refine rq_s (by (rfl)) ?_; conv => whnf)
        (focus (apply callpe_s (f := 91); (· repeat' (first | (refine sub_all ?_; simp [List.length_map]; done) | exact sub_map _ _ _ _ | apply cons_eq | apply obj_eq | apply agg_eq | apply own_eq | apply ro_eq | apply rp_eq | apply fnc_eq | rfl)); refine callp_s (f := 91) rfl (c1 ..) ?_; conv => whnf))
        (refine br_f rfl ?_; conv => whnf)
        (refine br_t rfl ?_; conv => whnf)
        (refine handp_s 150 [some 3, none] ?_; conv => whnf)
        iterate 2 (refine rq_s (by (rfl)) ?_; conv => whnf)
        (focus (apply callpe_s (f := 150); (· repeat' (first | (refine sub_all ?_; simp [List.length_map]; done) | exact sub_map _ _ _ _ | apply cons_eq | apply obj_eq | apply agg_eq | apply own_eq | apply ro_eq | apply rp_eq | apply fnc_eq | rfl)); refine callp_s (f := 150) rfl (c2 ..) ?_; conv => whnf))
        iterate 2 (refine fac_s (fun hf => ?_); conv => whnf)
        (refine rq_s (by (rfl)) ?_; conv => whnf)
        (refine br_s (fun hb => ?_) (fun hb => ?_) <;> (try simp only [beq_iff_eq, bne_iff_ne, ne_eq, decide_eq_true_eq, decide_eq_false_iff_not, Int.not_lt, Int.not_le, Bool.false_eq_true, if_false, if_true, beq_eq_false_iff_ne, bne_eq_false_iff_eq, Bool.not_eq_true', Bool.not_eq_false', Int.ofNat_lt, Int.ofNat_le, Int.ofNat_inj, List.length_map, List.length_nil, List.length_cons] at hb) <;> conv => whnf)
        (refine rq_s (by (rfl)) ?_; conv => whnf)
        iterate 2 (refine br_t rfl ?_; conv => whnf)
        iterate 3 (refine rq_s (by (rfl)) ?_; conv => whnf)
        (refine lend_s ?_; conv => whnf)
        (refine call_s (c54 ..) ?_; conv => whnf)
        (refine br_s (fun hb => ?_) (fun hb => ?_) <;> (try simp only [beq_iff_eq, bne_iff_ne, ne_eq, decide_eq_true_eq, decide_eq_false_iff_not, Int.not_lt, Int.not_le, Bool.false_eq_true, if_false, if_true, beq_eq_false_iff_ne, bne_eq_false_iff_eq, Bool.not_eq_true', Bool.not_eq_false', Int.ofNat_lt, Int.ofNat_le, Int.ofNat_inj, List.length_map, List.length_nil, List.length_cons] at hb) <;> conv => whnf)
        iterate 2 (refine rq_s (by (rfl)) ?_; conv => whnf)
        (refine rq_s (by ((simp only [decide_eq_true_eq, List.length_map]; done))) ?_; conv => whnf)
        iterate 2 (refine rq_s (by (rfl)) ?_; conv => whnf)
        (refine rq_s (by ((simp only [decide_eq_true_eq, List.length_map]; done))) ?_; conv => whnf)
        (refine rq_s (by (((refine and_s rfl ?_; simp [maxBytes, subA]; omega)))) ?_; conv => whnf)
        (refine appf_s itR (y := clampF x) (by simp_all [clampF, itR]) ?_; conv => whnf)
        (refine ChkS.mk (by kernel_rfl) ?_; conv => whnf)
        rotate_left
        (refine rq_s (by (rfl)) ?_; conv => whnf)
        (refine rq_s (by ((simp only [decide_eq_true_eq, List.length_map]; done))) ?_; conv => whnf)
        iterate 2 (refine rq_s (by (rfl)) ?_; conv => whnf)
        (refine rq_s (by ((simp only [decide_eq_true_eq, List.length_map]; done))) ?_; conv => whnf)
        (refine rq_s (by (((refine and_s rfl ?_; simp [maxBytes, subA]; omega)))) ?_; conv => whnf)
        (refine appf_s itR (y := clampF x) (by simp_all [clampF, itR]) ?_; conv => whnf)
        (refine ChkS.mk (by kernel_rfl) ?_; conv => whnf)
        rotate_left
        iterate 4 (refine br_f rfl ?_; conv => whnf)
        (refine rq_s (by (rfl)) ?_; conv => whnf)
        (refine rq_s (by ((simp only [decide_eq_true_eq, List.length_map]; done))) ?_; conv => whnf)
        iterate 2 (refine rq_s (by (rfl)) ?_; conv => whnf)
        (refine rq_s (by ((simp only [decide_eq_true_eq, List.length_map]; done))) ?_; conv => whnf)
        (refine rq_s (by (((refine and_s rfl ?_; simp [maxBytes, subA]; omega)))) ?_; conv => whnf)
        (refine appf_s itR (y := clampF x) (by simp_all [clampF, itR]) ?_; conv => whnf)
        (refine ChkS.mk (by kernel_rfl) ?_; conv => whnf)
        rotate_left
        all_goals exact head_s (j + 1) ⟨by omega, by omega⟩ (by simp only [h2, hi1, List.length_map]; first | done | rfl) (by simp only [h2]; rfl)
      | @c0 i' a' m' a1 m1 a2 m2 a3 m3 xs ys hk c1 c2 c3 hl =>
        simp only at hij hlj hb0 hl1 hi1
        conv => whnf
        (refine br_t (by assumption) ?_; conv => whnf)
        (refine br_f (by assumption) ?_; conv => whnf)
        (refine br_f rfl ?_; conv => whnf)
        (refine handp_s 91 [some 3, none] ?_; conv => whnf)
        iterate 2 (refine rq_s (by (rfl)) ?_; conv => whnf)
        (focus (apply callpe_s (f := 91); (· repeat' (first | (refine sub_all ?_; simp [List.length_map]; done) | exact sub_map _ _ _ _ | apply cons_eq | apply obj_eq | apply agg_eq | apply own_eq | apply ro_eq | apply rp_eq | apply fnc_eq | rfl)); refine callp_s (f := 91) rfl (c1 ..) ?_; conv => whnf))
        iterate 2 (refine br_f rfl ?_; conv => whnf)
        (refine handp_s 93 [some 3, none] ?_; conv => whnf)
        iterate 2 (refine rq_s (by (rfl)) ?_; conv => whnf)
        (focus (apply callpe_s (f := 93); (· repeat' (first | (refine sub_all ?_; simp [List.length_map]; done) | exact sub_map _ _ _ _ | apply cons_eq | apply obj_eq | apply agg_eq | apply own_eq | apply ro_eq | apply rp_eq | apply fnc_eq | rfl)); refine callp_s (f := 93) rfl (c2 ..) ?_; conv => whnf))
        (refine fac_s (fun hf => ?_); conv => whnf)
        (refine rows_s (by ((refine sub_all ?_; simp [List.length_map]; done))) ?_; conv => whnf)
        (refine br_t rfl ?_; conv => whnf)
        (refine rq_s (by (rfl)) ?_; conv => whnf)
        (refine lend_s ?_; conv => whnf)
        (refine call_s (cIt ..) ?_; conv => whnf)
        (refine handp_s 135 [some 3, none, none] ?_; conv => whnf)
        iterate 3 (refine rq_s (by (rfl)) ?_; conv => whnf)
        (focus (apply callpe_s (f := 135); (· repeat' (first | (refine sub_all ?_; simp [List.length_map]; done) | exact sub_map _ _ _ _ | apply cons_eq | apply obj_eq | apply agg_eq | apply own_eq | apply ro_eq | apply rp_eq | apply fnc_eq | rfl)); refine callp_s (f := 135) rfl (c3.ro ..) ?_; conv => whnf))
        (refine rq_s (by (rfl)) ?_; conv => whnf)
        (refine lend_s ?_; conv => whnf)
        (refine call_s (cIt ..) ?_; conv => whnf)
        (refine rq_s (by (rfl)) ?_; conv => whnf)
        (refine rq_s (by ((simp only [decide_eq_true_eq, List.length_map]; done))) ?_; conv => whnf)
        (refine rq_s (by (rfl)) ?_; conv => whnf)
        (refine lend_s ?_; conv => whnf)
        (refine rows_s (by ((refine sub_all ?_; simp [List.length_map]; done))) ?_; conv => whnf)
        (refine call_s (c151 [xs, [⟨3, 0⟩], ys, [⟨5, 0⟩]] (by simp) (by simp; omega) ..) ?_; conv => whnf)
        iterate 4 (refine fac_s (fun hf => ?_); conv => whnf)
        (refine ChkS.mk (by kernel_rfl) ?_; conv => whnf)
        rotate_left
        all_goals exact head_s (j + 1) ⟨by omega, by omega⟩ (by simp only [h2, hi1, List.length_map]; first | done | rfl) (by simp only [h2]; rfl)
      | @c1 i' a' m' a1 m1 a2 m2 a3 m3 a4 m4 xs ys zs hk c1 c2 c3 hl c4 hl2 =>
        simp only at hij hlj hb0 hl1 hi1
        conv => whnf
        (refine br_t (by assumption) ?_; conv => whnf)
        (refine br_f (by assumption) ?_; conv => whnf)
        (refine br_f rfl ?_; conv => whnf)
        (refine handp_s 91 [some 3, none] ?_; conv => whnf)
        iterate 2 (refine rq_s (by (rfl)) ?_; conv => whnf)
        (focus (apply callpe_s (f := 91); (· repeat' (first | (refine sub_all ?_; simp [List.length_map]; done) | exact sub_map _ _ _ _ | apply cons_eq | apply obj_eq | apply agg_eq | apply own_eq | apply ro_eq | apply rp_eq | apply fnc_eq | rfl)); refine callp_s (f := 91) rfl (c1 ..) ?_; conv => whnf))
        iterate 2 (refine br_f rfl ?_; conv => whnf)
        (refine handp_s 93 [some 3, none] ?_; conv => whnf)
        iterate 2 (refine rq_s (by (rfl)) ?_; conv => whnf)
        (focus (apply callpe_s (f := 93); (· repeat' (first | (refine sub_all ?_; simp [List.length_map]; done) | exact sub_map _ _ _ _ | apply cons_eq | apply obj_eq | apply agg_eq | apply own_eq | apply ro_eq | apply rp_eq | apply fnc_eq | rfl)); refine callp_s (f := 93) rfl (c2 ..) ?_; conv => whnf))
        (refine fac_s (fun hf => ?_); conv => whnf)
        (refine rows_s (by ((refine sub_all ?_; simp [List.length_map]; done))) ?_; conv => whnf)
        (refine br_f rfl ?_; conv => whnf)
        (refine br_t rfl ?_; conv => whnf)
        (refine rq_s (by (rfl)) ?_; conv => whnf)
        (refine lend_s ?_; conv => whnf)
        (refine call_s (cIt ..) ?_; conv => whnf)
        (refine handp_s 135 [some 3, none, none] ?_; conv => whnf)
        iterate 3 (refine rq_s (by (rfl)) ?_; conv => whnf)
        (focus (apply callpe_s (f := 135); (· repeat' (first | (refine sub_all ?_; simp [List.length_map]; done) | exact sub_map _ _ _ _ | apply cons_eq | apply obj_eq | apply agg_eq | apply own_eq | apply ro_eq | apply rp_eq | apply fnc_eq | rfl)); refine callp_s (f := 135) rfl (c3.ro ..) ?_; conv => whnf))
        (refine rq_s (by (rfl)) ?_; conv => whnf)
        (refine lend_s ?_; conv => whnf)
        (refine call_s (cIt ..) ?_; conv => whnf)
        (refine handp_s 135 [some 3, none, none] ?_; conv => whnf)
        iterate 3 (refine rq_s (by (rfl)) ?_; conv => whnf)
        (focus (apply callpe_s (f := 135); (· repeat' (first | (refine sub_all ?_; simp [List.length_map]; done) | exact sub_map _ _ _ _ | apply cons_eq | apply obj_eq | apply agg_eq | apply own_eq | apply ro_eq | apply rp_eq | apply fnc_eq | rfl)); refine callp_s (f := 135) rfl (c4.ro ..) ?_; conv => whnf))
        (refine rq_s (by (rfl)) ?_; conv => whnf)
        (refine lend_s ?_; conv => whnf)
        (refine call_s (cIt ..) ?_; conv => whnf)
        (refine rq_s (by (rfl)) ?_; conv => whnf)
        (refine rq_s (by ((simp only [decide_eq_true_eq, List.length_map]; done))) ?_; conv => whnf)
        (refine rq_s (by (rfl)) ?_; conv => whnf)
        (refine lend_s ?_; conv => whnf)
        (refine rows_s (by ((refine sub_all ?_; simp [List.length_map]; done))) ?_; conv => whnf)
        (refine call_s (c151 [xs, [⟨3, 0⟩], ys, [⟨4, 0⟩], zs, [⟨5, 0⟩]] (by simp) (by simp; omega) ..) ?_; conv => whnf)
        iterate 6 (refine fac_s (fun hf => ?_); conv => whnf)
        (refine ChkS.mk (by kernel_rfl) ?_; conv => whnf)
        rotate_left
        all_goals exact head_s (j + 1) ⟨by omega, by omega⟩ (by simp only [h2, hi1, List.length_map]; first | done | rfl) (by simp only [h2]; rfl)
      | @c2 i' a' m' a1 m1 a2 m2 a3 m3 a4 m4 v xs ys hk c1 c2 c3 hv c4 hl =>
        simp only at hij hlj hb0 hl1 hi1
        have hlit := cLit (IntKind.i64.wrap (1 + v))
        rw [hv] at hlit
        conv => whnf
        (refine br_t (by assumption) ?_; conv => whnf)
        (refine br_f (by assumption) ?_; conv => whnf)
        (refine br_f rfl ?_; conv => whnf)
        (refine handp_s 91 [some 3, none] ?_; conv => whnf)
        iterate 2 (refine rq_s (by (rfl)) ?_; conv => whnf)
        (focus (apply callpe_s (f := 91); (· repeat' (first | (refine sub_all ?_; simp [List.length_map]; done) | exact sub_map _ _ _ _ | apply cons_eq | apply obj_eq | apply agg_eq | apply own_eq | apply ro_eq | apply rp_eq | apply fnc_eq | rfl)); refine callp_s (f := 91) rfl (c1 ..) ?_; conv => whnf))
        iterate 2 (refine br_f rfl ?_; conv => whnf)
        (refine handp_s 93 [some 3, none] ?_; conv => whnf)
        iterate 2 (refine rq_s (by (rfl)) ?_; conv => whnf)
        (focus (apply callpe_s (f := 93); (· repeat' (first | (refine sub_all ?_; simp [List.length_map]; done) | exact sub_map _ _ _ _ | apply cons_eq | apply obj_eq | apply agg_eq | apply own_eq | apply ro_eq | apply rp_eq | apply fnc_eq | rfl)); refine callp_s (f := 93) rfl (c2 ..) ?_; conv => whnf))
        (refine fac_s (fun hf => ?_); conv => whnf)
        (refine rows_s (by ((refine sub_all ?_; simp [List.length_map]; done))) ?_; conv => whnf)
        iterate 2 (refine br_f rfl ?_; conv => whnf)
        (refine br_t rfl ?_; conv => whnf)
        (refine handp_s 93 [some 3, none] ?_; conv => whnf)
        iterate 2 (refine rq_s (by (rfl)) ?_; conv => whnf)
        (focus (apply callpe_s (f := 93); (· repeat' (first | (refine sub_all ?_; simp [List.length_map]; done) | exact sub_map _ _ _ _ | apply cons_eq | apply obj_eq | apply agg_eq | apply own_eq | apply ro_eq | apply rp_eq | apply fnc_eq | rfl)); refine callp_s (f := 93) rfl (c3 ..) ?_; conv => whnf))
        (refine rq_s (by (rfl)) ?_; conv => whnf)
        (refine lend_s ?_; conv => whnf)
        (refine call_s (cLit ..) ?_; conv => whnf)
        (refine rq_s (by (rfl)) ?_; conv => whnf)
        (refine lend_s ?_; conv => whnf)
        (refine call_s (cIt ..) ?_; conv => whnf)
        (refine rq_s (by (rfl)) ?_; conv => whnf)
        (refine lend_s ?_; conv => whnf)
        (refine call_s (cIt2 ..) ?_; conv => whnf)
        (refine handp_s 135 [some 3, none, none] ?_; conv => whnf)
        iterate 3 (refine rq_s (by (rfl)) ?_; conv => whnf)
        (focus (apply callpe_s (f := 135); (· repeat' (first | (refine sub_all ?_; simp [List.length_map]; done) | exact sub_map _ _ _ _ | apply cons_eq | apply obj_eq | apply agg_eq | apply own_eq | apply ro_eq | apply rp_eq | apply fnc_eq | rfl)); refine callp_s (f := 135) rfl (c4.ro ..) ?_; conv => whnf))
        (refine rq_s (by (rfl)) ?_; conv => whnf)
        (refine lend_s ?_; conv => whnf)
        (refine call_s (cIt2 ..) ?_; conv => whnf)
        (refine rq_s (by (rfl)) ?_; conv => whnf)
        (refine lend_s ?_; conv => whnf)
        (refine call_s (cIt2 ..) ?_; conv => whnf)
        (refine rq_s (by (rfl)) ?_; conv => whnf)
        (refine lend_s ?_; conv => whnf)
        (refine call_s (cIt ..) ?_; conv => whnf)
        (refine rq_s (by (rfl)) ?_; conv => whnf)
        (refine rq_s (by ((simp only [decide_eq_true_eq, List.length_map]; done))) ?_; conv => whnf)
        (refine rq_s (by (rfl)) ?_; conv => whnf)
        (refine lend_s ?_; conv => whnf)
        (refine rows_s (by ((refine sub_all ?_; simp [List.length_map]; done))) ?_; conv => whnf)
        (refine call_s (c151 [xs, [⟨2, IntKind.i64.wrap (1 + v)⟩], [⟨6, 0⟩], [⟨1, 29⟩], ys, [⟨1, 1⟩], [⟨1, 37⟩], [⟨7, 0⟩]] (by simp) (by simp; omega) ..) ?_; conv => whnf)
        iterate 9 (refine fac_s (fun hf => ?_); conv => whnf)
        (refine ChkS.mk (by kernel_rfl) ?_; conv => whnf)
        rotate_left
        all_goals exact head_s (j + 1) ⟨by omega, by omega⟩ (by simp only [h2, hi1, hv, List.length_map]) (by simp only [h2, hv]; rfl)
      | @c3 i' a' m' a1 m1 a2 m2 a3 m3 a4 m4 a5 m5 v u xs ys hk c1 c2 c3 c4 hl c5 hu =>
        simp only at hij hlj hb0 hl1 hi1
        rcases hu with rfl | rfl | rfl
        · conv => whnf
          (refine br_t (by assumption) ?_; conv => whnf)
          (refine br_f (by assumption) ?_; conv => whnf)
          (refine br_f rfl ?_; conv => whnf)
          (refine handp_s 91 [some 3, none] ?_; conv => whnf)
          iterate 2 (refine rq_s (by (rfl)) ?_; conv => whnf)
          (focus (apply callpe_s (f := 91); (· repeat' (first | (refine sub_all ?_; simp [List.length_map]; done) | exact sub_map _ _ _ _ | apply cons_eq | apply obj_eq | apply agg_eq | apply own_eq | apply ro_eq | apply rp_eq | apply fnc_eq | rfl)); refine callp_s (f := 91) rfl (c1 ..) ?_; conv => whnf))
          iterate 2 (refine br_f rfl ?_; conv => whnf)
          (refine handp_s 93 [some 3, none] ?_; conv => whnf)
          iterate 2 (refine rq_s (by (rfl)) ?_; conv => whnf)
          (focus (apply callpe_s (f := 93); (· repeat' (first | (refine sub_all ?_; simp [List.length_map]; done) | exact sub_map _ _ _ _ | apply cons_eq | apply obj_eq | apply agg_eq | apply own_eq | apply ro_eq | apply rp_eq | apply fnc_eq | rfl)); refine callp_s (f := 93) rfl (c2 ..) ?_; conv => whnf))
          (refine fac_s (fun hf => ?_); conv => whnf)
          (refine rows_s (by ((refine sub_all ?_; simp [List.length_map]; done))) ?_; conv => whnf)
          iterate 3 (refine br_f rfl ?_; conv => whnf)
          (refine br_t rfl ?_; conv => whnf)
          (refine handp_s 93 [some 3, none] ?_; conv => whnf)
          iterate 2 (refine rq_s (by (rfl)) ?_; conv => whnf)
          (focus (apply callpe_s (f := 93); (· repeat' (first | (refine sub_all ?_; simp [List.length_map]; done) | exact sub_map _ _ _ _ | apply cons_eq | apply obj_eq | apply agg_eq | apply own_eq | apply ro_eq | apply rp_eq | apply fnc_eq | rfl)); refine callp_s (f := 93) rfl (c3 ..) ?_; conv => whnf))
          (refine rq_s (by (rfl)) ?_; conv => whnf)
          (refine lend_s ?_; conv => whnf)
          (refine call_s (cLit ..) ?_; conv => whnf)
          (refine rq_s (by (rfl)) ?_; conv => whnf)
          (refine lend_s ?_; conv => whnf)
          (refine call_s (cLit ..) ?_; conv => whnf)
          (refine rq_s (by (rfl)) ?_; conv => whnf)
          (refine lend_s ?_; conv => whnf)
          (refine call_s (cIt ..) ?_; conv => whnf)
          (refine handp_s 135 [some 3, none, none] ?_; conv => whnf)
          iterate 3 (refine rq_s (by (rfl)) ?_; conv => whnf)
          (focus (apply callpe_s (f := 135); (· repeat' (first | (refine sub_all ?_; simp [List.length_map]; done) | exact sub_map _ _ _ _ | apply cons_eq | apply obj_eq | apply agg_eq | apply own_eq | apply ro_eq | apply rp_eq | apply fnc_eq | rfl)); refine callp_s (f := 135) rfl (c4.ro ..) ?_; conv => whnf))
          (refine rq_s (by (rfl)) ?_; conv => whnf)
          (refine handp_s 93 [some 3, none] ?_; conv => whnf)
          iterate 2 (refine rq_s (by (rfl)) ?_; conv => whnf)
          (focus (apply callpe_s (f := 93); (· repeat' (first | (refine sub_all ?_; simp [List.length_map]; done) | exact sub_map _ _ _ _ | apply cons_eq | apply obj_eq | apply agg_eq | apply own_eq | apply ro_eq | apply rp_eq | apply fnc_eq | rfl)); refine callp_s (f := 93) rfl (c5 ..) ?_; conv => whnf))
          (refine rq_s (by (rfl)) ?_; conv => whnf)
          (refine rq_s (by ((simp only [decide_eq_true_eq, List.length_map]; done))) ?_; conv => whnf)
          (refine rq_s (by (rfl)) ?_; conv => whnf)
          (refine row_s (by (rfl)) ?_; conv => whnf)
          iterate 2 (refine rq_s (by (rfl)) ?_; conv => whnf)
          (refine rows_s (by ((refine sub_all ?_; simp [List.length_map]; done))) ?_; conv => whnf)
          (refine rq_s (by (rfl)) ?_; conv => whnf)
          (refine rq_s (by ((simp only [decide_eq_true_eq, List.length_map]; done))) ?_; conv => whnf)
          (refine rq_s (by (rfl)) ?_; conv => whnf)
          (refine lend_s ?_; conv => whnf)
          (refine rows_s (by ((refine sub_all ?_; simp [List.length_map]; done))) ?_; conv => whnf)
          (refine call_s (c151 [xs, [⟨2, v⟩], [⟨2, 0⟩], [⟨10, 0⟩], ys, [⟨11, 0⟩]] (by simp) (by simp; omega) ..) ?_; conv => whnf)
          iterate 7 (refine fac_s (fun hf => ?_); conv => whnf)
          (refine ChkS.mk (by kernel_rfl) ?_; conv => whnf)
          rotate_left
          all_goals exact head_s (j + 1) ⟨by omega, by omega⟩ (by simp only [h2, hi1, List.length_map]; first | done | rfl) (by simp only [h2]; rfl)
        · conv => whnf
          (refine br_t (by assumption) ?_; conv => whnf)
          (refine br_f (by assumption) ?_; conv => whnf)
          (refine br_f rfl ?_; conv => whnf)
          (refine handp_s 91 [some 3, none] ?_; conv => whnf)
          iterate 2 (refine rq_s (by (rfl)) ?_; conv => whnf)
          (focus (apply callpe_s (f := 91); (· repeat' (first | (refine sub_all ?_; simp [List.length_map]; done) | exact sub_map _ _ _ _ | apply cons_eq | apply obj_eq | apply agg_eq | apply own_eq | apply ro_eq | apply rp_eq | apply fnc_eq | rfl)); refine callp_s (f := 91) rfl (c1 ..) ?_; conv => whnf))
          iterate 2 (refine br_f rfl ?_; conv => whnf)
          (refine handp_s 93 [some 3, none] ?_; conv => whnf)
          iterate 2 (refine rq_s (by (rfl)) ?_; conv => whnf)
          (focus (apply callpe_s (f := 93); (· repeat' (first | (refine sub_all ?_; simp [List.length_map]; done) | exact sub_map _ _ _ _ | apply cons_eq | apply obj_eq | apply agg_eq | apply own_eq | apply ro_eq | apply rp_eq | apply fnc_eq | rfl)); refine callp_s (f := 93) rfl (c2 ..) ?_; conv => whnf))
          (refine fac_s (fun hf => ?_); conv => whnf)
          (refine rows_s (by ((refine sub_all ?_; simp [List.length_map]; done))) ?_; conv => whnf)
          iterate 3 (refine br_f rfl ?_; conv => whnf)
          (refine br_t rfl ?_; conv => whnf)
          (refine handp_s 93 [some 3, none] ?_; conv => whnf)
          iterate 2 (refine rq_s (by (rfl)) ?_; conv => whnf)
          (focus (apply callpe_s (f := 93); (· repeat' (first | (refine sub_all ?_; simp [List.length_map]; done) | exact sub_map _ _ _ _ | apply cons_eq | apply obj_eq | apply agg_eq | apply own_eq | apply ro_eq | apply rp_eq | apply fnc_eq | rfl)); refine callp_s (f := 93) rfl (c3 ..) ?_; conv => whnf))
          (refine rq_s (by (rfl)) ?_; conv => whnf)
          (refine lend_s ?_; conv => whnf)
          (refine call_s (cLit ..) ?_; conv => whnf)
          (refine rq_s (by (rfl)) ?_; conv => whnf)
          (refine lend_s ?_; conv => whnf)
          (refine call_s (cLit ..) ?_; conv => whnf)
          (refine rq_s (by (rfl)) ?_; conv => whnf)
          (refine lend_s ?_; conv => whnf)
          (refine call_s (cIt ..) ?_; conv => whnf)
          (refine handp_s 135 [some 3, none, none] ?_; conv => whnf)
          iterate 3 (refine rq_s (by (rfl)) ?_; conv => whnf)
          (focus (apply callpe_s (f := 135); (· repeat' (first | (refine sub_all ?_; simp [List.length_map]; done) | exact sub_map _ _ _ _ | apply cons_eq | apply obj_eq | apply agg_eq | apply own_eq | apply ro_eq | apply rp_eq | apply fnc_eq | rfl)); refine callp_s (f := 135) rfl (c4.ro ..) ?_; conv => whnf))
          (refine rq_s (by (rfl)) ?_; conv => whnf)
          (refine handp_s 93 [some 3, none] ?_; conv => whnf)
          iterate 2 (refine rq_s (by (rfl)) ?_; conv => whnf)
          (focus (apply callpe_s (f := 93); (· repeat' (first | (refine sub_all ?_; simp [List.length_map]; done) | exact sub_map _ _ _ _ | apply cons_eq | apply obj_eq | apply agg_eq | apply own_eq | apply ro_eq | apply rp_eq | apply fnc_eq | rfl)); refine callp_s (f := 93) rfl (c5 ..) ?_; conv => whnf))
          (refine rq_s (by (rfl)) ?_; conv => whnf)
          (refine rq_s (by ((simp only [decide_eq_true_eq, List.length_map]; done))) ?_; conv => whnf)
          (refine rq_s (by (rfl)) ?_; conv => whnf)
          (refine row_s (by (rfl)) ?_; conv => whnf)
          iterate 2 (refine rq_s (by (rfl)) ?_; conv => whnf)
          (refine rows_s (by ((refine sub_all ?_; simp [List.length_map]; done))) ?_; conv => whnf)
          (refine rq_s (by (rfl)) ?_; conv => whnf)
          (refine rq_s (by ((simp only [decide_eq_true_eq, List.length_map]; done))) ?_; conv => whnf)
          (refine rq_s (by (rfl)) ?_; conv => whnf)
          (refine lend_s ?_; conv => whnf)
          (refine rows_s (by ((refine sub_all ?_; simp [List.length_map]; done))) ?_; conv => whnf)
          (refine call_s (c151 [xs, [⟨2, v⟩], [⟨2, 0⟩], [⟨10, 0⟩], ys, [⟨11, 0⟩]] (by simp) (by simp; omega) ..) ?_; conv => whnf)
          iterate 7 (refine fac_s (fun hf => ?_); conv => whnf)
          (refine ChkS.mk (by kernel_rfl) ?_; conv => whnf)
          rotate_left
          all_goals exact head_s (j + 1) ⟨by omega, by omega⟩ (by simp only [h2, hi1, List.length_map]; first | done | rfl) (by simp only [h2]; rfl)
        · conv => whnf
          (refine br_t (by assumption) ?_; conv => whnf)
          (refine br_f (by assumption) ?_; conv => whnf)
          (refine br_f rfl ?_; conv => whnf)
          (refine handp_s 91 [some 3, none] ?_; conv => whnf)
          iterate 2 (refine rq_s (by (rfl)) ?_; conv => whnf)
          (focus (apply callpe_s (f := 91); (· repeat' (first | (refine sub_all ?_; simp [List.length_map]; done) | exact sub_map _ _ _ _ | apply cons_eq | apply obj_eq | apply agg_eq | apply own_eq | apply ro_eq | apply rp_eq | apply fnc_eq | rfl)); refine callp_s (f := 91) rfl (c1 ..) ?_; conv => whnf))
          iterate 2 (refine br_f rfl ?_; conv => whnf)
          (refine handp_s 93 [some 3, none] ?_; conv => whnf)
          iterate 2 (refine rq_s (by (rfl)) ?_; conv => whnf)
          (focus (apply callpe_s (f := 93); (· repeat' (first | (refine sub_all ?_; simp [List.length_map]; done) | exact sub_map _ _ _ _ | apply cons_eq | apply obj_eq | apply agg_eq | apply own_eq | apply ro_eq | apply rp_eq | apply fnc_eq | rfl)); refine callp_s (f := 93) rfl (c2 ..) ?_; conv => whnf))
          (refine fac_s (fun hf => ?_); conv => whnf)
          (refine rows_s (by ((refine sub_all ?_; simp [List.length_map]; done))) ?_; conv => whnf)
          iterate 3 (refine br_f rfl ?_; conv => whnf)
          (refine br_t rfl ?_; conv => whnf)
          (refine handp_s 93 [some 3, none] ?_; conv => whnf)
          iterate 2 (refine rq_s (by (rfl)) ?_; conv => whnf)
          (focus (apply callpe_s (f := 93); (· repeat' (first | (refine sub_all ?_; simp [List.length_map]; done) | exact sub_map _ _ _ _ | apply cons_eq | apply obj_eq | apply agg_eq | apply own_eq | apply ro_eq | apply rp_eq | apply fnc_eq | rfl)); refine callp_s (f := 93) rfl (c3 ..) ?_; conv => whnf))
          (refine rq_s (by (rfl)) ?_; conv => whnf)
          (refine lend_s ?_; conv => whnf)
          (refine call_s (cLit ..) ?_; conv => whnf)
          (refine rq_s (by (rfl)) ?_; conv => whnf)
          (refine lend_s ?_; conv => whnf)
          (refine call_s (cLit ..) ?_; conv => whnf)
          (refine rq_s (by (rfl)) ?_; conv => whnf)
          (refine lend_s ?_; conv => whnf)
          (refine call_s (cIt ..) ?_; conv => whnf)
          (refine handp_s 135 [some 3, none, none] ?_; conv => whnf)
          iterate 3 (refine rq_s (by (rfl)) ?_; conv => whnf)
          (focus (apply callpe_s (f := 135); (· repeat' (first | (refine sub_all ?_; simp [List.length_map]; done) | exact sub_map _ _ _ _ | apply cons_eq | apply obj_eq | apply agg_eq | apply own_eq | apply ro_eq | apply rp_eq | apply fnc_eq | rfl)); refine callp_s (f := 135) rfl (c4.ro ..) ?_; conv => whnf))
          (refine rq_s (by (rfl)) ?_; conv => whnf)
          (refine handp_s 93 [some 3, none] ?_; conv => whnf)
          iterate 2 (refine rq_s (by (rfl)) ?_; conv => whnf)
          (focus (apply callpe_s (f := 93); (· repeat' (first | (refine sub_all ?_; simp [List.length_map]; done) | exact sub_map _ _ _ _ | apply cons_eq | apply obj_eq | apply agg_eq | apply own_eq | apply ro_eq | apply rp_eq | apply fnc_eq | rfl)); refine callp_s (f := 93) rfl (c5 ..) ?_; conv => whnf))
          (refine rq_s (by (rfl)) ?_; conv => whnf)
          (refine rq_s (by ((simp only [decide_eq_true_eq, List.length_map]; done))) ?_; conv => whnf)
          (refine rq_s (by (rfl)) ?_; conv => whnf)
          (refine row_s (by (rfl)) ?_; conv => whnf)
          iterate 2 (refine rq_s (by (rfl)) ?_; conv => whnf)
          (refine rows_s (by ((refine sub_all ?_; simp [List.length_map]; done))) ?_; conv => whnf)
          (refine rq_s (by (rfl)) ?_; conv => whnf)
          (refine rq_s (by ((simp only [decide_eq_true_eq, List.length_map]; done))) ?_; conv => whnf)
          (refine rq_s (by (rfl)) ?_; conv => whnf)
          (refine lend_s ?_; conv => whnf)
          (refine rows_s (by ((refine sub_all ?_; simp [List.length_map]; done))) ?_; conv => whnf)
          (refine call_s (c151 [xs, [⟨2, v⟩], [⟨2, 0⟩], [⟨10, 0⟩], ys, [⟨12, 0⟩]] (by simp) (by simp; omega) ..) ?_; conv => whnf)
          iterate 7 (refine fac_s (fun hf => ?_); conv => whnf)
          (refine ChkS.mk (by kernel_rfl) ?_; conv => whnf)
          rotate_left
          all_goals exact head_s (j + 1) ⟨by omega, by omega⟩ (by simp only [h2, hi1, List.length_map]; first | done | rfl) (by simp only [h2]; rfl)
      | @c4 i' a' m' a1 m1 a2 m2 a3 m3 a4 m4 xs ys zs hk c1 c2 c3 hl c4 hl2 =>
        simp only at hij hlj hb0 hl1 hi1
        conv => whnf
        (refine br_t (by assumption) ?_; conv => whnf)
        (refine br_f (by assumption) ?_; conv => whnf)
        (refine br_f rfl ?_; conv => whnf)
        (refine handp_s 91 [some 3, none] ?_; conv => whnf)
        iterate 2 (refine rq_s (by (rfl)) ?_; conv => whnf)
        (focus (apply callpe_s (f := 91); (· repeat' (first | (refine sub_all ?_; simp [List.length_map]; done) | exact sub_map _ _ _ _ | apply cons_eq | apply obj_eq | apply agg_eq | apply own_eq | apply ro_eq | apply rp_eq | apply fnc_eq | rfl)); refine callp_s (f := 91) rfl (c1 ..) ?_; conv => whnf))
        iterate 2 (refine br_f rfl ?_; conv => whnf)
        (refine handp_s 93 [some 3, none] ?_; conv => whnf)
        iterate 2 (refine rq_s (by (rfl)) ?_; conv => whnf)
        (focus (apply callpe_s (f := 93); (· repeat' (first | (refine sub_all ?_; simp [List.length_map]; done) | exact sub_map _ _ _ _ | apply cons_eq | apply obj_eq | apply agg_eq | apply own_eq | apply ro_eq | apply rp_eq | apply fnc_eq | rfl)); refine callp_s (f := 93) rfl (c2 ..) ?_; conv => whnf))
        (refine fac_s (fun hf => ?_); conv => whnf)
        (refine rows_s (by ((refine sub_all ?_; simp [List.length_map]; done))) ?_; conv => whnf)
        iterate 4 (refine br_f rfl ?_; conv => whnf)
        (refine br_t rfl ?_; conv => whnf)
        (refine rq_s (by (rfl)) ?_; conv => whnf)
        (refine lend_s ?_; conv => whnf)
        (refine call_s (cIt ..) ?_; conv => whnf)
        (refine handp_s 135 [some 3, none, none] ?_; conv => whnf)
        iterate 3 (refine rq_s (by (rfl)) ?_; conv => whnf)
        (focus (apply callpe_s (f := 135); (· repeat' (first | (refine sub_all ?_; simp [List.length_map]; done) | exact sub_map _ _ _ _ | apply cons_eq | apply obj_eq | apply agg_eq | apply own_eq | apply ro_eq | apply rp_eq | apply fnc_eq | rfl)); refine callp_s (f := 135) rfl (c3.ro ..) ?_; conv => whnf))
        (refine rq_s (by (rfl)) ?_; conv => whnf)
        (refine lend_s ?_; conv => whnf)
        (refine call_s (cIt ..) ?_; conv => whnf)
        (refine handp_s 135 [some 3, none, none] ?_; conv => whnf)
        iterate 3 (refine rq_s (by (rfl)) ?_; conv => whnf)
        (focus (apply callpe_s (f := 135); (· repeat' (first | (refine sub_all ?_; simp [List.length_map]; done) | exact sub_map _ _ _ _ | apply cons_eq | apply obj_eq | apply agg_eq | apply own_eq | apply ro_eq | apply rp_eq | apply fnc_eq | rfl)); refine callp_s (f := 135) rfl (c4.ro ..) ?_; conv => whnf))
        (refine rq_s (by (rfl)) ?_; conv => whnf)
        (refine lend_s ?_; conv => whnf)
        (refine call_s (cIt ..) ?_; conv => whnf)
        (refine rq_s (by (rfl)) ?_; conv => whnf)
        (refine rq_s (by ((simp only [decide_eq_true_eq, List.length_map]; done))) ?_; conv => whnf)
        (refine rq_s (by (rfl)) ?_; conv => whnf)
        (refine lend_s ?_; conv => whnf)
        (refine rows_s (by ((refine sub_all ?_; simp [List.length_map]; done))) ?_; conv => whnf)
        (refine call_s (c151 [xs, [⟨6, 0⟩], ys, [⟨8, 0⟩], zs, [⟨9, 0⟩]] (by simp) (by simp; omega) ..) ?_; conv => whnf)
        iterate 6 (refine fac_s (fun hf => ?_); conv => whnf)
        (refine ChkS.mk (by kernel_rfl) ?_; conv => whnf)
        rotate_left
        all_goals exact head_s (j + 1) ⟨by omega, by omega⟩ (by simp only [h2, hi1, List.length_map]; first | done | rfl) (by simp only [h2]; rfl)
end S6
