import Derived.Test.YtdbjklhadnnbdaaItH
import Derived.Test.YtdbjklhadnnbdaaItE
/- The reference's source of data, 9: lists of items that may not fit; contracts. -/
set_option linter.unusedVariables false
set_option linter.unusedSimpArgs false
set_option maxRecDepth 100000
open Go Go.Abs Go.Proofs V1 H1 S1 S2 S3 S4 S5 S6 S7 S8
namespace S9

def AnC (d : List UInt8) (a m a' m' : Int) (xs : List Itm) : Prop := Con Try.prog 84 [srcO d a m] [srcO d a' m'] (ownT xs)
/-- How it ends: the list is perhaps cut. -/
inductive Tl (d : List UInt8) (ys : List Itm) (n : Nat) (a m : Int) : Int → Int → List Itm → Prop
  | short (h : decide ((n : Int) > 60) = false) : Tl d ys n a m a m ys
  | keep {a' m' : Int} (h : decide ((n : Int) > 60) = true) (c : ChC d 4 a m a' m' true) : Tl d ys n a m a' m' ys
  | cut {a' m' : Int} (h : decide ((n : Int) > 60) = true) (c : ChC d 4 a m a' m' false) : Tl d ys n a m a' m' (ys.take 60)
theorem tl_ex (d : List UInt8) (ys : List Itm) (n : Nat) {a m L : Int} (h : SrcOk a m L) (hl : L ≤ 6000000000) : ∃ a' m' zs, Tl d ys n a m a' m' zs ∧ zs.length ≤ ys.length := by
  by_cases hc : decide ((n : Int) > 60) = true
  · obtain ⟨b, a1, m1, k1, h1⟩ := ch d 4 h (by omega)
    cases b with
    | true => exact ⟨_, _, _, .keep hc k1, Nat.le_refl _⟩
    | false => exact ⟨_, _, _, .cut hc k1, by simp; omega⟩
  · exact ⟨_, _, _, .short (by simpa using hc), Nat.le_refl _⟩
def seg {α : Type} (xs : List α) (o n : Nat) : List α := (xs.drop o).take n
theorem seg_le {α : Type} (xs : List α) (o n : Nat) : (seg xs o n).length ≤ xs.length := by simp [seg]; omega
theorem apt_s {α : Type} (f : α → List AV) {xs : List α} {o n lvl l : Nat} {K : Nat → List (List AV) → Nat → Prop} (k : K lvl ((seg xs o n).map f) (seg xs o n).length) :
    AppG lvl (l, subA (xs.map f) o n).snd (l, subA (xs.map f) o n).snd.length K :=
  ⟨_, _, _, rfl, by simp [subA, seg, List.map_take, List.map_drop], by simp [subA, seg], k⟩
theorem apd_s {α : Type} (f : α → List AV) {xs ys : List α} {o n lvl l : Nat} {K : Nat → List (List AV) → Nat → Prop} (k : K lvl ((ys ++ seg xs o n).map f) (ys ++ seg xs o n).length) :
    AppG lvl (subA (ys.map f) 0 ys.length ++ (l, subA (xs.map f) o n).snd) (ys.length + (l, subA (xs.map f) o n).snd.length) K :=
  ⟨_, _, _, rfl, by simp [subA, seg, List.map_take, List.map_drop, List.take_of_length_le], by simp [subA, seg], k⟩


theorem any_0 (d : List UInt8) {xs : List Itm} {a m a1 m1 a2 m2 a3 m3 a4 m4 k v4 : Int} (hx : xs.length ≤ 60) (k1 : ItC d a m a1 m1 xs) (k2 : NxC d (IntKind.i64.wrap ((xs.map itR).length + 1)) a1 m1 a2 m2 k) (p2 : 0 ≤ k) (q2 : k ≤ xs.length)
    (k3 : NxC d 8 a2 m2 a3 m3 0) (k4 : NxC d 11 a3 m3 a4 m4 v4) {a9 m9 : Int} {zs : List Itm}
    (ht : Tl d (seg xs (0 + 0) (k.toNat - 0) ++ [(⟨IntKind.i64.wrap (3 + v4), 0⟩ : Itm)] ++ seg xs (0 + k.toNat) ((xs.map itR).length - k.toNat)) (seg xs (0 + 0) (k.toNat - 0) ++ [(⟨IntKind.i64.wrap (3 + v4), 0⟩ : Itm)] ++ seg xs (0 + k.toNat) ((xs.map itR).length - k.toNat)).length a4 m4 a9 m9 zs) : AnC d a m a9 m9 zs := by
  unfold ItC at k1
  unfold NxC at k2 k3 k4
  rcases ht with ⟨hb⟩ | ⟨hb, c9⟩ | ⟨hb, c9⟩ <;>
  (refine Con.evP 91 [500000] rfl T_ok mix Try.func84 rfl rfl rfl rfl [.tmp 2] rfl ?_
   conv => whnf
   (refine handp_s 87 [some 3, none] ?_; conv => whnf)
   iterate 2 (refine rq_s (by (rfl)) ?_; conv => whnf)
   (focus (apply callpe_s (f := 87); (· repeat' (first | (refine sub_all ?_; simp [List.length_map]; done) | exact sub_map _ _ _ _ | apply cons_eq | apply obj_eq | apply agg_eq | apply own_eq | apply ro_eq | apply rp_eq | apply fnc_eq | rfl)); refine callp_s (f := 87) rfl (k1 ..) ?_; conv => whnf))
   (refine fac_s (fun hf => ?_); conv => whnf)
   (refine handp_s 93 [some 3, none] ?_; conv => whnf)
   iterate 2 (refine rq_s (by (rfl)) ?_; conv => whnf)
   (focus (apply callpe_s (f := 93); (· repeat' (first | (refine sub_all ?_; simp [List.length_map]; done) | exact sub_map _ _ _ _ | apply cons_eq | apply obj_eq | apply agg_eq | apply own_eq | apply ro_eq | apply rp_eq | apply fnc_eq | rfl)); refine callp_s (f := 93) rfl (k2 ..) ?_; conv => whnf))
   (refine fac_s (fun hf => ?_); conv => whnf)
   (refine handp_s 93 [some 3, none] ?_; conv => whnf)
   iterate 2 (refine rq_s (by (rfl)) ?_; conv => whnf)
   (focus (apply callpe_s (f := 93); (· repeat' (first | (refine sub_all ?_; simp [List.length_map]; done) | exact sub_map _ _ _ _ | apply cons_eq | apply obj_eq | apply agg_eq | apply own_eq | apply ro_eq | apply rp_eq | apply fnc_eq | rfl)); refine callp_s (f := 93) rfl (k3 ..) ?_; conv => whnf))
   (refine fac_s (fun hf => ?_); conv => whnf)
   (refine br_t rfl ?_; conv => whnf)
   (refine ChkS.mk (by kernel_rfl) ?_; conv => whnf)
   (refine rq_s (by (rfl)) ?_; conv => whnf)
   iterate 3 (refine ChkS.mk (by kernel_rfl) ?_; conv => whnf)
   (refine rq_s (by ((simp only [Bool.and_eq_true, decide_eq_true_eq, List.length_map]; omega))) ?_; conv => whnf)
   (refine rq_s (by ((refine and_s rfl ?_; simp only [decide_eq_true_eq, List.length_map]; omega))) ?_; conv => whnf)
   (refine rq_s (by ((simp only [decide_eq_true_eq, List.length_map]; done))) ?_; conv => whnf)
   (refine rq_s (by (rfl)) ?_; conv => whnf)
   (refine ChkS.mk (by kernel_rfl) ?_; conv => whnf)
   (refine rq_s (by ((simp only [decide_eq_true_eq, List.length_map]; done))) ?_; conv => whnf)
   iterate 2 (refine rq_s (by (rfl)) ?_; conv => whnf)
   (refine rq_s (by (((first | (simp [maxBytes, subA, seg]; omega) | (refine and_s rfl ?_; simp [maxBytes, subA, seg]; omega) | (have h60 := of_decide_eq_true hb; simp only [Bool.and_eq_true, decide_eq_true_eq]; omega))))) ?_; conv => whnf)
   (refine apt_s itR ?_; conv => whnf)
   iterate 2 (refine ChkS.mk (by kernel_rfl) ?_; conv => whnf)
   (refine handp_s 93 [some 3, none] ?_; conv => whnf)
   iterate 2 (refine rq_s (by (rfl)) ?_; conv => whnf)
   (focus (apply callpe_s (f := 93); (· repeat' (first | (refine sub_all ?_; simp [List.length_map]; done) | exact sub_map _ _ _ _ | apply cons_eq | apply obj_eq | apply agg_eq | apply own_eq | apply ro_eq | apply rp_eq | apply fnc_eq | rfl)); refine callp_s (f := 93) rfl (k4 ..) ?_; conv => whnf))
   iterate 2 (refine ChkS.mk (by kernel_rfl) ?_; conv => whnf)
   (refine rq_s (by (rfl)) ?_; conv => whnf)
   (refine ChkS.mk (by kernel_rfl) ?_; conv => whnf)
   (refine rq_s (by (rfl)) ?_; conv => whnf)
   (refine ChkS.mk (by kernel_rfl) ?_; conv => whnf)
   (refine rq_s (by ((simp only [decide_eq_true_eq, List.length_map]; done))) ?_; conv => whnf)
   iterate 2 (refine rq_s (by (rfl)) ?_; conv => whnf)
   (refine rq_s (by ((simp only [decide_eq_true_eq, List.length_map]; done))) ?_; conv => whnf)
   (refine rq_s (by (((first | (simp [maxBytes, subA, seg]; omega) | (refine and_s rfl ?_; simp [maxBytes, subA, seg]; omega) | (have h60 := of_decide_eq_true hb; simp only [Bool.and_eq_true, decide_eq_true_eq]; omega))))) ?_; conv => whnf)
   (refine appf_s itR (y := ⟨IntKind.i64.wrap (3 + v4), 0⟩) rfl ?_; conv => whnf)
   iterate 3 (refine ChkS.mk (by kernel_rfl) ?_; conv => whnf)
   iterate 2 (refine rq_s (by ((simp only [Bool.and_eq_true, decide_eq_true_eq, List.length_map]; omega))) ?_; conv => whnf)
   (refine rq_s (by ((simp only [decide_eq_true_eq, List.length_map]; done))) ?_; conv => whnf)
   (refine rq_s (by (rfl)) ?_; conv => whnf)
   (refine ChkS.mk (by kernel_rfl) ?_; conv => whnf)
   (refine rq_s (by ((simp only [decide_eq_true_eq, List.length_map]; done))) ?_; conv => whnf)
   iterate 2 (refine rq_s (by (rfl)) ?_; conv => whnf)
   (refine rq_s (by ((simp only [decide_eq_true_eq, List.length_map]; done))) ?_; conv => whnf)
   (refine rq_s (by (((first | (simp [maxBytes, subA, seg]; omega) | (refine and_s rfl ?_; simp [maxBytes, subA, seg]; omega) | (have h60 := of_decide_eq_true hb; simp only [Bool.and_eq_true, decide_eq_true_eq]; omega))))) ?_; conv => whnf)
   (refine apd_s itR ?_; conv => whnf)
   iterate 2 (refine ChkS.mk (by kernel_rfl) ?_; conv => whnf)
   (refine fac_s (fun hf => ?_); conv => whnf)
   first
     | ( (refine br_f (by assumption) ?_; conv => whnf)
         iterate 4 (refine br_f rfl ?_; conv => whnf)
         (refine rq_s (by ((simp only [decide_eq_true_eq, List.length_map]; done))) ?_; conv => whnf)
         (refine rq_s (by (rfl)) ?_; conv => whnf)
         (refine rows_s (by ((refine sub_all ?_; simp [List.length_map]; done))) ?_; conv => whnf)
         (refine aftp_s (by rfl) ?_; conv => whnf)
         (refine rows_s (by (rfl)) ?_; conv => whnf)
         (refine aftp_s (by rfl) ?_; conv => whnf)
         exact True.intro)
     | ( (refine br_t (by assumption) ?_; conv => whnf)
         (refine br_t rfl ?_; conv => whnf)
         (refine handp_s 91 [some 3, none] ?_; conv => whnf)
         iterate 2 (refine rq_s (by (rfl)) ?_; conv => whnf)
         (focus (apply callpe_s (f := 91); (· repeat' (first | (refine sub_all ?_; simp [List.length_map]; done) | exact sub_map _ _ _ _ | apply cons_eq | apply obj_eq | apply agg_eq | apply own_eq | apply ro_eq | apply rp_eq | apply fnc_eq | rfl)); refine callp_s (f := 91) rfl (c9 ..) ?_; conv => whnf))
         first
           | ( (refine br_t rfl ?_; conv => whnf)
               (refine br_f rfl ?_; conv => whnf)
               (refine rq_s (by ((simp only [decide_eq_true_eq, List.length_map]; done))) ?_; conv => whnf)
               (refine rq_s (by (rfl)) ?_; conv => whnf)
               (refine rows_s (by ((refine sub_all ?_; simp [List.length_map]; done))) ?_; conv => whnf)
               (refine aftp_s (by rfl) ?_; conv => whnf)
               (refine rows_s (by (rfl)) ?_; conv => whnf)
               (refine aftp_s (by rfl) ?_; conv => whnf)
               exact True.intro)
           | ( iterate 2 (refine br_t rfl ?_; conv => whnf)
               (refine rq_s (by (rfl)) ?_; conv => whnf)
               (refine rq_s (by (((first | (simp [maxBytes, subA, seg]; omega) | (refine and_s rfl ?_; simp [maxBytes, subA, seg]; omega) | (have h60 := of_decide_eq_true hb; simp only [Bool.and_eq_true, decide_eq_true_eq]; omega))))) ?_; conv => whnf)
               (refine rq_s (by ((simp only [decide_eq_true_eq, List.length_map]; done))) ?_; conv => whnf)
               (refine rq_s (by (rfl)) ?_; conv => whnf)
               (refine rq_s (by ((simp only [decide_eq_true_eq, List.length_map]; done))) ?_; conv => whnf)
               (refine rq_s (by (rfl)) ?_; conv => whnf)
               (refine rows_s (by (exact sub_map _ _ _ _)) ?_; conv => whnf)
               (refine aftp_s (by rfl) ?_; conv => whnf)
               (refine rows_s (by (rfl)) ?_; conv => whnf)
               (refine aftp_s (by rfl) ?_; conv => whnf)
               exact True.intro)))

theorem any_1 (d : List UInt8) {xs : List Itm} {a m a1 m1 a2 m2 a3 m3 k : Int} (hx : xs.length ≤ 60) (k1 : ItC d a m a1 m1 xs) (k2 : NxC d (IntKind.i64.wrap ((xs.map itR).length + 1)) a1 m1 a2 m2 k) (p2 : 0 ≤ k) (q2 : k ≤ xs.length)
    (k3 : NxC d 8 a2 m2 a3 m3 1) (hk : decide (k < ((xs.map itR).length : Int)) = true) {a9 m9 : Int} {zs : List Itm}
    (ht : Tl d (seg xs (0 + 0) (k.toNat - 0) ++ seg xs (0 + (IntKind.i64.wrap (k + 1)).toNat) ((xs.map itR).length - (IntKind.i64.wrap (k + 1)).toNat)) (seg xs (0 + 0) (k.toNat - 0) ++ seg xs (0 + (IntKind.i64.wrap (k + 1)).toNat) ((xs.map itR).length - (IntKind.i64.wrap (k + 1)).toNat)).length a3 m3 a9 m9 zs) : AnC d a m a9 m9 zs := by
  unfold ItC at k1
  unfold NxC at *
  have w1 : IntKind.i64.wrap (k + 1) = k + 1 := wrap64 (by omega) (by omega)
  have hk2 : k < xs.length := by simpa using hk
  rcases ht with ⟨hb⟩ | ⟨hb, c9⟩ | ⟨hb, c9⟩ <;>
  (refine Con.evP 91 [500000] rfl T_ok mix Try.func84 rfl rfl rfl rfl [.tmp 2] rfl ?_
   conv => whnf
   (refine handp_s 87 [some 3, none] ?_; conv => whnf)
   iterate 2 (refine rq_s (by (rfl)) ?_; conv => whnf)
   (focus (apply callpe_s (f := 87); (· repeat' (first | (refine sub_all ?_; simp [List.length_map]; done) | exact sub_map _ _ _ _ | apply cons_eq | apply obj_eq | apply agg_eq | apply own_eq | apply ro_eq | apply rp_eq | apply fnc_eq | rfl)); refine callp_s (f := 87) rfl (k1 ..) ?_; conv => whnf))
   (refine fac_s (fun hf => ?_); conv => whnf)
   (refine handp_s 93 [some 3, none] ?_; conv => whnf)
   iterate 2 (refine rq_s (by (rfl)) ?_; conv => whnf)
   (focus (apply callpe_s (f := 93); (· repeat' (first | (refine sub_all ?_; simp [List.length_map]; done) | exact sub_map _ _ _ _ | apply cons_eq | apply obj_eq | apply agg_eq | apply own_eq | apply ro_eq | apply rp_eq | apply fnc_eq | rfl)); refine callp_s (f := 93) rfl (k2 ..) ?_; conv => whnf))
   (refine fac_s (fun hf => ?_); conv => whnf)
   (refine handp_s 93 [some 3, none] ?_; conv => whnf)
   iterate 2 (refine rq_s (by (rfl)) ?_; conv => whnf)
   (focus (apply callpe_s (f := 93); (· repeat' (first | (refine sub_all ?_; simp [List.length_map]; done) | exact sub_map _ _ _ _ | apply cons_eq | apply obj_eq | apply agg_eq | apply own_eq | apply ro_eq | apply rp_eq | apply fnc_eq | rfl)); refine callp_s (f := 93) rfl (k3 ..) ?_; conv => whnf))
   (refine fac_s (fun hf => ?_); conv => whnf)
   (refine br_f rfl ?_; conv => whnf)
   (refine br_t rfl ?_; conv => whnf)
   (refine br_t (by assumption) ?_; conv => whnf)
   (refine ChkS.mk (by kernel_rfl) ?_; conv => whnf)
   (refine rq_s (by (rfl)) ?_; conv => whnf)
   iterate 3 (refine ChkS.mk (by kernel_rfl) ?_; conv => whnf)
   (refine rq_s (by ((simp only [Bool.and_eq_true, decide_eq_true_eq, List.length_map]; omega))) ?_; conv => whnf)
   (refine rq_s (by ((refine and_s rfl ?_; simp only [decide_eq_true_eq, List.length_map]; omega))) ?_; conv => whnf)
   (refine rq_s (by ((simp only [decide_eq_true_eq, List.length_map]; done))) ?_; conv => whnf)
   (refine rq_s (by (rfl)) ?_; conv => whnf)
   (refine ChkS.mk (by kernel_rfl) ?_; conv => whnf)
   (refine rq_s (by ((simp only [decide_eq_true_eq, List.length_map]; done))) ?_; conv => whnf)
   iterate 2 (refine rq_s (by (rfl)) ?_; conv => whnf)
   (refine rq_s (by (((first | (refine and_s rfl ?_; simp only [decide_eq_true_eq, List.length_map]; omega) | (simp [maxBytes, subA, seg]; omega) | (refine and_s rfl ?_; simp [maxBytes, subA, seg]; omega) | (have h60 := of_decide_eq_true hb; simp only [Bool.and_eq_true, decide_eq_true_eq, List.length_map] at h60 ⊢; omega))))) ?_; conv => whnf)
   (refine apt_s itR ?_; conv => whnf)
   iterate 4 (refine ChkS.mk (by kernel_rfl) ?_; conv => whnf)
   iterate 2 (refine rq_s (by ((simp only [Bool.and_eq_true, decide_eq_true_eq, List.length_map]; omega))) ?_; conv => whnf)
   (refine rq_s (by ((simp only [decide_eq_true_eq, List.length_map]; done))) ?_; conv => whnf)
   (refine rq_s (by (rfl)) ?_; conv => whnf)
   (refine ChkS.mk (by kernel_rfl) ?_; conv => whnf)
   (refine rq_s (by ((simp only [decide_eq_true_eq, List.length_map]; done))) ?_; conv => whnf)
   iterate 2 (refine rq_s (by (rfl)) ?_; conv => whnf)
   (refine rq_s (by ((simp only [decide_eq_true_eq, List.length_map]; done))) ?_; conv => whnf)
   (refine rq_s (by (((first | (refine and_s rfl ?_; simp only [decide_eq_true_eq, List.length_map]; omega) | (simp [maxBytes, subA, seg]; omega) | (refine and_s rfl ?_; simp [maxBytes, subA, seg]; omega) | (have h60 := of_decide_eq_true hb; simp only [Bool.and_eq_true, decide_eq_true_eq, List.length_map] at h60 ⊢; omega))))) ?_; conv => whnf)
   (refine apd_s itR ?_; conv => whnf)
   iterate 2 (refine ChkS.mk (by kernel_rfl) ?_; conv => whnf)
   first
     | ( (refine br_f (by assumption) ?_; conv => whnf)
         iterate 4 (refine br_f rfl ?_; conv => whnf)
         (refine rq_s (by ((simp only [decide_eq_true_eq, List.length_map]; done))) ?_; conv => whnf)
         (refine rq_s (by (rfl)) ?_; conv => whnf)
         (refine rows_s (by ((refine sub_all ?_; simp [List.length_map]; done))) ?_; conv => whnf)
         (refine aftp_s (by rfl) ?_; conv => whnf)
         (refine rows_s (by (rfl)) ?_; conv => whnf)
         (refine aftp_s (by rfl) ?_; conv => whnf)
         exact True.intro)
     | ( (refine br_t (by assumption) ?_; conv => whnf)
         (refine br_t rfl ?_; conv => whnf)
         (refine handp_s 91 [some 3, none] ?_; conv => whnf)
         iterate 2 (refine rq_s (by (rfl)) ?_; conv => whnf)
         (focus (apply callpe_s (f := 91); (· repeat' (first | (refine sub_all ?_; simp [List.length_map]; done) | exact sub_map _ _ _ _ | apply cons_eq | apply obj_eq | apply agg_eq | apply own_eq | apply ro_eq | apply rp_eq | apply fnc_eq | rfl)); refine callp_s (f := 91) rfl (c9 ..) ?_; conv => whnf))
         first
           | ( (refine br_t rfl ?_; conv => whnf)
               (refine br_f rfl ?_; conv => whnf)
               (refine rq_s (by ((simp only [decide_eq_true_eq, List.length_map]; done))) ?_; conv => whnf)
               (refine rq_s (by (rfl)) ?_; conv => whnf)
               (refine rows_s (by ((refine sub_all ?_; simp [List.length_map]; done))) ?_; conv => whnf)
               (refine aftp_s (by rfl) ?_; conv => whnf)
               (refine rows_s (by (rfl)) ?_; conv => whnf)
               (refine aftp_s (by rfl) ?_; conv => whnf)
               exact True.intro)
           | ( iterate 2 (refine br_t rfl ?_; conv => whnf)
               (refine rq_s (by (rfl)) ?_; conv => whnf)
               (refine rq_s (by (((first | (refine and_s rfl ?_; simp only [decide_eq_true_eq, List.length_map]; omega) | (simp [maxBytes, subA, seg]; omega) | (refine and_s rfl ?_; simp [maxBytes, subA, seg]; omega) | (have h60 := of_decide_eq_true hb; simp only [Bool.and_eq_true, decide_eq_true_eq, List.length_map] at h60 ⊢; omega))))) ?_; conv => whnf)
               (refine rq_s (by ((simp only [decide_eq_true_eq, List.length_map]; done))) ?_; conv => whnf)
               (refine rq_s (by (rfl)) ?_; conv => whnf)
               (refine rq_s (by ((simp only [decide_eq_true_eq, List.length_map]; done))) ?_; conv => whnf)
               (refine rq_s (by (rfl)) ?_; conv => whnf)
               (refine rows_s (by (exact sub_map _ _ _ _)) ?_; conv => whnf)
               (refine aftp_s (by rfl) ?_; conv => whnf)
               (refine rows_s (by (rfl)) ?_; conv => whnf)
               (refine aftp_s (by rfl) ?_; conv => whnf)
               exact True.intro)))
theorem any_1x (d : List UInt8) {xs : List Itm} {a m a1 m1 a2 m2 a3 m3 k : Int} (hx : xs.length ≤ 60) (k1 : ItC d a m a1 m1 xs) (k2 : NxC d (IntKind.i64.wrap ((xs.map itR).length + 1)) a1 m1 a2 m2 k) (p2 : 0 ≤ k) (q2 : k ≤ xs.length)
    (k3 : NxC d 8 a2 m2 a3 m3 1) (hk : decide (k < ((xs.map itR).length : Int)) = false) {a9 m9 : Int} {zs : List Itm}
    (ht : Tl d (xs) (xs.map itR).length a3 m3 a9 m9 zs) : AnC d a m a9 m9 zs := by
  unfold ItC at k1
  unfold NxC at *
  rcases ht with ⟨hb⟩ | ⟨hb, c9⟩ | ⟨hb, c9⟩ <;>
  (refine Con.evP 91 [500000] rfl T_ok mix Try.func84 rfl rfl rfl rfl [.tmp 2] rfl ?_
   conv => whnf
   (refine handp_s 87 [some 3, none] ?_; conv => whnf)
   iterate 2 (refine rq_s (by (rfl)) ?_; conv => whnf)
   (focus (apply callpe_s (f := 87); (· repeat' (first | (refine sub_all ?_; simp [List.length_map]; done) | exact sub_map _ _ _ _ | apply cons_eq | apply obj_eq | apply agg_eq | apply own_eq | apply ro_eq | apply rp_eq | apply fnc_eq | rfl)); refine callp_s (f := 87) rfl (k1 ..) ?_; conv => whnf))
   (refine fac_s (fun hf => ?_); conv => whnf)
   (refine handp_s 93 [some 3, none] ?_; conv => whnf)
   iterate 2 (refine rq_s (by (rfl)) ?_; conv => whnf)
   (focus (apply callpe_s (f := 93); (· repeat' (first | (refine sub_all ?_; simp [List.length_map]; done) | exact sub_map _ _ _ _ | apply cons_eq | apply obj_eq | apply agg_eq | apply own_eq | apply ro_eq | apply rp_eq | apply fnc_eq | rfl)); refine callp_s (f := 93) rfl (k2 ..) ?_; conv => whnf))
   (refine fac_s (fun hf => ?_); conv => whnf)
   (refine handp_s 93 [some 3, none] ?_; conv => whnf)
   iterate 2 (refine rq_s (by (rfl)) ?_; conv => whnf)
   (focus (apply callpe_s (f := 93); (· repeat' (first | (refine sub_all ?_; simp [List.length_map]; done) | exact sub_map _ _ _ _ | apply cons_eq | apply obj_eq | apply agg_eq | apply own_eq | apply ro_eq | apply rp_eq | apply fnc_eq | rfl)); refine callp_s (f := 93) rfl (k3 ..) ?_; conv => whnf))
   (refine fac_s (fun hf => ?_); conv => whnf)
   (refine br_f rfl ?_; conv => whnf)
   (refine br_t rfl ?_; conv => whnf)
   first
     | ( iterate 2 (refine br_f (by assumption) ?_; conv => whnf)
         iterate 4 (refine br_f rfl ?_; conv => whnf)
         (refine rq_s (by ((simp only [decide_eq_true_eq, List.length_map]; done))) ?_; conv => whnf)
         (refine rq_s (by (rfl)) ?_; conv => whnf)
         (refine rows_s (by ((refine sub_all ?_; simp [List.length_map]; done))) ?_; conv => whnf)
         (refine aftp_s (by rfl) ?_; conv => whnf)
         (refine rows_s (by (rfl)) ?_; conv => whnf)
         (refine aftp_s (by rfl) ?_; conv => whnf)
         exact True.intro)
     | ( (refine br_f (by assumption) ?_; conv => whnf)
         (refine br_t (by assumption) ?_; conv => whnf)
         (refine br_t rfl ?_; conv => whnf)
         (refine handp_s 91 [some 3, none] ?_; conv => whnf)
         iterate 2 (refine rq_s (by (rfl)) ?_; conv => whnf)
         (focus (apply callpe_s (f := 91); (· repeat' (first | (refine sub_all ?_; simp [List.length_map]; done) | exact sub_map _ _ _ _ | apply cons_eq | apply obj_eq | apply agg_eq | apply own_eq | apply ro_eq | apply rp_eq | apply fnc_eq | rfl)); refine callp_s (f := 91) rfl (c9 ..) ?_; conv => whnf))
         first
           | ( (refine br_t rfl ?_; conv => whnf)
               (refine br_f rfl ?_; conv => whnf)
               (refine rq_s (by ((simp only [decide_eq_true_eq, List.length_map]; done))) ?_; conv => whnf)
               (refine rq_s (by (rfl)) ?_; conv => whnf)
               (refine rows_s (by ((refine sub_all ?_; simp [List.length_map]; done))) ?_; conv => whnf)
               (refine aftp_s (by rfl) ?_; conv => whnf)
               (refine rows_s (by (rfl)) ?_; conv => whnf)
               (refine aftp_s (by rfl) ?_; conv => whnf)
               exact True.intro)
           | ( iterate 2 (refine br_t rfl ?_; conv => whnf)
               (refine rq_s (by (rfl)) ?_; conv => whnf)
               (refine rq_s (by (((first | (simp [maxBytes, subA, seg]; omega) | (refine and_s rfl ?_; simp [maxBytes, subA, seg]; omega) | (have h60 := of_decide_eq_true hb; simp only [Bool.and_eq_true, decide_eq_true_eq, List.length_map] at h60 ⊢; omega))))) ?_; conv => whnf)
               (refine rq_s (by ((simp only [decide_eq_true_eq, List.length_map]; done))) ?_; conv => whnf)
               (refine rq_s (by (rfl)) ?_; conv => whnf)
               (refine rq_s (by ((simp only [decide_eq_true_eq, List.length_map]; done))) ?_; conv => whnf)
               (refine rq_s (by (rfl)) ?_; conv => whnf)
               (refine rows_s (by (exact sub_map _ _ _ _)) ?_; conv => whnf)
               (refine aftp_s (by rfl) ?_; conv => whnf)
               (refine rows_s (by (rfl)) ?_; conv => whnf)
               (refine aftp_s (by rfl) ?_; conv => whnf)
               exact True.intro)))

theorem any_2 (d : List UInt8) {xs : List Itm} {a m a1 m1 a2 m2 a3 m3 k a4 m4 v4 a5 m5 v5 : Int} (hx : xs.length ≤ 60) (k1 : ItC d a m a1 m1 xs) (k2 : NxC d (IntKind.i64.wrap ((xs.map itR).length + 1)) a1 m1 a2 m2 k) (p2 : 0 ≤ k) (q2 : k ≤ xs.length)
    (k3 : NxC d 8 a2 m2 a3 m3 2) (hk : decide (k < ((xs.map itR).length : Int)) = true) (k4 : NxC d 15 a3 m3 a4 m4 v4) (k5 : NxC d 3 a4 m4 a5 m5 v5) {a9 m9 : Int} {zs : List Itm}
    (ht : Tl d (xs.set (0 + k.toNat) ⟨v4, v5⟩) (xs.map itR).length a5 m5 a9 m9 zs) : AnC d a m a9 m9 zs := by
  unfold ItC at k1
  unfold NxC at *
  have hk2 : k < xs.length := by simpa using hk
  rcases ht with ⟨hb⟩ | ⟨hb, c9⟩ | ⟨hb, c9⟩ <;>
  (refine Con.evP 91 [500000] rfl T_ok mix Try.func84 rfl rfl rfl rfl [.tmp 2] rfl ?_
   conv => whnf
   (refine handp_s 87 [some 3, none] ?_; conv => whnf)
   iterate 2 (refine rq_s (by (rfl)) ?_; conv => whnf)
   (focus (apply callpe_s (f := 87); (· repeat' (first | (refine sub_all ?_; simp [List.length_map]; done) | exact sub_map _ _ _ _ | apply cons_eq | apply obj_eq | apply agg_eq | apply own_eq | apply ro_eq | apply rp_eq | apply fnc_eq | rfl)); refine callp_s (f := 87) rfl (k1 ..) ?_; conv => whnf))
   (refine fac_s (fun hf => ?_); conv => whnf)
   (refine handp_s 93 [some 3, none] ?_; conv => whnf)
   iterate 2 (refine rq_s (by (rfl)) ?_; conv => whnf)
   (focus (apply callpe_s (f := 93); (· repeat' (first | (refine sub_all ?_; simp [List.length_map]; done) | exact sub_map _ _ _ _ | apply cons_eq | apply obj_eq | apply agg_eq | apply own_eq | apply ro_eq | apply rp_eq | apply fnc_eq | rfl)); refine callp_s (f := 93) rfl (k2 ..) ?_; conv => whnf))
   (refine fac_s (fun hf => ?_); conv => whnf)
   (refine handp_s 93 [some 3, none] ?_; conv => whnf)
   iterate 2 (refine rq_s (by (rfl)) ?_; conv => whnf)
   (focus (apply callpe_s (f := 93); (· repeat' (first | (refine sub_all ?_; simp [List.length_map]; done) | exact sub_map _ _ _ _ | apply cons_eq | apply obj_eq | apply agg_eq | apply own_eq | apply ro_eq | apply rp_eq | apply fnc_eq | rfl)); refine callp_s (f := 93) rfl (k3 ..) ?_; conv => whnf))
   (refine fac_s (fun hf => ?_); conv => whnf)
   iterate 2 (refine br_f rfl ?_; conv => whnf)
   (refine br_t rfl ?_; conv => whnf)
   (refine br_t (by assumption) ?_; conv => whnf)
   (refine handp_s 93 [some 3, none] ?_; conv => whnf)
   iterate 2 (refine rq_s (by (rfl)) ?_; conv => whnf)
   (focus (apply callpe_s (f := 93); (· repeat' (first | (refine sub_all ?_; simp [List.length_map]; done) | exact sub_map _ _ _ _ | apply cons_eq | apply obj_eq | apply agg_eq | apply own_eq | apply ro_eq | apply rp_eq | apply fnc_eq | rfl)); refine callp_s (f := 93) rfl (k4 ..) ?_; conv => whnf))
   (refine handp_s 93 [some 3, none] ?_; conv => whnf)
   iterate 2 (refine rq_s (by (rfl)) ?_; conv => whnf)
   (focus (apply callpe_s (f := 93); (· repeat' (first | (refine sub_all ?_; simp [List.length_map]; done) | exact sub_map _ _ _ _ | apply cons_eq | apply obj_eq | apply agg_eq | apply own_eq | apply ro_eq | apply rp_eq | apply fnc_eq | rfl)); refine callp_s (f := 93) rfl (k5 ..) ?_; conv => whnf))
   (refine rq_s (by (rfl)) ?_; conv => whnf)
   (refine rq_s (by ((simp only [Bool.and_eq_true, decide_eq_true_eq, List.length_map]; omega))) ?_; conv => whnf)
   (refine rq_s (by ((simp only [decide_eq_true_eq, List.length_map]; done))) ?_; conv => whnf)
   (refine rq_s (by ((refine and_s rfl ?_; simp only [decide_eq_true_eq, List.length_map]; omega))) ?_; conv => whnf)
   (refine rows_s (by ((refine setRow_map itR xs _ _ _ ⟨v4, v5⟩ default (by omega) rfl rfl))) ?_; conv => whnf)
   iterate 2 (refine fac_s (fun hf => ?_); conv => whnf)
   first
     | ( (refine br_f (by assumption) ?_; conv => whnf)
         iterate 4 (refine br_f rfl ?_; conv => whnf)
         (refine rq_s (by ((simp only [decide_eq_true_eq, List.length_map]; done))) ?_; conv => whnf)
         (refine rq_s (by (rfl)) ?_; conv => whnf)
         (refine rows_s (by ((refine sub_all ?_; simp [List.length_map]; done))) ?_; conv => whnf)
         (refine aftp_s (by rfl) ?_; conv => whnf)
         (refine rows_s (by (rfl)) ?_; conv => whnf)
         (refine aftp_s (by rfl) ?_; conv => whnf)
         exact True.intro)
     | ( (refine br_t (by assumption) ?_; conv => whnf)
         (refine br_t rfl ?_; conv => whnf)
         (refine handp_s 91 [some 3, none] ?_; conv => whnf)
         iterate 2 (refine rq_s (by (rfl)) ?_; conv => whnf)
         (focus (apply callpe_s (f := 91); (· repeat' (first | (refine sub_all ?_; simp [List.length_map]; done) | exact sub_map _ _ _ _ | apply cons_eq | apply obj_eq | apply agg_eq | apply own_eq | apply ro_eq | apply rp_eq | apply fnc_eq | rfl)); refine callp_s (f := 91) rfl (c9 ..) ?_; conv => whnf))
         first
           | ( (refine br_t rfl ?_; conv => whnf)
               (refine br_f rfl ?_; conv => whnf)
               (refine rq_s (by ((simp only [decide_eq_true_eq, List.length_map]; done))) ?_; conv => whnf)
               (refine rq_s (by (rfl)) ?_; conv => whnf)
               (refine rows_s (by ((refine sub_all ?_; simp [List.length_map]; done))) ?_; conv => whnf)
               (refine aftp_s (by rfl) ?_; conv => whnf)
               (refine rows_s (by (rfl)) ?_; conv => whnf)
               (refine aftp_s (by rfl) ?_; conv => whnf)
               exact True.intro)
           | ( iterate 2 (refine br_t rfl ?_; conv => whnf)
               (refine rq_s (by (rfl)) ?_; conv => whnf)
               (refine rq_s (by (((first | (simp [maxBytes, subA, seg]; omega) | (refine and_s rfl ?_; simp [maxBytes, subA, seg]; omega) | (have h60 := of_decide_eq_true hb; simp only [Bool.and_eq_true, decide_eq_true_eq, List.length_map] at h60 ⊢; omega))))) ?_; conv => whnf)
               (refine rq_s (by ((simp only [decide_eq_true_eq, List.length_map]; done))) ?_; conv => whnf)
               (refine rq_s (by (rfl)) ?_; conv => whnf)
               (refine rq_s (by ((simp only [decide_eq_true_eq, List.length_map]; done))) ?_; conv => whnf)
               (refine rq_s (by (rfl)) ?_; conv => whnf)
               (refine rows_s (by (exact sub_map _ _ _ _)) ?_; conv => whnf)
               (refine aftp_s (by rfl) ?_; conv => whnf)
               (refine rows_s (by (rfl)) ?_; conv => whnf)
               (refine aftp_s (by rfl) ?_; conv => whnf)
               exact True.intro)))

theorem any_2x (d : List UInt8) {xs : List Itm} {a m a1 m1 a2 m2 a3 m3 k : Int} (hx : xs.length ≤ 60) (k1 : ItC d a m a1 m1 xs) (k2 : NxC d (IntKind.i64.wrap ((xs.map itR).length + 1)) a1 m1 a2 m2 k) (p2 : 0 ≤ k) (q2 : k ≤ xs.length)
    (k3 : NxC d 8 a2 m2 a3 m3 2) (hk : decide (k < ((xs.map itR).length : Int)) = false) {a9 m9 : Int} {zs : List Itm}
    (ht : Tl d (xs) (xs.map itR).length a3 m3 a9 m9 zs) : AnC d a m a9 m9 zs := by
  unfold ItC at k1
  unfold NxC at *
  rcases ht with ⟨hb⟩ | ⟨hb, c9⟩ | ⟨hb, c9⟩ <;>
  (refine Con.evP 91 [500000] rfl T_ok mix Try.func84 rfl rfl rfl rfl [.tmp 2] rfl ?_
   conv => whnf
   (refine handp_s 87 [some 3, none] ?_; conv => whnf)
   iterate 2 (refine rq_s (by (rfl)) ?_; conv => whnf)
   (focus (apply callpe_s (f := 87); (· repeat' (first | (refine sub_all ?_; simp [List.length_map]; done) | exact sub_map _ _ _ _ | apply cons_eq | apply obj_eq | apply agg_eq | apply own_eq | apply ro_eq | apply rp_eq | apply fnc_eq | rfl)); refine callp_s (f := 87) rfl (k1 ..) ?_; conv => whnf))
   (refine fac_s (fun hf => ?_); conv => whnf)
   (refine handp_s 93 [some 3, none] ?_; conv => whnf)
   iterate 2 (refine rq_s (by (rfl)) ?_; conv => whnf)
   (focus (apply callpe_s (f := 93); (· repeat' (first | (refine sub_all ?_; simp [List.length_map]; done) | exact sub_map _ _ _ _ | apply cons_eq | apply obj_eq | apply agg_eq | apply own_eq | apply ro_eq | apply rp_eq | apply fnc_eq | rfl)); refine callp_s (f := 93) rfl (k2 ..) ?_; conv => whnf))
   (refine fac_s (fun hf => ?_); conv => whnf)
   (refine handp_s 93 [some 3, none] ?_; conv => whnf)
   iterate 2 (refine rq_s (by (rfl)) ?_; conv => whnf)
   (focus (apply callpe_s (f := 93); (· repeat' (first | (refine sub_all ?_; simp [List.length_map]; done) | exact sub_map _ _ _ _ | apply cons_eq | apply obj_eq | apply agg_eq | apply own_eq | apply ro_eq | apply rp_eq | apply fnc_eq | rfl)); refine callp_s (f := 93) rfl (k3 ..) ?_; conv => whnf))
   (refine fac_s (fun hf => ?_); conv => whnf)
   iterate 2 (refine br_f rfl ?_; conv => whnf)
   (refine br_t rfl ?_; conv => whnf)
   first
     | ( iterate 2 (refine br_f (by assumption) ?_; conv => whnf)
         iterate 4 (refine br_f rfl ?_; conv => whnf)
         (refine rq_s (by ((simp only [decide_eq_true_eq, List.length_map]; done))) ?_; conv => whnf)
         (refine rq_s (by (rfl)) ?_; conv => whnf)
         (refine rows_s (by ((refine sub_all ?_; simp [List.length_map]; done))) ?_; conv => whnf)
         (refine aftp_s (by rfl) ?_; conv => whnf)
         (refine rows_s (by (rfl)) ?_; conv => whnf)
         (refine aftp_s (by rfl) ?_; conv => whnf)
         exact True.intro)
     | ( (refine br_f (by assumption) ?_; conv => whnf)
         (refine br_t (by assumption) ?_; conv => whnf)
         (refine br_t rfl ?_; conv => whnf)
         (refine handp_s 91 [some 3, none] ?_; conv => whnf)
         iterate 2 (refine rq_s (by (rfl)) ?_; conv => whnf)
         (focus (apply callpe_s (f := 91); (· repeat' (first | (refine sub_all ?_; simp [List.length_map]; done) | exact sub_map _ _ _ _ | apply cons_eq | apply obj_eq | apply agg_eq | apply own_eq | apply ro_eq | apply rp_eq | apply fnc_eq | rfl)); refine callp_s (f := 91) rfl (c9 ..) ?_; conv => whnf))
         first
           | ( (refine br_t rfl ?_; conv => whnf)
               (refine br_f rfl ?_; conv => whnf)
               (refine rq_s (by ((simp only [decide_eq_true_eq, List.length_map]; done))) ?_; conv => whnf)
               (refine rq_s (by (rfl)) ?_; conv => whnf)
               (refine rows_s (by ((refine sub_all ?_; simp [List.length_map]; done))) ?_; conv => whnf)
               (refine aftp_s (by rfl) ?_; conv => whnf)
               (refine rows_s (by (rfl)) ?_; conv => whnf)
               (refine aftp_s (by rfl) ?_; conv => whnf)
               exact True.intro)
           | ( iterate 2 (refine br_t rfl ?_; conv => whnf)
               (refine rq_s (by (rfl)) ?_; conv => whnf)
               (refine rq_s (by (((first | (simp [maxBytes, subA, seg]; omega) | (refine and_s rfl ?_; simp [maxBytes, subA, seg]; omega) | (have h60 := of_decide_eq_true hb; simp only [Bool.and_eq_true, decide_eq_true_eq, List.length_map] at h60 ⊢; omega))))) ?_; conv => whnf)
               (refine rq_s (by ((simp only [decide_eq_true_eq, List.length_map]; done))) ?_; conv => whnf)
               (refine rq_s (by (rfl)) ?_; conv => whnf)
               (refine rq_s (by ((simp only [decide_eq_true_eq, List.length_map]; done))) ?_; conv => whnf)
               (refine rq_s (by (rfl)) ?_; conv => whnf)
               (refine rows_s (by (exact sub_map _ _ _ _)) ?_; conv => whnf)
               (refine aftp_s (by rfl) ?_; conv => whnf)
               (refine rows_s (by (rfl)) ?_; conv => whnf)
               (refine aftp_s (by rfl) ?_; conv => whnf)
               exact True.intro)))
theorem any_4 (d : List UInt8) {xs : List Itm} {a m a1 m1 a2 m2 a3 m3 k v : Int} (hx : xs.length ≤ 60) (k1 : ItC d a m a1 m1 xs) (k2 : NxC d (IntKind.i64.wrap ((xs.map itR).length + 1)) a1 m1 a2 m2 k) (p2 : 0 ≤ k) (q2 : k ≤ xs.length)
    (k3 : NxC d 8 a2 m2 a3 m3 v) (hv : 4 ≤ v) {a9 m9 : Int} {zs : List Itm}
    (ht : Tl d (xs) (xs.map itR).length a3 m3 a9 m9 zs) : AnC d a m a9 m9 zs := by
  unfold ItC at k1
  unfold NxC at *
  have e0 : (v == 0) = false := by simp; omega
  have e1 : (v == 1) = false := by simp; omega
  have e2 : (v == 2) = false := by simp; omega
  have e3 : (v == 3) = false := by simp; omega
  rcases ht with ⟨hb⟩ | ⟨hb, c9⟩ | ⟨hb, c9⟩ <;>
  (refine Con.evP 91 [500000] rfl T_ok mix Try.func84 rfl rfl rfl rfl [.tmp 2] rfl ?_
   conv => whnf
   (refine handp_s 87 [some 3, none] ?_; conv => whnf)
   iterate 2 (refine rq_s (by (rfl)) ?_; conv => whnf)
   (focus (apply callpe_s (f := 87); (· repeat' (first | (refine sub_all ?_; simp [List.length_map]; done) | exact sub_map _ _ _ _ | apply cons_eq | apply obj_eq | apply agg_eq | apply own_eq | apply ro_eq | apply rp_eq | apply fnc_eq | rfl)); refine callp_s (f := 87) rfl (k1 ..) ?_; conv => whnf))
   (refine fac_s (fun hf => ?_); conv => whnf)
   (refine handp_s 93 [some 3, none] ?_; conv => whnf)
   iterate 2 (refine rq_s (by (rfl)) ?_; conv => whnf)
   (focus (apply callpe_s (f := 93); (· repeat' (first | (refine sub_all ?_; simp [List.length_map]; done) | exact sub_map _ _ _ _ | apply cons_eq | apply obj_eq | apply agg_eq | apply own_eq | apply ro_eq | apply rp_eq | apply fnc_eq | rfl)); refine callp_s (f := 93) rfl (k2 ..) ?_; conv => whnf))
   (refine fac_s (fun hf => ?_); conv => whnf)
   (refine handp_s 93 [some 3, none] ?_; conv => whnf)
   iterate 2 (refine rq_s (by (rfl)) ?_; conv => whnf)
   (focus (apply callpe_s (f := 93); (· repeat' (first | (refine sub_all ?_; simp [List.length_map]; done) | exact sub_map _ _ _ _ | apply cons_eq | apply obj_eq | apply agg_eq | apply own_eq | apply ro_eq | apply rp_eq | apply fnc_eq | rfl)); refine callp_s (f := 93) rfl (k3 ..) ?_; conv => whnf))
   (refine fac_s (fun hf => ?_); conv => whnf)
   first
     | ( iterate 5 (refine br_f (by assumption) ?_; conv => whnf)
         iterate 4 (refine br_f rfl ?_; conv => whnf)
         (refine rq_s (by ((simp only [decide_eq_true_eq, List.length_map]; done))) ?_; conv => whnf)
         (refine rq_s (by (rfl)) ?_; conv => whnf)
         (refine rows_s (by ((refine sub_all ?_; simp [List.length_map]; done))) ?_; conv => whnf)
         (refine aftp_s (by rfl) ?_; conv => whnf)
         (refine rows_s (by (rfl)) ?_; conv => whnf)
         (refine aftp_s (by rfl) ?_; conv => whnf)
         exact True.intro)
     | ( iterate 4 (refine br_f (by assumption) ?_; conv => whnf)
         (refine br_t (by assumption) ?_; conv => whnf)
         (refine br_t rfl ?_; conv => whnf)
         (refine handp_s 91 [some 3, none] ?_; conv => whnf)
         iterate 2 (refine rq_s (by (rfl)) ?_; conv => whnf)
         (focus (apply callpe_s (f := 91); (· repeat' (first | (refine sub_all ?_; simp [List.length_map]; done) | exact sub_map _ _ _ _ | apply cons_eq | apply obj_eq | apply agg_eq | apply own_eq | apply ro_eq | apply rp_eq | apply fnc_eq | rfl)); refine callp_s (f := 91) rfl (c9 ..) ?_; conv => whnf))
         first
           | ( (refine br_t rfl ?_; conv => whnf)
               (refine br_f rfl ?_; conv => whnf)
               (refine rq_s (by ((simp only [decide_eq_true_eq, List.length_map]; done))) ?_; conv => whnf)
               (refine rq_s (by (rfl)) ?_; conv => whnf)
               (refine rows_s (by ((refine sub_all ?_; simp [List.length_map]; done))) ?_; conv => whnf)
               (refine aftp_s (by rfl) ?_; conv => whnf)
               (refine rows_s (by (rfl)) ?_; conv => whnf)
               (refine aftp_s (by rfl) ?_; conv => whnf)
               exact True.intro)
           | ( iterate 2 (refine br_t rfl ?_; conv => whnf)
               (refine rq_s (by (rfl)) ?_; conv => whnf)
               (refine rq_s (by (((first | (simp [maxBytes, subA, seg]; omega) | (refine and_s rfl ?_; simp [maxBytes, subA, seg]; omega) | (have h60 := of_decide_eq_true hb; simp only [Bool.and_eq_true, decide_eq_true_eq, List.length_map] at h60 ⊢; omega))))) ?_; conv => whnf)
               (refine rq_s (by ((simp only [decide_eq_true_eq, List.length_map]; done))) ?_; conv => whnf)
               (refine rq_s (by (rfl)) ?_; conv => whnf)
               (refine rq_s (by ((simp only [decide_eq_true_eq, List.length_map]; done))) ?_; conv => whnf)
               (refine rq_s (by (rfl)) ?_; conv => whnf)
               (refine rows_s (by (exact sub_map _ _ _ _)) ?_; conv => whnf)
               (refine aftp_s (by rfl) ?_; conv => whnf)
               (refine rows_s (by (rfl)) ?_; conv => whnf)
               (refine aftp_s (by rfl) ?_; conv => whnf)
               exact True.intro)))
end S9

/- The reference's source of data, 10: lists of items that may not fit; contracts. -/
set_option linter.unusedVariables false
set_option linter.unusedSimpArgs false
set_option maxRecDepth 100000
open Go Go.Abs Go.Proofs V1 H1 S1 S2 S3 S4 S5 S6 S7 S8 S9
namespace S10

structure Ts3 where
  a : Int
  m : Int
  xs : List Itm
/-- A round: it goes on, and an item or two are put to the list. -/
inductive R3 (d : List UInt8) (j : Nat) : Ts3 → Ts3 → Prop
  | t {a m a1 m1 a2 m2 u : Int} {xs : List Itm} (c1 : NxC d 3 a m a1 m1 u) (hu : decide ((j : Int) < IntKind.i64.wrap (7 + u)) = true) (c2 : ChC d 2 a1 m1 a2 m2 true) : R3 d j ⟨a, m, xs⟩ ⟨a2, m2, [⟨3, 0⟩] ++ xs ++ [⟨5, 0⟩]⟩
  | f {a m a1 m1 a2 m2 u : Int} {xs : List Itm} (c1 : NxC d 3 a m a1 m1 u) (hu : decide ((j : Int) < IntKind.i64.wrap (7 + u)) = true) (c2 : ChC d 2 a1 m1 a2 m2 false) : R3 d j ⟨a, m, xs⟩ ⟨a2, m2, [⟨3, 0⟩] ++ xs⟩
def Run3 (d : List UInt8) (r j : Nat) (s : Ts3) : Prop := ∃ (n : Nat) (f : Nat → Ts3) (a' m' u : Int), f 0 = s ∧ n ≤ r ∧ (∀ i, i < n → R3 d (j + i) (f i) (f (i + 1))) ∧ (∀ i, i ≤ n → (f i).xs.length ≤ s.xs.length + 2 * i) ∧
    NxC d 3 (f n).a (f n).m a' m' u ∧ decide (((j + n : Nat) : Int) < IntKind.i64.wrap (7 + u)) = false ∧ SrcOk a' m' 6000000000
theorem Run3.cons {d : List UInt8} {r j : Nat} {s s' : Ts3} (hr : R3 d j s s') (e3 : s'.xs.length ≤ s.xs.length + 2) (h : Run3 d r (j + 1) s') : Run3 d (r + 1) j s := by
  obtain ⟨n, f, a', m', u', q0, q1, q2, q3, q4, q5, q6⟩ := h
  refine ⟨n + 1, fun i => match i with | 0 => s | i + 1 => f i, a', m', u', rfl, by omega, fun i hi => ?_, fun i hi => ?_, q4, by rw [show j + (n + 1) = j + 1 + n by omega]; exact q5, q6⟩
  · match i with
    | 0 => simp only; rw [q0]; exact hr
    | i + 1 => have := q2 i (by omega); rw [show j + 1 + i = j + (i + 1) by omega] at this; exact this
  · match i with
    | 0 => simp
    | i + 1 => have := q3 i (by omega); simp only; omega
theorem Run3.stop {d : List UInt8} {r j : Nat} {s : Ts3} {a' m' u : Int} (k : NxC d 3 s.a s.m a' m' u) (hu : decide ((j : Int) < IntKind.i64.wrap (7 + u)) = false) (h : SrcOk a' m' 6000000000) : Run3 d r j s :=
  ⟨0, fun _ => s, a', m', u, rfl, by omega, fun i hi => by omega, fun i hi => by simp, k, hu, h⟩
theorem run3 (d : List UInt8) : ∀ (r j : Nat) (s : Ts3) {L : Int}, j + r = 9 → SrcOk s.a s.m L → L ≤ 5400000000 + j * 1000 → Run3 d r j s := by
  intro r
  induction r with
  | zero =>
    intro j s L hj h hl
    obtain ⟨u, a1, m1, k1, p1, q1, h1⟩ := nx d 3 h (by omega)
    have w : IntKind.i64.wrap (7 + u) = 7 + u := wrap64 (by omega) (by omega)
    exact .stop k1 (by rw [w]; simp; omega) (sle h1 (by omega))
  | succ r ih =>
    intro j s L hj h hl
    obtain ⟨u, a1, m1, k1, p1, q1, h1⟩ := nx d 3 h (by omega)
    by_cases hc : decide ((j : Int) < IntKind.i64.wrap (7 + u)) = true
    · obtain ⟨b, a2, m2, k2, h2⟩ := ch d 2 h1 (by omega)
      obtain ⟨a, m, xs⟩ := s
      cases b with
      | true => exact .cons (.t k1 hc k2) (by simp) (ih (j + 1) _ (L := L + 3 + 3) (by omega) h2 (by omega))
      | false => exact .cons (.f k1 hc k2) (by simp) (ih (j + 1) _ (L := L + 3 + 3) (by omega) h2 (by omega))
    · exact .stop k1 (by simpa using hc) (sle h1 (by omega))


theorem appx_s {α : Type} (f : α → List AV) {xs ys : List α} {lvl l : Nat} {K : Nat → List (List AV) → Nat → Prop} (k : K lvl ((ys ++ xs).map f) (ys ++ xs).length) :
    AppG lvl (subA (ys.map f) 0 (ys.map f).length ++ (l, subA (xs.map f) 0 xs.length).snd) ((ys.map f).length + (l, subA (xs.map f) 0 xs.length).snd.length) K :=
  ⟨_, _, _, rfl, by simp [subA, List.take_of_length_le], by simp [subA], k⟩
theorem any_3 (d : List UInt8) {xs : List Itm} {a m a1 m1 a2 m2 a3 m3 k a8 m8 u : Int} {n : Nat} {f : Nat → Ts3} (hx : xs.length ≤ 60) (k1 : ItC d a m a1 m1 xs) (k2 : NxC d (IntKind.i64.wrap ((xs.map itR).length + 1)) a1 m1 a2 m2 k)
    (k3 : NxC d 8 a2 m2 a3 m3 3) (f0 : f 0 = ⟨a3, m3, xs⟩) (hn : n ≤ 9) (hr : ∀ i, i < n → R3 d (0 + i) (f i) (f (i + 1))) (hl : ∀ i, i ≤ n → (f i).xs.length ≤ xs.length + 2 * i) (k4 : NxC d 3 (f n).a (f n).m a8 m8 u) (hu : decide (((0 + n : Nat) : Int) < IntKind.i64.wrap (7 + u)) = false)
    {a9 m9 : Int} {zs : List Itm} (ht : Tl d (f n).xs (f n).xs.length a8 m8 a9 m9 zs) : AnC d a m a9 m9 zs := by
  unfold ItC at k1
  unfold NxC at k2 k3 k4
  rw [Nat.zero_add] at hu
  refine Con.evP 91 [500000] rfl T_ok mix Try.func84 rfl rfl rfl rfl [.tmp 2] rfl ?_
  conv => whnf
  (refine handp_s 87 [some 3, none] ?_; conv => whnf)
  iterate 2 (refine rq_s (by (rfl)) ?_; conv => whnf)
  (focus (apply callpe_s (f := 87); (· repeat' (first | (refine sub_all ?_; simp [List.length_map]; done) | exact sub_map _ _ _ _ | apply cons_eq | apply obj_eq | apply agg_eq | apply own_eq | apply ro_eq | apply rp_eq | apply fnc_eq | rfl)); refine callp_s (f := 87) rfl (k1 ..) ?_; conv => whnf))
  (refine fac_s (fun hf => ?_); conv => whnf)
  (refine handp_s 93 [some 3, none] ?_; conv => whnf)
  iterate 2 (refine rq_s (by (rfl)) ?_; conv => whnf)
  (focus (apply callpe_s (f := 93); (· repeat' (first | (refine sub_all ?_; simp [List.length_map]; done) | exact sub_map _ _ _ _ | apply cons_eq | apply obj_eq | apply agg_eq | apply own_eq | apply ro_eq | apply rp_eq | apply fnc_eq | rfl)); refine callp_s (f := 93) rfl (k2 ..) ?_; conv => whnf))
  (refine fac_s (fun hf => ?_); conv => whnf)
  (refine handp_s 93 [some 3, none] ?_; conv => whnf)
  iterate 2 (refine rq_s (by (rfl)) ?_; conv => whnf)
  (focus (apply callpe_s (f := 93); (· repeat' (first | (refine sub_all ?_; simp [List.length_map]; done) | exact sub_map _ _ _ _ | apply cons_eq | apply obj_eq | apply agg_eq | apply own_eq | apply ro_eq | apply rp_eq | apply fnc_eq | rfl)); refine callp_s (f := 93) rfl (k3 ..) ?_; conv => whnf))
  (refine fac_s (fun hf => ?_); conv => whnf)
  iterate 3 (refine br_f rfl ?_; conv => whnf)
  (refine br_t rfl ?_; conv => whnf)
  rotate_left
  refine LoopG.auto (α := Nat) T_ok mix [0, 3, 5] (fun j => [(0, .ptr 500000 0 0), (3, .ref 2 0 (f j).xs.length), (5, .int .i64 j)]) (fun j => [(500000, .live ⟨false, 0, [.undef, .undef, .undef], [srcC d (f j).a (f j).m]⟩), (2, .live ⟨true, 0, zT, (f j).xs.map itR⟩)]) (fun j => j ≤ n) (fun j => n - j) ?_ ?_
  · conv => whnf
    (refine ChkS.mk (by kernel_rfl) ?_; conv => whnf)
    rotate_left
    exact head_s 0 (by omega) (by rw [f0]; simp) (by rw [f0]; rfl)
  · intro j hj _ _
    have hlj := hl j hj
    by_cases hjn : j = n
    · subst hjn
      rcases ht with ⟨hb⟩ | ⟨hb, c9⟩ | ⟨hb, c9⟩ <;>
      (conv => whnf
       (refine handp_s 93 [some 3, none] ?_; conv => whnf)
       iterate 2 (refine rq_s (by (rfl)) ?_; conv => whnf)
       (focus (apply callpe_s (f := 93); (· repeat' (first | (refine sub_all ?_; simp [List.length_map]; done) | exact sub_map _ _ _ _ | apply cons_eq | apply obj_eq | apply agg_eq | apply own_eq | apply ro_eq | apply rp_eq | apply fnc_eq | rfl)); refine callp_s (f := 93) rfl (k4 ..) ?_; conv => whnf))
       (refine fac_s (fun hf => ?_); conv => whnf)
       first
         | ( iterate 2 (refine br_f (by assumption) ?_; conv => whnf)
             iterate 4 (refine br_f rfl ?_; conv => whnf)
             (refine rq_s (by ((simp only [decide_eq_true_eq, List.length_map]; done))) ?_; conv => whnf)
             (refine rq_s (by (rfl)) ?_; conv => whnf)
             (refine rows_s (by ((refine sub_all ?_; simp [List.length_map]; done))) ?_; conv => whnf)
             (refine aftp_s (by rfl) ?_; conv => whnf)
             (refine rows_s (by (rfl)) ?_; conv => whnf)
             (refine aftp_s (by rfl) ?_; conv => whnf)
             exact True.intro)
         | ( (refine br_f (by assumption) ?_; conv => whnf)
             (refine br_t (by assumption) ?_; conv => whnf)
             (refine br_t rfl ?_; conv => whnf)
             (refine handp_s 91 [some 3, none] ?_; conv => whnf)
             iterate 2 (refine rq_s (by (rfl)) ?_; conv => whnf)
             (focus (apply callpe_s (f := 91); (· repeat' (first | (refine sub_all ?_; simp [List.length_map]; done) | exact sub_map _ _ _ _ | apply cons_eq | apply obj_eq | apply agg_eq | apply own_eq | apply ro_eq | apply rp_eq | apply fnc_eq | rfl)); refine callp_s (f := 91) rfl (c9 ..) ?_; conv => whnf))
             first
               | ( (refine br_t rfl ?_; conv => whnf)
                   (refine br_f rfl ?_; conv => whnf)
                   (refine rq_s (by ((simp only [decide_eq_true_eq, List.length_map]; done))) ?_; conv => whnf)
                   (refine rq_s (by (rfl)) ?_; conv => whnf)
                   (refine rows_s (by ((refine sub_all ?_; simp [List.length_map]; done))) ?_; conv => whnf)
                   (refine aftp_s (by rfl) ?_; conv => whnf)
                   (refine rows_s (by (rfl)) ?_; conv => whnf)
                   (refine aftp_s (by rfl) ?_; conv => whnf)
                   exact True.intro)
               | ( iterate 2 (refine br_t rfl ?_; conv => whnf)
                   (refine rq_s (by (rfl)) ?_; conv => whnf)
                   (refine rq_s (by (((have h60 := of_decide_eq_true hb; simp only [Bool.and_eq_true, decide_eq_true_eq, List.length_map] at h60 ⊢; omega)))) ?_; conv => whnf)
                   (refine rq_s (by ((simp only [decide_eq_true_eq, List.length_map]; done))) ?_; conv => whnf)
                   (refine rq_s (by (rfl)) ?_; conv => whnf)
                   (refine rq_s (by ((simp only [decide_eq_true_eq, List.length_map]; done))) ?_; conv => whnf)
                   (refine rq_s (by (rfl)) ?_; conv => whnf)
                   (refine rows_s (by (exact sub_map _ _ _ _)) ?_; conv => whnf)
                   (refine aftp_s (by rfl) ?_; conv => whnf)
                   (refine rows_s (by (rfl)) ?_; conv => whnf)
                   (refine aftp_s (by rfl) ?_; conv => whnf)
                   exact True.intro)))
    · have hx := hr j (by omega)
      rw [Nat.zero_add] at hx
      have hi1 : IntKind.i64.wrap ((j : Int) + 1) = ((j + 1 : Nat) : Int) := by rw [wrap64 (by omega) (by omega)]; omega
      have hl1 := hl (j + 1) (by omega)
      generalize h1 : f j = s1 at *
      generalize h2 : f (j + 1) = s2 at *
      cases hx with
      | @t a' m' a1 m1 a2 m2 u xs c1 hu c2 =>
        simp only at hlj hl1
        conv => whnf
        (refine handp_s 93 [some 3, none] ?_; conv => whnf)
        iterate 2 (refine rq_s (by (rfl)) ?_; conv => whnf)
        (focus (apply callpe_s (f := 93); (· repeat' (first | (refine sub_all ?_; simp [List.length_map]; done) | exact sub_map _ _ _ _ | apply cons_eq | apply obj_eq | apply agg_eq | apply own_eq | apply ro_eq | apply rp_eq | apply fnc_eq | rfl)); refine callp_s (f := 93) rfl (c1 ..) ?_; conv => whnf))
        (refine fac_s (fun hf => ?_); conv => whnf)
        (refine br_t (by assumption) ?_; conv => whnf)
        (refine rq_s (by (rfl)) ?_; conv => whnf)
        (refine lend_s ?_; conv => whnf)
        (refine call_s (c130 ..) ?_; conv => whnf)
        (refine rq_s (by ((simp only [decide_eq_true_eq, List.length_map]; done))) ?_; conv => whnf)
        iterate 2 (refine rq_s (by (rfl)) ?_; conv => whnf)
        (refine rq_s (by ((simp only [decide_eq_true_eq, List.length_map]; done))) ?_; conv => whnf)
        (refine rq_s (by (((first | (simp [maxBytes, subA]; omega) | (refine and_s rfl ?_; simp [maxBytes, subA]; omega))))) ?_; conv => whnf)
        (refine appx_s itR ?_; conv => whnf)
        (refine handp_s 91 [some 3, none] ?_; conv => whnf)
        iterate 2 (refine rq_s (by (rfl)) ?_; conv => whnf)
        (focus (apply callpe_s (f := 91); (· repeat' (first | (refine sub_all ?_; simp [List.length_map]; done) | exact sub_map _ _ _ _ | apply cons_eq | apply obj_eq | apply agg_eq | apply own_eq | apply ro_eq | apply rp_eq | apply fnc_eq | rfl)); refine callp_s (f := 91) rfl (c2 ..) ?_; conv => whnf))
        (refine br_t rfl ?_; conv => whnf)
        iterate 2 (refine rq_s (by (rfl)) ?_; conv => whnf)
        (refine rq_s (by ((simp only [decide_eq_true_eq, List.length_map]; done))) ?_; conv => whnf)
        iterate 2 (refine rq_s (by (rfl)) ?_; conv => whnf)
        (refine rq_s (by ((simp only [decide_eq_true_eq, List.length_map]; done))) ?_; conv => whnf)
        (refine rq_s (by (((first | (simp [maxBytes, subA]; omega) | (refine and_s rfl ?_; simp [maxBytes, subA]; omega))))) ?_; conv => whnf)
        (refine appf_s itR (y := ⟨5, 0⟩) rfl ?_; conv => whnf)
        (refine ChkS.mk (by kernel_rfl) ?_; conv => whnf)
        rotate_left
        exact head_s (j + 1) ⟨by omega, by omega⟩ (by simp only [h2, hi1]) (by simp only [h2]; rfl)
      | @f a' m' a1 m1 a2 m2 u xs c1 hu c2 =>
        simp only at hlj hl1
        conv => whnf
        (refine handp_s 93 [some 3, none] ?_; conv => whnf)
        iterate 2 (refine rq_s (by (rfl)) ?_; conv => whnf)
        (focus (apply callpe_s (f := 93); (· repeat' (first | (refine sub_all ?_; simp [List.length_map]; done) | exact sub_map _ _ _ _ | apply cons_eq | apply obj_eq | apply agg_eq | apply own_eq | apply ro_eq | apply rp_eq | apply fnc_eq | rfl)); refine callp_s (f := 93) rfl (c1 ..) ?_; conv => whnf))
        (refine fac_s (fun hf => ?_); conv => whnf)
        (refine br_t (by assumption) ?_; conv => whnf)
        (refine rq_s (by (rfl)) ?_; conv => whnf)
        (refine lend_s ?_; conv => whnf)
        (refine call_s (c130 ..) ?_; conv => whnf)
        (refine rq_s (by ((simp only [decide_eq_true_eq, List.length_map]; done))) ?_; conv => whnf)
        iterate 2 (refine rq_s (by (rfl)) ?_; conv => whnf)
        (refine rq_s (by ((simp only [decide_eq_true_eq, List.length_map]; done))) ?_; conv => whnf)
        (refine rq_s (by (((first | (simp [maxBytes, subA]; omega) | (refine and_s rfl ?_; simp [maxBytes, subA]; omega))))) ?_; conv => whnf)
        (refine appx_s itR ?_; conv => whnf)
        (refine handp_s 91 [some 3, none] ?_; conv => whnf)
        iterate 2 (refine rq_s (by (rfl)) ?_; conv => whnf)
        (focus (apply callpe_s (f := 91); (· repeat' (first | (refine sub_all ?_; simp [List.length_map]; done) | exact sub_map _ _ _ _ | apply cons_eq | apply obj_eq | apply agg_eq | apply own_eq | apply ro_eq | apply rp_eq | apply fnc_eq | rfl)); refine callp_s (f := 91) rfl (c2 ..) ?_; conv => whnf))
        (refine br_f rfl ?_; conv => whnf)
        (refine ChkS.mk (by kernel_rfl) ?_; conv => whnf)
        rotate_left
        exact head_s (j + 1) ⟨by omega, by omega⟩ (by simp only [h2, hi1]) (by simp only [h2]; rfl)
theorem any_ex (d : List UInt8) {a m L : Int} (h : SrcOk a m L) (hl : L ≤ 5000000000) : ∃ xs a' m', AnC d a m a' m' xs ∧ xs.length ≤ 1000 := by
  obtain ⟨xs, a1, m1, k1, f1, l1, h1⟩ := it_ex d h (by omega)
  obtain ⟨k, a2, m2, k2, p2, q2, h2⟩ := nx d (IntKind.i64.wrap ((xs.map itR).length + 1)) h1 (by omega)
  rw [wrap64 (by omega) (by simp; omega), List.length_map] at q2
  obtain ⟨v, a3, m3, k3, p3, q3, h3⟩ := nx d 8 h2 (by omega)
  have hk0 : k ≤ xs.length := by omega
  by_cases c4 : 4 ≤ v
  · obtain ⟨a9, m9, zs, ht, hz⟩ := tl_ex d xs (xs.map itR).length h3 (by omega)
    exact ⟨zs, a9, m9, any_4 d l1 k1 k2 p2 hk0 k3 c4 ht, by omega⟩
  by_cases c3 : v = 3
  · subst c3
    obtain ⟨n, f, a8, m8, u, q0, q1, q2, q3, q4, q5, q6⟩ := run3 d 9 0 ⟨a3, m3, xs⟩ (by omega) h3 (by omega)
    obtain ⟨a9, m9, zs, ht, hz⟩ := tl_ex d (f n).xs (f n).xs.length q6 (by omega)
    have := q3 n (Nat.le_refl _)
    simp only at this
    exact ⟨zs, a9, m9, any_3 d l1 k1 k2 k3 q0 q1 q2 q3 q4 q5 ht, by omega⟩
  by_cases c0 : v = 0
  · subst c0
    obtain ⟨v4, a4, m4, k4, p4, q4, h4⟩ := nx d 11 h3 (by omega)
    obtain ⟨a9, m9, zs, ht, hz⟩ := tl_ex d _ _ h4 (by omega)
    refine ⟨zs, a9, m9, any_0 d l1 k1 k2 p2 hk0 k3 k4 ht, ?_⟩
    have e1 := seg_le xs (0 + 0) (k.toNat - 0)
    have e2 := seg_le xs (0 + k.toNat) ((xs.map itR).length - k.toNat)
    simp only [List.length_append, List.length_cons, List.length_nil] at hz
    omega
  have hkd : decide (k < ((xs.map itR).length : Int)) = true ∨ decide (k < ((xs.map itR).length : Int)) = false := by
    cases decide (k < ((xs.map itR).length : Int)) with
    | true => exact .inl rfl
    | false => exact .inr rfl
  by_cases c1 : v = 1
  · subst c1
    rcases hkd with hk | hk
    · obtain ⟨a9, m9, zs, ht, hz⟩ := tl_ex d _ _ h3 (by omega)
      refine ⟨zs, a9, m9, any_1 d l1 k1 k2 p2 hk0 k3 hk ht, ?_⟩
      have e1 := seg_le xs (0 + 0) (k.toNat - 0)
      have e2 := seg_le xs (0 + (IntKind.i64.wrap (k + 1)).toNat) ((xs.map itR).length - (IntKind.i64.wrap (k + 1)).toNat)
      simp only [List.length_append, List.length_cons, List.length_nil] at hz
      omega
    · obtain ⟨a9, m9, zs, ht, hz⟩ := tl_ex d xs (xs.map itR).length h3 (by omega)
      exact ⟨zs, a9, m9, any_1x d l1 k1 k2 p2 hk0 k3 hk ht, by omega⟩
  obtain rfl : v = 2 := by omega
  rcases hkd with hk | hk
  · obtain ⟨v4, a4, m4, k4, p4, q4, h4⟩ := nx d 15 h3 (by omega)
    obtain ⟨v5, a5, m5, k5, p5, q5, h5⟩ := nx d 3 h4 (by omega)
    obtain ⟨a9, m9, zs, ht, hz⟩ := tl_ex d (xs.set (0 + k.toNat) ⟨v4, v5⟩) (xs.map itR).length h5 (by omega)
    rw [List.length_set] at hz
    exact ⟨zs, a9, m9, any_2 d l1 k1 k2 p2 hk0 k3 hk k4 k5 ht, by omega⟩
  · obtain ⟨a9, m9, zs, ht, hz⟩ := tl_ex d xs (xs.map itR).length h3 (by omega)
    exact ⟨zs, a9, m9, any_2x d l1 k1 k2 p2 hk0 k3 hk ht, by omega⟩
theorem min_wrap (n : Nat) : (if (60 : Int) < n then (60 : Int) else n).toNat = min 60 n := by split <;> omega
theorem doubt (d : List UInt8) : ∃ xs : List Itm, Con Try.prog 35 [roU d] (undefs [roU d]) (ownT xs) ∧ xs.length ≤ 1000 := by
  obtain ⟨xs, a1, m1, k1, l1⟩ := any_ex d (src_ok d) (by omega)
  unfold AnC at k1
  refine ⟨xs.take (if (60 : Int) < (xs.map itR).length then (60 : Int) else (xs.map itR).length).toNat, ?_, by simp; omega⟩
  refine Con.ev 12 T_ok mix Try.func35 rfl rfl rfl rfl [.tmp 2] rfl ?_
  conv => whnf
  (refine rq_s (by (rfl)) ?_; conv => whnf)
  (refine lend_s ?_; conv => whnf)
  (refine rows_s (by (rfl)) ?_; conv => whnf)
  (refine call_s (c45 ..) ?_; conv => whnf)
  (refine handp_s 84 [some 3] ?_; conv => whnf)
  (refine rq_s (by (rfl)) ?_; conv => whnf)
  (focus (apply callpe_s (f := 84); (· repeat' (first | (refine sub_all ?_; simp [List.length_map]; done) | exact sub_map _ _ _ _ | apply cons_eq | apply obj_eq | apply agg_eq | apply own_eq | apply ro_eq | apply rp_eq | apply fnc_eq | rfl)); refine callp_s (f := 84) rfl (k1 ..) ?_; conv => whnf))
  (refine fac_s (fun hf => ?_); conv => whnf)
  (refine rq_s (by ((simp only [Bool.and_eq_true, decide_eq_true_eq, List.length_map]; omega))) ?_; conv => whnf)
  (refine rq_s (by ((refine and_s rfl ?_; simp only [decide_eq_true_eq, List.length_map]; omega))) ?_; conv => whnf)
  (refine rq_s (by ((simp only [decide_eq_true_eq, List.length_map]; done))) ?_; conv => whnf)
  (refine rq_s (by (rfl)) ?_; conv => whnf)
  (refine rq_s (by ((simp only [decide_eq_true_eq, List.length_map]; done))) ?_; conv => whnf)
  (refine rq_s (by (rfl)) ?_; conv => whnf)
  (refine rows_s (by (exact sub_map _ _ _ _)) ?_; conv => whnf)
  (refine sh_s ?_; ((simp [ownT, List.map_take, subA])))
end S10

/- What FnItems asks besides: what is open, sizes, a place; contracts. -/
set_option linter.unusedVariables false
set_option linter.unusedSimpArgs false
set_option maxRecDepth 100000
open Go Go.Abs Go.Proofs V1 H1 I1 I2 I3 I4 I5 I6 I7 I8 I9 I10 I11 S1 S2 S3 S4 S5 S6 S7 S8 S9 S10
namespace S11

theorem openGo_pre : ∀ (xs : List Itm) (i : Int) (op op' : List Int) (p : Nat), openGo xs i op = (op', -1) → 0 ≤ i → ∃ op2, openGo (xs.take p) i op = (op2, -1)
  | [], i, op, op', p, h, hi => ⟨op, by simp [openGo]⟩
  | x :: l, i, op, op', 0, h, hi => ⟨op, rfl⟩
  | x :: l, i, op, op', p + 1, h, hi => by
    rw [openGo] at h
    split at h
    · rename_i hf
      obtain ⟨op2, h2⟩ := openGo_pre l (i + 1) _ op' p h (by omega)
      exact ⟨op2, by rw [List.take_succ_cons, openGo, if_pos hf, h2]⟩
    · have h2 := congrArg Prod.snd h
      simp only at h2
      omega
def opR (op : List Int) : AV := .tup [roI op, .int .i64 0]

theorem c39 (xs : List Itm) (p : Nat) (op : List Int) (ha : askF xs = 0) (hp : p ≤ xs.length) (ho : openF (xs.take p) = (op, -1)) : Con Try.prog 39 [roT xs, .int .i64 p] (undefs [roT xs, .int .i64 p]) (opR op) := by
  have k1 := c85 xs
  rw [ha] at k1
  have k2 := c68 p 0 (xs.map itR).length
  rw [show inR (p : Int) 0 ((xs.map itR).length : Int) = true by simp [inR]; omega] at k2
  have k3 := c88 (xs.take p)
  rw [ho] at k3
  have hr : subA (xs.map itR) 0 p = (xs.take p).map itR := by simp [subA, List.map_take]
  refine Con.ev 29 T_ok mix Try.func39 rfl rfl rfl rfl [.tmp 4, .tmp 5] rfl ?_
  conv => whnf
  (refine rq_s (by (rfl)) ?_; conv => whnf)
  (refine lend_s ?_; conv => whnf)
  (refine rows_s (by (rfl)) ?_; conv => whnf)
  (refine call_s (k1 ..) ?_; conv => whnf)
  (refine fac_s (fun hf => ?_); conv => whnf)
  (refine br_f rfl ?_; conv => whnf)
  iterate 3 (refine rq_s (by (rfl)) ?_; conv => whnf)
  (refine lend_s ?_; conv => whnf)
  (refine call_s (k2 ..) ?_; conv => whnf)
  (refine br_f rfl ?_; conv => whnf)
  (refine rq_s (by (rfl)) ?_; conv => whnf)
  (refine rq_s (by ((refine and_s rfl ?_; simp only [decide_eq_true_eq, List.length_map]; omega))) ?_; conv => whnf)
  iterate 2 (refine rq_s (by (rfl)) ?_; conv => whnf)
  (refine lend_s ?_; conv => whnf)
  (refine rows_s (by (exact sub_map _ _ _ _)) ?_; conv => whnf)
  (refine call_s (k3 ..) ?_; conv => whnf)
  iterate 2 (refine fac_s (fun hf => ?_); conv => whnf)
  (refine br_f rfl ?_; conv => whnf)
  iterate 2 (refine rq_s (by (rfl)) ?_; conv => whnf)
  (refine rows_s (by (rfl)) ?_; conv => whnf)
  (refine sh_s ?_; (rfl))
theorem c41 (xs : List Itm) (p : Nat) (op : List Int) (ha : askF xs = 0) (hp : p ≤ xs.length) (ho : openF (xs.take p) = (op, -1)) : Con Try.prog 41 [roT xs, .int .i64 p] (undefs [roT xs, .int .i64 p]) (opR op) := by
  have k1 := c63 xs
  rw [ha] at k1
  have k2 := c54 p 0 (xs.map itR).length
  rw [show inR (p : Int) 0 ((xs.map itR).length : Int) = true by simp [inR]; omega] at k2
  have h60 := (askF_0 ha).1
  have hbl : decide (((xs.map itR).length : Int) > 4096) = false := by simp; omega
  refine Con.ev 50 T_ok mix Try.func41 rfl rfl rfl rfl [.tmp 4, .tmp 5] rfl ?_
  conv => whnf
  (refine br_f (by assumption) ?_; conv => whnf)
  (refine rq_s (by (rfl)) ?_; conv => whnf)
  (refine lend_s ?_; conv => whnf)
  (refine rows_s (by (rfl)) ?_; conv => whnf)
  (refine call_s (k1 ..) ?_; conv => whnf)
  (refine fac_s (fun hf => ?_); conv => whnf)
  (refine br_f rfl ?_; conv => whnf)
  iterate 3 (refine rq_s (by (rfl)) ?_; conv => whnf)
  (refine lend_s ?_; conv => whnf)
  (refine call_s (k2 ..) ?_; conv => whnf)
  (refine br_f rfl ?_; conv => whnf)
  (refine rq_s (by (rfl)) ?_; conv => whnf)
  rotate_left
  refine LoopG.emp 7 zI rfl ?_
  refine LoopG.rounds (α := Nat × List Int) T_ok mix [0, 1, 8, 7] [] (fun a => [(0, roT xs), (1, .int .i64 p), (8, .int .i64 a.1), (7, roI a.2)]) (fun _ => []) (fun a => a.1 ≤ p ∧ openK a.2 ∧ openGo ((xs.take p).drop a.1) a.1 a.2 = (op, -1)) (fun a => p - a.1) ?_ ?_
  · conv => whnf
    exact head_s (0, []) ⟨by simp, openK_nil, by simpa [openF] using ho⟩ (by simp [roT, roI, subA]) rfl
  · rintro ⟨i, o⟩ ⟨h1, h2, h3⟩ - -
    simp only at h1 h2 h3 ⊢
    have hlp : (xs.take p).length = p := by simp; omega
    by_cases hip : i = p
    · subst hip
      rw [List.drop_of_length_le (by omega)] at h3
      simp only [openGo, Prod.mk.injEq, and_true] at h3
      subst h3
      have hlt : decide ((i : Int) < i) = false := by simp
      have hol := h2.2
      conv => whnf
      (focus (refine br_f (by (simp; done)) ?_; conv => whnf))
      iterate 3 (refine rq_s (by (rfl)) ?_; conv => whnf)
      (refine rq_s (by (((simp [maxBytes, subA]; omega)))) ?_; conv => whnf)
      (refine app0_s ?_; conv => whnf)
      (refine rq_s (by ((simp only [decide_eq_true_eq, List.length_map]; done))) ?_; conv => whnf)
      iterate 2 (refine rq_s (by (rfl)) ?_; conv => whnf)
      (refine rows_s (by ((refine sub_all ?_; simp [List.length_map]; done))) ?_; conv => whnf)
      rotate_left
      exact ⟨Sh.tup ⟨Sh.own_ro (by omega) _ _, Sh.refl _, trivial⟩⟩
    · have hlt : decide ((i : Int) < p) = true := by simp; omega
      have hg : (xs.take p).getD i default = xs.getD i default := by
        simp [List.getElem?_take, show i < p by omega]
      have hfb : fitB o (xs.getD i default).k = true := by
        rw [openGo_next (by omega), hg] at h3
        by_cases hf0 : fitB o (xs.getD i default).k = true
        · exact hf0
        · rw [if_neg hf0] at h3
          have := congrArg Prod.snd h3
          simp only at this
          omega
      rw [openGo_next (by omega), hg, if_pos hfb] at h3
      have k4 := c89 o (xs.getD i default).k h2.2
      rw [hfb] at k4
      conv => whnf
      (refine br_t (by assumption) ?_; conv => whnf)
      (refine rq_s (by (rfl)) ?_; conv => whnf)
      (refine rq_s (by ((refine and_s rfl ?_; simp only [decide_eq_true_eq, List.length_map]; omega))) ?_; conv => whnf)
      (refine rq_s (by (rfl)) ?_; conv => whnf)
      (refine row_s (by ((try simp only [Int.toNat_natCast]); exact row_map itR _ _ _ default (by first | omega | (simp; omega)))) ?_; conv => whnf)
      iterate 2 (refine rq_s (by (rfl)) ?_; conv => whnf)
      (refine lend_s ?_; conv => whnf)
      (refine rows_s (by (rfl)) ?_; conv => whnf)
      (refine call_s (k4 ..) ?_; conv => whnf)
      (refine fac_s (fun hf => ?_); conv => whnf)
      (refine br_f rfl ?_; conv => whnf)
      rotate_left
      exact head_s (i + 1, fitL o (xs.getD i default).k) ⟨⟨by simp only; omega, openK_fit h2 hfb, h3⟩, by simp only; omega⟩ (by rw [wrap64 (by omega) (by omega)]; rfl) rfl
def szV (n : Int) : AV := .tup [.int .i64 n, .int .i64 0]
theorem c42 (xs : List Itm) (ha : askF xs = 0) : Con Try.prog 42 [roT xs] (undefs [roT xs]) (szV (sizeF xs)) := by
  have k1 := c85 xs
  rw [ha] at k1
  have h60 := (askF_0 ha).1
  have k2 := c69 xs (by omega)
  refine Con.ev 12 T_ok mix Try.func42 rfl rfl rfl rfl [.tmp 2, .tmp 3] rfl ?_
  conv => whnf
  (refine rq_s (by (rfl)) ?_; conv => whnf)
  (refine lend_s ?_; conv => whnf)
  (refine rows_s (by (rfl)) ?_; conv => whnf)
  (refine call_s (k1 ..) ?_; conv => whnf)
  (refine fac_s (fun hf => ?_); conv => whnf)
  (refine br_f rfl ?_; conv => whnf)
  (refine rq_s (by (rfl)) ?_; conv => whnf)
  (refine lend_s ?_; conv => whnf)
  (refine rows_s (by (rfl)) ?_; conv => whnf)
  (refine call_s (k2 ..) ?_; conv => whnf)
  (refine fac_s (fun hf => ?_); conv => whnf)
  iterate 2 (refine rq_s (by (rfl)) ?_; conv => whnf)
  (refine sh_s ?_; (rfl))
theorem c43 (xs : List Itm) (ha : askF xs = 0) : Con Try.prog 43 [roT xs] (undefs [roT xs]) (szV (sizeF xs)) := by
  have k1 := c63 xs
  rw [ha] at k1
  have h60 := (askF_0 ha).1
  have k2 := c65 xs (by omega)
  have hbl : decide (((xs.map itR).length : Int) > 4096) = false := by simp; omega
  refine Con.ev 15 T_ok mix Try.func43 rfl rfl rfl rfl [.tmp 2, .tmp 3] rfl ?_
  conv => whnf
  (refine br_f (by assumption) ?_; conv => whnf)
  (refine rq_s (by (rfl)) ?_; conv => whnf)
  (refine lend_s ?_; conv => whnf)
  (refine rows_s (by (rfl)) ?_; conv => whnf)
  (refine call_s (k1 ..) ?_; conv => whnf)
  (refine fac_s (fun hf => ?_); conv => whnf)
  (refine br_f rfl ?_; conv => whnf)
  (refine rq_s (by (rfl)) ?_; conv => whnf)
  (refine lend_s ?_; conv => whnf)
  (refine rows_s (by (rfl)) ?_; conv => whnf)
  (refine call_s (k2 ..) ?_; conv => whnf)
  (refine fac_s (fun hf => ?_); conv => whnf)
  iterate 2 (refine rq_s (by (rfl)) ?_; conv => whnf)
  (refine sh_s ?_; (rfl))
def ckF (xs : List Itm) : Int × Int := (if askF xs = 0 then (chkF xs).1 else 0, if askF xs = 0 then (chkF xs).2 else askF xs)
def ckV (r : Int × Int) : AV := .tup [.int .i64 r.1, .int .i64 r.2]
theorem c37 (xs : List Itm) : Con Try.prog 37 [roT xs] (undefs [roT xs]) (ckV (ckF xs)) := by
  by_cases hl : 4096 < xs.length
  · have hbl : decide (((xs.map itR).length : Int) > 4096) = true := by simp; omega
    have ha : askF xs = 2 := by rw [askF, if_pos hl]
    have e : ckF xs = (0, 2) := by rw [ckF, ha]; rfl
    rw [e]
    refine Con.ev 17 T_ok mix Try.func37 rfl rfl rfl rfl [.tmp 2, .tmp 3] rfl ?_
    conv => whnf
    (refine br_t (by assumption) ?_; conv => whnf)
    iterate 2 (refine rq_s (by (rfl)) ?_; conv => whnf)
    (refine sh_s ?_; (rfl))
  · have hbl : decide (((xs.map itR).length : Int) > 4096) = false := by simp; omega
    by_cases ha : askF xs = 0
    · have k1 := c63 xs
      rw [ha] at k1
      have e : ckF xs = ((chkF xs).1, (chkF xs).2) := by rw [ckF, if_pos ha, if_pos ha]
      rw [e]
      refine Con.ev 17 T_ok mix Try.func37 rfl rfl rfl rfl [.tmp 2, .tmp 3] rfl ?_
      conv => whnf
      (refine br_f (by assumption) ?_; conv => whnf)
      (refine rq_s (by (rfl)) ?_; conv => whnf)
      (refine lend_s ?_; conv => whnf)
      (refine rows_s (by (rfl)) ?_; conv => whnf)
      (refine call_s (k1 ..) ?_; conv => whnf)
      (refine fac_s (fun hf => ?_); conv => whnf)
      (refine br_f rfl ?_; conv => whnf)
      (refine rq_s (by (rfl)) ?_; conv => whnf)
      (refine lend_s ?_; conv => whnf)
      (refine rows_s (by (rfl)) ?_; conv => whnf)
      (refine call_s (c64 ..) ?_; conv => whnf)
      iterate 2 (refine fac_s (fun hf => ?_); conv => whnf)
      iterate 2 (refine rq_s (by (rfl)) ?_; conv => whnf)
      (refine sh_s ?_; (rfl))
    · have e : ckF xs = (0, askF xs) := by rw [ckF, if_neg ha, if_neg ha]
      have hn : (!(askF xs == 0)) = true := by simpa using ha
      rw [e]
      refine Con.ev 17 T_ok mix Try.func37 rfl rfl rfl rfl [.tmp 2, .tmp 3] rfl ?_
      conv => whnf
      (refine br_f (by assumption) ?_; conv => whnf)
      (refine rq_s (by (rfl)) ?_; conv => whnf)
      (refine lend_s ?_; conv => whnf)
      (refine rows_s (by (rfl)) ?_; conv => whnf)
      (refine call_s (c63 ..) ?_; conv => whnf)
      (refine fac_s (fun hf => ?_); conv => whnf)
      (refine br_t (by assumption) ?_; conv => whnf)
      iterate 2 (refine rq_s (by (rfl)) ?_; conv => whnf)
      (refine sh_s ?_; (rfl))

theorem same (xs : List Int) : Con Try.prog 44 [roI xs, roI xs] (undefs [roI xs, roI xs]) (.bool true) := by
  have hne : ∀ n : Int, (!(n == n)) = false := fun n => by simp
  refine Con.evF 26 T_ok mix Try.func44 rfl rfl rfl rfl [.tmp 4] rfl fun ⟨hx, _⟩ => ?_
  have hx := facts_len hx
  conv => whnf
  (focus (refine br_f (by (simp; done)) ?_; conv => whnf))
  rotate_left
  refine LoopG.rounds (α := Nat) T_ok mix [0, 1, 5] [] (fun i => [(0, roI xs), (1, roI xs), (5, .int .i64 i)]) (fun _ => []) (fun i => i ≤ xs.length) (fun i => xs.length - i) ?_ ?_
  · conv => whnf
    exact head_s 0 (by simp) (by simp [roI]) rfl
  · intro i h1 _ _
    conv => whnf
    (refine br_s (fun hb => ?_) (fun hb => ?_) <;> (try simp only [beq_iff_eq, bne_iff_ne, ne_eq, decide_eq_true_eq, decide_eq_false_iff_not, Int.not_lt, Int.not_le, Bool.false_eq_true, if_false, if_true, beq_eq_false_iff_ne, bne_eq_false_iff_eq, Bool.not_eq_true', Bool.not_eq_false', Int.ofNat_lt, Int.ofNat_le, Int.ofNat_inj, List.length_map, List.length_nil, List.length_cons] at hb) <;> conv => whnf)
    iterate 3 (refine ChkS.mk (by kernel_rfl) ?_; conv => whnf)
    (refine rq_s (by (rfl)) ?_; conv => whnf)
    (refine rq_s (by ((refine and_s rfl ?_; simp only [decide_eq_true_eq, List.length_map]; omega))) ?_; conv => whnf)
    (refine ChkS.mk (by kernel_rfl) ?_; conv => whnf)
    (refine row_s (by ((try simp only [Int.toNat_natCast]); exact row_map intR _ _ _ 0 (by first | omega | (simp; omega)))) ?_; conv => whnf)
    iterate 3 (refine ChkS.mk (by kernel_rfl) ?_; conv => whnf)
    (refine rq_s (by (rfl)) ?_; conv => whnf)
    (refine rq_s (by ((refine and_s rfl ?_; simp only [decide_eq_true_eq, List.length_map]; omega))) ?_; conv => whnf)
    (refine ChkS.mk (by kernel_rfl) ?_; conv => whnf)
    (refine row_s (by ((try simp only [Int.toNat_natCast]); exact row_map intR _ _ _ 0 (by first | omega | (simp; omega)))) ?_; conv => whnf)
    iterate 2 (refine ChkS.mk (by kernel_rfl) ?_; conv => whnf)
    (focus (refine br_f (by (simp; done)) ?_; conv => whnf))
    rotate_left
    (refine rq_s (by (rfl)) ?_; conv => whnf)
    (refine sh_s ?_; (rfl))
    · exact head_s (i + 1) ⟨by omega, by omega⟩ (by rw [wrap64 (by omega) (by omega)]; rfl) rfl

theorem at_ex (d : List UInt8) (n : Int) (hn : 1 ≤ n) (hn2 : n ≤ 1000) (hd : d.length ≤ 1048576) : ∃ p : Int, Con Try.prog 40 [roU d, .int .i64 0, .int .i64 n] (undefs [roU d, .int .i64 0, .int .i64 n]) (.int .i64 p) ∧ 0 ≤ p ∧ p < n := by
  by_cases h1 : n = 1
  · subst h1
    refine ⟨0, ?_, by omega, by omega⟩
    refine Con.ev 42 T_ok mix Try.func40 rfl rfl rfl rfl [.tmp 6] rfl ?_
    conv => whnf
    (refine br_t rfl ?_; conv => whnf)
    (refine rq_s (by (rfl)) ?_; conv => whnf)
    (refine sh_s ?_; (rfl))
  have hb1 : decide (n ≤ 1) = false := by simp; omega
  by_cases h0 : d = []
  · subst h0
    refine ⟨0, ?_, by omega, by omega⟩
    refine Con.ev 42 T_ok mix Try.func40 rfl rfl rfl rfl [.tmp 6] rfl ?_
    conv => whnf
    (refine br_f (by assumption) ?_; conv => whnf)
    (refine br_t rfl ?_; conv => whnf)
    (refine rq_s (by ((simp; omega))) ?_; conv => whnf)
    (refine rq_s (by (rfl)) ?_; conv => whnf)
    rotate_left
    exact ⟨by rw [show IntKind.i64.wrap (0 * 7) = 0 by decide, Int.zero_tmod]; exact Sh.refl _⟩
  have hp : 0 < d.length := List.length_pos_iff.2 h0
  have hb2 : (((d.map byteR).length : Int) == 0) = false := by simp; omega
  have i1 : (Int.tmod 0 ((d.map byteR).length : Int)).toNat < (d.map byteR).length := by simp; omega
  have i2 : 0 ≤ Int.tmod (IntKind.i64.wrap (0 + 1)) ((d.map byteR).length : Int) := Int.tmod_nonneg _ (by decide)
  have i3 : (Int.tmod (IntKind.i64.wrap (0 + 1)) ((d.map byteR).length : Int)).toNat < (d.map byteR).length := by
    have := Int.tmod_lt_of_pos (IntKind.i64.wrap (0 + 1)) (b := ((d.map byteR).length : Int)) (by simp; omega)
    simp only [List.length_map] at this i2 ⊢
    omega
  have i4 : ∀ k, k < (d.map byteR).length → k < d.length := fun k h => by simpa using h
  refine ⟨(IntKind.i64.wrap (IntKind.i64.wrap (IntKind.i64.wrap (IntKind.i64.wrap ((d.getD (Int.tmod 0 ((d.map byteR).length : Int)).toNat 0).toNat : Int) * 31) +
    IntKind.i64.wrap ((d.getD (Int.tmod (IntKind.i64.wrap (0 + 1)) ((d.map byteR).length : Int)).toNat 0).toNat : Int)) + IntKind.i64.wrap (Int.tdiv 0 ((d.map byteR).length : Int)))).tmod n, ?_, ?_⟩
  · refine Con.ev 42 T_ok mix Try.func40 rfl rfl rfl rfl [.tmp 6] rfl ?_
    conv => whnf
    iterate 2 (refine br_f (by assumption) ?_; conv => whnf)
    iterate 5 (refine ChkS.mk (by kernel_rfl) ?_; conv => whnf)
    (refine rq_s (by ((simp; omega))) ?_; conv => whnf)
    (refine ChkS.mk (by kernel_rfl) ?_; conv => whnf)
    (refine rq_s (by (rfl)) ?_; conv => whnf)
    (refine rq_s (by ((simp; omega))) ?_; conv => whnf)
    (refine ChkS.mk (by kernel_rfl) ?_; conv => whnf)
    (refine row_s (by (exact row_map byteR d _ _ 0 (i4 _ i1))) ?_; conv => whnf)
    iterate 8 (refine ChkS.mk (by kernel_rfl) ?_; conv => whnf)
    (refine rq_s (by ((simp; omega))) ?_; conv => whnf)
    (refine ChkS.mk (by kernel_rfl) ?_; conv => whnf)
    (refine rq_s (by (rfl)) ?_; conv => whnf)
    (refine rq_s (by (((exact and_s rfl (decide_eq_true i3))))) ?_; conv => whnf)
    (refine ChkS.mk (by kernel_rfl) ?_; conv => whnf)
    (refine row_s (by (exact row_map byteR d _ _ 0 (i4 _ i3))) ?_; conv => whnf)
    iterate 6 (refine ChkS.mk (by kernel_rfl) ?_; conv => whnf)
    (refine rq_s (by ((simp; omega))) ?_; conv => whnf)
    iterate 3 (refine ChkS.mk (by kernel_rfl) ?_; conv => whnf)
    (refine rq_s (by ((simp; omega))) ?_; conv => whnf)
    iterate 2 (refine ChkS.mk (by kernel_rfl) ?_; conv => whnf)
    (refine rq_s (by (rfl)) ?_; conv => whnf)
    rotate_left
    exact sh_s rfl
  · have b1 := (d.getD (Int.tmod 0 ((d.map byteR).length : Int)).toNat 0).toNat_lt
    have b2 := (d.getD (Int.tmod (IntKind.i64.wrap (0 + 1)) ((d.map byteR).length : Int)).toNat 0).toNat_lt
    generalize d.getD (Int.tmod 0 ((d.map byteR).length : Int)).toNat 0 = c0 at *
    generalize d.getD (Int.tmod (IntKind.i64.wrap (0 + 1)) ((d.map byteR).length : Int)).toNat 0 = c1 at *
    have e : ∀ c : UInt8, c.toNat < 256 → IntKind.i64.wrap (c.toNat : Int) = c.toNat := fun c h => wrap64 (by omega) (by omega)
    rw [e c0 (by omega), e c1 (by omega), Int.zero_tdiv, show IntKind.i64.wrap 0 = 0 by decide, wrap64 (n := (c0.toNat : Int) * 31) (by omega) (by omega), wrap64 (n := (c0.toNat : Int) * 31 + c1.toNat) (by omega) (by omega), wrap64 (by omega) (by omega)]
    exact ⟨Int.tmod_nonneg _ (by omega), Int.tmod_lt_of_pos _ (by omega)⟩
end S11
