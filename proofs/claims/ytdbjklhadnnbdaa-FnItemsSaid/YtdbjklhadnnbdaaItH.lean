import Derived.Test.YtdbjklhadnnbdaaItG
import Derived.Test.YtdbjklhadnnbdaaAbsl
/- The reference's source of data, 6: blocks of items; the walk. -/
set_option linter.unusedVariables false
set_option linter.unusedSimpArgs false
set_option maxRecDepth 100000
open Go Go.Abs Go.Proofs V1 H1 S1 S2 S3 S4 S5
namespace S6

structure Ss where
  i : Int
  a : Int
  m : Int
  xs : List Itm
def clampF (x : Itm) : Itm := if x.k = 1 ∧ inR x.v 57 62 = true then ⟨1, 1⟩ else x
abbrev srcO (d : List UInt8) (a m : Int) : AV := .obj (srcC d a m)
def BlkC (d : List UInt8) (k : Int) (a m a' m' : Int) (xs : List Itm) : Prop := Con Try.prog 135 [srcO d a m, .int .i64 86, .int .i64 k] [srcO d a' m', .undef, .undef] (ownT xs)
def NxC (d : List UInt8) (n : Int) (a m a' m' v : Int) : Prop := Con Try.prog 93 [srcO d a m, .int .i64 n] [srcO d a' m', .undef] (.int .i64 v)
def ChC (d : List UInt8) (n : Int) (a m a' m' : Int) (b : Bool) : Prop := Con Try.prog 91 [srcO d a m, .int .i64 n] [srcO d a' m', .undef] (.bool b)
def FlC (d : List UInt8) (a m a' m' : Int) (x : Itm) : Prop := Con Try.prog 150 [srcO d a m, .int .i64 86] [srcO d a' m', .undef] (itV x)
theorem own_ro_T (xs : List Itm) : Sh (ownT xs) (roT xs) := Sh.own_ro (by omega) _ _
theorem cIt (k : Int) : Con Try.prog 130 [.int .i64 k] (undefs [.int .i64 k]) (roT [⟨k, 0⟩]) := Con.sh (c130 k) (own_ro_T _)
theorem cLit (k : Int) : Con Try.prog 152 [.int .i64 k] (undefs [.int .i64 k]) (roT [⟨2, k⟩]) := Con.sh (c152 k) (own_ro_T _)
theorem cIt2 (k : Int) : Con Try.prog 153 [.int .i64 k] (undefs [.int .i64 k]) (roT [⟨1, k⟩]) := Con.sh (c153 k) (own_ro_T _)
theorem BlkC.ro {d : List UInt8} {k a m a' m' : Int} {xs : List Itm} (h : BlkC d k a m a' m' xs) : Con Try.prog 135 [srcO d a m, .int .i64 86, .int .i64 k] [srcO d a' m', .undef, .undef] (roT xs) := Con.sh h (own_ro_T _)
/-- One round. -/
inductive Rnd (d : List UInt8) (k : Int) : Ss → Ss → Prop
  | z {i a m a1 m1 : Int} {xs : List Itm} {x : Itm} (hk : (k == 0) = true) (c1 : FlC d a m a1 m1 x) : Rnd d k ⟨i, a, m, xs⟩ ⟨i - 1, a1, m1, xs ++ [clampF x]⟩
  | f {i a m a1 m1 a2 m2 : Int} {xs : List Itm} {x : Itm} (hk : (k == 0) = false) (c1 : ChC d 4 a m a1 m1 false) (c2 : FlC d a1 m1 a2 m2 x) : Rnd d k ⟨i, a, m, xs⟩ ⟨i - 1, a2, m2, xs ++ [clampF x]⟩
  | c0 {i a m a1 m1 a2 m2 a3 m3 : Int} {xs ys : List Itm} (hk : (k == 0) = false) (c1 : ChC d 4 a m a1 m1 true) (c2 : NxC d 5 a1 m1 a2 m2 0) (c3 : BlkC d (IntKind.i64.wrap (k - 1)) a2 m2 a3 m3 ys) (hl : ys.length ≤ 1000) : Rnd d k ⟨i, a, m, xs⟩ ⟨i - 1, a3, m3, [xs, [⟨3, 0⟩], ys, [⟨5, 0⟩]].flatten⟩
  | c1 {i a m a1 m1 a2 m2 a3 m3 a4 m4 : Int} {xs ys zs : List Itm} (hk : (k == 0) = false) (c1 : ChC d 4 a m a1 m1 true) (c2 : NxC d 5 a1 m1 a2 m2 1) (c3 : BlkC d (IntKind.i64.wrap (k - 1)) a2 m2 a3 m3 ys) (hl : ys.length ≤ 1000) (c4 : BlkC d (IntKind.i64.wrap (k - 1)) a3 m3 a4 m4 zs) (hl : zs.length ≤ 1000) : Rnd d k ⟨i, a, m, xs⟩ ⟨i - 1, a4, m4, [xs, [⟨3, 0⟩], ys, [⟨4, 0⟩], zs, [⟨5, 0⟩]].flatten⟩
  | c2 {i a m a1 m1 a2 m2 a3 m3 a4 m4 v : Int} {xs ys : List Itm} (hk : (k == 0) = false) (c1 : ChC d 4 a m a1 m1 true) (c2 : NxC d 5 a1 m1 a2 m2 2) (c3 : NxC d 3 a2 m2 a3 m3 v) (hv : IntKind.i64.wrap (1 + v) = 1 + v) (c4 : BlkC d 0 a3 m3 a4 m4 ys) (hl : ys.length ≤ 1000) : Rnd d k ⟨i, a, m, xs⟩ ⟨i - 1, a4, m4, [xs, [⟨2, 1 + v⟩], [⟨6, 0⟩], [⟨1, 29⟩], ys, [⟨1, 1⟩], [⟨1, 37⟩], [⟨7, 0⟩]].flatten⟩
  | c3 {i a m a1 m1 a2 m2 a3 m3 a4 m4 a5 m5 v u : Int} {xs ys : List Itm} (hk : (k == 0) = false) (c1 : ChC d 4 a m a1 m1 true) (c2 : NxC d 5 a1 m1 a2 m2 3) (c3 : NxC d 4 a2 m2 a3 m3 v) (c4 : BlkC d (IntKind.i64.wrap (k - 1)) a3 m3 a4 m4 ys) (hl : ys.length ≤ 1000) (c5 : NxC d 3 a4 m4 a5 m5 u) (hu : u = 0 ∨ u = 1 ∨ u = 2) : Rnd d k ⟨i, a, m, xs⟩ ⟨i - 1, a5, m5, [xs, [⟨2, v⟩], [⟨2, 0⟩], [⟨10, 0⟩], ys, [⟨if u = 2 then 12 else 11, 0⟩]].flatten⟩
  | c4 {i a m a1 m1 a2 m2 a3 m3 a4 m4 : Int} {xs ys zs : List Itm} (hk : (k == 0) = false) (c1 : ChC d 4 a m a1 m1 true) (c2 : NxC d 5 a1 m1 a2 m2 4) (c3 : BlkC d 0 a2 m2 a3 m3 ys) (hl : ys.length ≤ 1000) (c4 : BlkC d (IntKind.i64.wrap (k - 1)) a3 m3 a4 m4 zs) (hl : zs.length ≤ 1000) : Rnd d k ⟨i, a, m, xs⟩ ⟨i - 1, a4, m4, [xs, [⟨6, 0⟩], ys, [⟨8, 0⟩], zs, [⟨9, 0⟩]].flatten⟩


theorem block_walk (d : List UInt8) (k a m v0 : Int) (f : Nat → Ss) (n : Nat) (k0 : NxC d 4 a m (f 0).a (f 0).m v0) (hv : IntKind.i64.wrap (1 + v0) = (f 0).i) (hx : (f 0).xs = []) (hn : n ≤ 10)
    (hi : ∀ j, j ≤ n → (f j).i = (n : Int) - j) (hl : ∀ j, j ≤ n → (f j).xs.length ≤ 100000) (hr : ∀ j, j < n → Rnd d k (f j) (f (j + 1))) : BlkC d k a m (f n).a (f n).m (f n).xs := by
  unfold NxC at k0
  refine Con.evPK [(10, [888888, 7]), (1000109, [109])] 129 [500000] rfl T_ok mix Try.func135 rfl rfl rfl rfl [.tmp 6] rfl ?_
  conv => whnf
  (refine rq_s (by (rfl)) ?_; conv => whnf)
  (refine handp_s 93 [some 3, none] ?_; conv => whnf)
  iterate 2 (refine rq_s (by (rfl)) ?_; conv => whnf)
  (focus (apply callpe_s (f := 93); (· repeat' (first | (refine sub_all ?_; simp [List.length_map]; done) | exact sub_map _ _ _ _ | apply cons_eq | apply obj_eq | apply agg_eq | apply own_eq | apply ro_eq | apply rp_eq | apply fnc_eq | rfl)); refine callp_s (f := 93) rfl (k0 ..) ?_; conv => whnf))
  (refine fac_s (fun hf => ?_); conv => whnf)
  rotate_left
  refine LoopG.bearT 7 101 zT rfl rfl ?_
  refine LoopG.auto (α := Nat) T_ok mix [0, 1, 2, 7, 8] (fun j => [(0, .ptr 500000 0 0), (1, .int .i64 86), (2, .int .i64 k), (7, .ref 2 0 (f j).xs.length), (8, .int .i64 (f j).i)]) (fun j => [(500000, .live ⟨false, 0, [.undef, .undef, .undef], [srcC d (f j).a (f j).m]⟩), (2, .live ⟨true, 0, zT, (f j).xs.map itR⟩)]) (fun j => j ≤ n) (fun j => n - j) ?_ ?_
  · conv => whnf
    (refine ChkS.mk (by kernel_rfl) ?_; conv => whnf)
    rotate_left
    exact head_s 0 (by omega) (by rw [hx, hv]; rfl) (by rw [hx]; rfl)
  · intro j hj _ _
    have hij := hi j hj
    have hlj := hl j hj
    by_cases hjn : j = n
    · subst hjn
      have hb0 : decide ((f j).i > 0) = false := by rw [hij]; simp
      conv => whnf
      (refine br_f (by assumption) ?_; conv => whnf)
      (refine rq_s (by ((simp only [decide_eq_true_eq, List.length_map]; done))) ?_; conv => whnf)
      (refine rq_s (by (rfl)) ?_; conv => whnf)
      (refine rows_s (by ((refine sub_all ?_; simp [List.length_map]; done))) ?_; conv => whnf)
      (refine aftp_s (by rfl) ?_; conv => whnf)
      (refine rows_s (by (rfl)) ?_; conv => whnf)
      (refine aftp_s (by rfl) ?_; conv => whnf)
      exact True.intro
    · have hb0 : decide ((f j).i > 0) = true := by rw [hij]; simp; omega
      have hx := hr j (by omega)
      have hi1 : IntKind.i64.wrap ((f j).i - 1) = (f (j + 1)).i := by rw [hi (j + 1) (by omega), hij, wrap64 (by omega) (by omega)]; omega
      have hl1 := hl (j + 1) (by omega)
      generalize h1 : f j = s1 at *
      generalize h2 : f (j + 1) = s2 at *
      cases hx with
      | @z i' a' m' a1 m1 xs x hk c1 =>
        simp only at hij hlj hb0 hl1 hi1
        conv => whnf
        iterate 2 (refine br_t (by assumption) ?_; conv => whnf)
        iterate 4 (refine br_t rfl ?_; conv => whnf)
        (refine handp_s 150 [some 3, none] ?_; conv => whnf)
        iterate 2 (refine rq_s (by (rfl)) ?_; conv => whnf)
        (focus (apply callpe_s (f := 150); (· repeat' (first | (refine sub_all ?_; simp [List.length_map]; done) | exact sub_map _ _ _ _ | apply cons_eq | apply obj_eq | apply agg_eq | apply own_eq | apply ro_eq | apply rp_eq | apply fnc_eq | rfl)); refine callp_s (f := 150) rfl (c1 ..) ?_; conv => whnf))
        iterate 2 (refine fac_s (fun hf => ?_); conv => whnf)
        (refine rq_s (by (rfl)) ?_; conv => whnf)
        (refine br_s (fun hb => ?_) (fun hb => ?_) <;> (try simp only [beq_iff_eq, bne_iff_ne, ne_eq, decide_eq_true_eq, decide_eq_false_iff_not, Int.not_lt, Int.not_le, Bool.false_eq_true, if_false, if_true, beq_eq_false_iff_ne, bne_eq_false_iff_eq, Bool.not_eq_true', Bool.not_eq_false', Int.ofNat_lt, Int.ofNat_le, Int.ofNat_inj, List.length_map, List.length_nil, List.length_cons] at hb) <;> conv => whnf)
        (refine rq_s (by (rfl)) ?_; conv => whnf)
        iterate 2 (refine br_t rfl ?_; conv => whnf)
        iterate 3 (refine rq_s (by (rfl)) ?_; conv => whnf)
        (refine lend_s ?_; conv => whnf)
        (refine call_s (c54 ..) ?_; conv => whnf)
        (refine br_s (fun hb => ?_) (fun hb => ?_) <;> (try simp only [beq_iff_eq, bne_iff_ne, ne_eq, decide_eq_true_eq, decide_eq_false_iff_not, Int.not_lt, Int.not_le, Bool.false_eq_true, if_false, if_true, beq_eq_false_iff_ne, bne_eq_false_iff_eq, Bool.not_eq_true', Bool.not_eq_false', Int.ofNat_lt, Int.ofNat_le, Int.ofNat_inj, List.length_map, List.length_nil, List.length_cons] at hb) <;> conv => whnf)
        iterate 2 (refine rq_s (by (rfl)) ?_; conv => whnf)
        (refine rq_s (by ((simp only [decide_eq_true_eq, List.length_map]; done))) ?_; conv => whnf)
        iterate 2 (refine rq_s (by (rfl)) ?_; conv => whnf)
        (refine rq_s (by ((simp only [decide_eq_true_eq, List.length_map]; done))) ?_; conv => whnf)
        (refine rq_s (by (((refine and_s rfl ?_; simp [maxBytes, subA]; omega)))) ?_; conv => whnf)
        (refine appf_s itR (y := clampF x) (by simp_all [clampF, itR]) ?_; conv => whnf)
        (refine ChkS.mk (by kernel_rfl) ?_; conv => whnf)
        rotate_left
        (refine rq_s (by (rfl)) ?_; conv => whnf)
        (refine rq_s (by ((simp only [decide_eq_true_eq, List.length_map]; done))) ?_; conv => whnf)
        iterate 2 (refine rq_s (by (rfl)) ?_; conv => whnf)
        (refine rq_s (by ((simp only [decide_eq_true_eq, List.length_map]; done))) ?_; conv => whnf)
        (refine rq_s (by (((refine and_s rfl ?_; simp [maxBytes, subA]; omega)))) ?_; conv => whnf)
        (refine appf_s itR (y := clampF x) (by simp_all [clampF, itR]) ?_; conv => whnf)
        (refine ChkS.mk (by kernel_rfl) ?_; conv => whnf)
        rotate_left
        iterate 4 (refine br_f rfl ?_; conv => whnf)
        (refine rq_s (by (rfl)) ?_; conv => whnf)
        (refine rq_s (by ((simp only [decide_eq_true_eq, List.length_map]; done))) ?_; conv => whnf)
        iterate 2 (refine rq_s (by (rfl)) ?_; conv => whnf)
        (refine rq_s (by ((simp only [decide_eq_true_eq, List.length_map]; done))) ?_; conv => whnf)
        (refine rq_s (by (((refine and_s rfl ?_; simp [maxBytes, subA]; omega)))) ?_; conv => whnf)
        (refine appf_s itR (y := clampF x) (by simp_all [clampF, itR]) ?_; conv => whnf)
        (refine ChkS.mk (by kernel_rfl) ?_; conv => whnf)
        rotate_left
        all_goals exact head_s (j + 1) ⟨by omega, by omega⟩ (by simp only [h2, hi1, List.length_map]; first | done | rfl) (by simp only [h2]; rfl)
      | @f i' a' m' a1 m1 a2 m2 xs x hk c1 c2 =>
        simp only at hij hlj hb0 hl1 hi1
        conv => whnf
        (refine br_t (by assumption) ?_; conv => whnf)
        (refine br_f (by assumption) ?_; conv => whnf)
        (refine br_f rfl ?_; conv => whnf)
        (refine handp_s 91 [some 3, none] ?_; conv => whnf)
        iterate 2 (refine rq_s (by (rfl)) ?_; conv => whnf)
        (focus (apply callpe_s (f := 91); (· repeat' (first | (refine sub_all ?_; simp [List.length_map]; done) | exact sub_map _ _ _ _ | apply cons_eq | apply obj_eq | apply agg_eq | apply own_eq | apply ro_eq | apply rp_eq | apply fnc_eq | rfl)); refine callp_s (f := 91) rfl (c1 ..) ?_; conv => whnf))
        (refine br_f rfl ?_; conv => whnf)
        (refine br_t rfl ?_; conv => whnf)
        (refine handp_s 150 [some 3, none] ?_; conv => whnf)
        iterate 2 (refine rq_s (by (rfl)) ?_; conv => whnf)
        (focus (apply callpe_s (f := 150); (· repeat' (first | (refine sub_all ?_; simp [List.length_map]; done) | exact sub_map _ _ _ _ | apply cons_eq | apply obj_eq | apply agg_eq | apply own_eq | apply ro_eq | apply rp_eq | apply fnc_eq | rfl)); refine callp_s (f := 150) rfl (c2 ..) ?_; conv => whnf))
        iterate 2 (refine fac_s (fun hf => ?_); conv => whnf)
        (refine rq_s (by (rfl)) ?_; conv => whnf)
        (refine br_s (fun hb => ?_) (fun hb => ?_) <;> (try simp only [beq_iff_eq, bne_iff_ne, ne_eq, decide_eq_true_eq, decide_eq_false_iff_not, Int.not_lt, Int.not_le, Bool.false_eq_true, if_false, if_true, beq_eq_false_iff_ne, bne_eq_false_iff_eq, Bool.not_eq_true', Bool.not_eq_false', Int.ofNat_lt, Int.ofNat_le, Int.ofNat_inj, List.length_map, List.length_nil, List.length_cons] at hb) <;> conv => whnf)
        (refine rq_s (by (rfl)) ?_; conv => whnf)
        iterate 2 (refine br_t rfl ?_; conv => whnf)
        iterate 3 (refine rq_s (by (rfl)) ?_; conv => whnf)
        (refine lend_s ?_; conv => whnf)
        (refine call_s (c54 ..) ?_; conv => whnf)
        (refine br_s (fun hb => ?_) (fun hb => ?_) <;> (try simp only [beq_iff_eq, bne_iff_ne, ne_eq, decide_eq_true_eq, decide_eq_false_iff_not, Int.not_lt, Int.not_le, Bool.false_eq_true, if_false, if_true, beq_eq_false_iff_ne, bne_eq_false_iff_eq, Bool.not_eq_true', Bool.not_eq_false', Int.ofNat_lt, Int.ofNat_le, Int.ofNat_inj, List.length_map, List.length_nil, List.length_cons] at hb) <;> conv => whnf)
        iterate 2 (refine rq_s (by (rfl)) ?_; conv => whnf)
        (refine rq_s (by ((simp only [decide_eq_true_eq, List.length_map]; done))) ?_; conv => whnf)
        iterate 2 (refine rq_s (by (rfl)) ?_; conv => whnf)
        (refine rq_s (by ((simp only [decide_eq_true_eq, List.length_map]; done))) ?_; conv => whnf)
        (refine rq_s (by (((refine and_s rfl ?_; simp [maxBytes, subA]; omega)))) ?_; conv => whnf)
        (refine appf_s itR (y := clampF x) (by simp_all [clampF, itR]) ?_; conv => whnf)
        (refine ChkS.mk (by kernel_rfl) ?_; conv => whnf)
        rotate_left
        (refine rq_s (by (rfl)) ?_; conv => whnf)
        (refine rq_s (by ((simp only [decide_eq_true_eq, List.length_map]; done))) ?_; conv => whnf)
        iterate 2 (refine rq_s (by (rfl)) ?_; conv => whnf)
        (refine rq_s (by ((simp only [decide_eq_true_eq, List.length_map]; done))) ?_; conv => whnf)
        (refine rq_s (by (((refine and_s rfl ?_; simp [maxBytes, subA]; omega)))) ?_; conv => whnf)
        (refine appf_s itR (y := clampF x) (by simp_all [clampF, itR]) ?_; conv => whnf)
        (refine ChkS.mk (by kernel_rfl) ?_; conv => whnf)
        rotate_left
        iterate 4 (refine br_f rfl ?_; conv => whnf)
        (refine rq_s (by (rfl)) ?_; conv => whnf)
        (refine rq_s (by ((simp only [decide_eq_true_eq, List.length_map]; done))) ?_; conv => whnf)
        iterate 2 (refine rq_s (by (rfl)) ?_; conv => whnf)
        (refine rq_s (by ((simp only [decide_eq_true_eq, List.length_map]; done))) ?_; conv => whnf)
        (refine rq_s (by (((refine and_s rfl ?_; simp [maxBytes, subA]; omega)))) ?_; conv => whnf)
        (refine appf_s itR (y := clampF x) (by simp_all [clampF, itR]) ?_; conv => whnf)
        (refine ChkS.mk (by kernel_rfl) ?_; conv => whnf)
        rotate_left
        all_goals exact head_s (j + 1) ⟨by omega, by omega⟩ (by simp only [h2, hi1, List.length_map]; first | done | rfl) (by simp only [h2]; rfl)
      | @c0 i' a' m' a1 m1 a2 m2 a3 m3 xs ys hk c1 c2 c3 hl =>
        simp only at hij hlj hb0 hl1 hi1
        conv => whnf
        (refine br_t (by assumption) ?_; conv => whnf)
        (refine br_f (by assumption) ?_; conv => whnf)
        (refine br_f rfl ?_; conv => whnf)
        (refine handp_s 91 [some 3, none] ?_; conv => whnf)
        iterate 2 (refine rq_s (by (rfl)) ?_; conv => whnf)
        (focus (apply callpe_s (f := 91); (· repeat' (first | (refine sub_all ?_; simp [List.length_map]; done) | exact sub_map _ _ _ _ | apply cons_eq | apply obj_eq | apply agg_eq | apply own_eq | apply ro_eq | apply rp_eq | apply fnc_eq | rfl)); refine callp_s (f := 91) rfl (c1 ..) ?_; conv => whnf))
        iterate 2 (refine br_f rfl ?_; conv => whnf)
        (refine handp_s 93 [some 3, none] ?_; conv => whnf)
        iterate 2 (refine rq_s (by (rfl)) ?_; conv => whnf)
        (focus (apply callpe_s (f := 93); (· repeat' (first | (refine sub_all ?_; simp [List.length_map]; done) | exact sub_map _ _ _ _ | apply cons_eq | apply obj_eq | apply agg_eq | apply own_eq | apply ro_eq | apply rp_eq | apply fnc_eq | rfl)); refine callp_s (f := 93) rfl (c2 ..) ?_; conv => whnf))
        (refine fac_s (fun hf => ?_); conv => whnf)
        (refine rows_s (by ((refine sub_all ?_; simp [List.length_map]; done))) ?_; conv => whnf)
        (refine br_t rfl ?_; conv => whnf)
        (refine rq_s (by (rfl)) ?_; conv => whnf)
        (refine lend_s ?_; conv => whnf)
        (refine call_s (cIt ..) ?_; conv => whnf)
        (refine handp_s 135 [some 3, none, none] ?_; conv => whnf)
        iterate 3 (refine rq_s (by (rfl)) ?_; conv => whnf)
        (focus (apply callpe_s (f := 135); (· repeat' (first | (refine sub_all ?_; simp [List.length_map]; done) | exact sub_map _ _ _ _ | apply cons_eq | apply obj_eq | apply agg_eq | apply own_eq | apply ro_eq | apply rp_eq | apply fnc_eq | rfl)); refine callp_s (f := 135) rfl (c3.ro ..) ?_; conv => whnf))
        (refine rq_s (by (rfl)) ?_; conv => whnf)
        (refine lend_s ?_; conv => whnf)
        (refine call_s (cIt ..) ?_; conv => whnf)
        (refine rq_s (by (rfl)) ?_; conv => whnf)
        (refine rq_s (by ((simp only [decide_eq_true_eq, List.length_map]; done))) ?_; conv => whnf)
        (refine rq_s (by (rfl)) ?_; conv => whnf)
        (refine lend_s ?_; conv => whnf)
        (refine rows_s (by ((refine sub_all ?_; simp [List.length_map]; done))) ?_; conv => whnf)
        (refine call_s (c151 [xs, [⟨3, 0⟩], ys, [⟨5, 0⟩]] (by simp) (by simp; omega) ..) ?_; conv => whnf)
        iterate 4 (refine fac_s (fun hf => ?_); conv => whnf)
        (refine ChkS.mk (by kernel_rfl) ?_; conv => whnf)
        rotate_left
        all_goals exact head_s (j + 1) ⟨by omega, by omega⟩ (by simp only [h2, hi1, List.length_map]; first | done | rfl) (by simp only [h2]; rfl)
      | @c1 i' a' m' a1 m1 a2 m2 a3 m3 a4 m4 xs ys zs hk c1 c2 c3 hl c4 hl2 =>
        simp only at hij hlj hb0 hl1 hi1
        conv => whnf
        (refine br_t (by assumption) ?_; conv => whnf)
        (refine br_f (by assumption) ?_; conv => whnf)
        (refine br_f rfl ?_; conv => whnf)
        (refine handp_s 91 [some 3, none] ?_; conv => whnf)
        iterate 2 (refine rq_s (by (rfl)) ?_; conv => whnf)
        (focus (apply callpe_s (f := 91); (· repeat' (first | (refine sub_all ?_; simp [List.length_map]; done) | exact sub_map _ _ _ _ | apply cons_eq | apply obj_eq | apply agg_eq | apply own_eq | apply ro_eq | apply rp_eq | apply fnc_eq | rfl)); refine callp_s (f := 91) rfl (c1 ..) ?_; conv => whnf))
        iterate 2 (refine br_f rfl ?_; conv => whnf)
        (refine handp_s 93 [some 3, none] ?_; conv => whnf)
        iterate 2 (refine rq_s (by (rfl)) ?_; conv => whnf)
        (focus (apply callpe_s (f := 93); (· repeat' (first | (refine sub_all ?_; simp [List.length_map]; done) | exact sub_map _ _ _ _ | apply cons_eq | apply obj_eq | apply agg_eq | apply own_eq | apply ro_eq | apply rp_eq | apply fnc_eq | rfl)); refine callp_s (f := 93) rfl (c2 ..) ?_; conv => whnf))
        (refine fac_s (fun hf => ?_); conv => whnf)
        (refine rows_s (by ((refine sub_all ?_; simp [List.length_map]; done))) ?_; conv => whnf)
        (refine br_f rfl ?_; conv => whnf)
        (refine br_t rfl ?_; conv => whnf)
        (refine rq_s (by (rfl)) ?_; conv => whnf)
        (refine lend_s ?_; conv => whnf)
        (refine call_s (cIt ..) ?_; conv => whnf)
        (refine handp_s 135 [some 3, none, none] ?_; conv => whnf)
        iterate 3 (refine rq_s (by (rfl)) ?_; conv => whnf)
        (focus (apply callpe_s (f := 135); (· repeat' (first | (refine sub_all ?_; simp [List.length_map]; done) | exact sub_map _ _ _ _ | apply cons_eq | apply obj_eq | apply agg_eq | apply own_eq | apply ro_eq | apply rp_eq | apply fnc_eq | rfl)); refine callp_s (f := 135) rfl (c3.ro ..) ?_; conv => whnf))
        (refine rq_s (by (rfl)) ?_; conv => whnf)
        (refine lend_s ?_; conv => whnf)
        (refine call_s (cIt ..) ?_; conv => whnf)
        (refine handp_s 135 [some 3, none, none] ?_; conv => whnf)
        iterate 3 (refine rq_s (by (rfl)) ?_; conv => whnf)
        (focus (apply callpe_s (f := 135); (· repeat' (first | (refine sub_all ?_; simp [List.length_map]; done) | exact sub_map _ _ _ _ | apply cons_eq | apply obj_eq | apply agg_eq | apply own_eq | apply ro_eq | apply rp_eq | apply fnc_eq | rfl)); refine callp_s (f := 135) rfl (c4.ro ..) ?_; conv => whnf))
        (refine rq_s (by (rfl)) ?_; conv => whnf)
        (refine lend_s ?_; conv => whnf)
        (refine call_s (cIt ..) ?_; conv => whnf)
        (refine rq_s (by (rfl)) ?_; conv => whnf)
        (refine rq_s (by ((simp only [decide_eq_true_eq, List.length_map]; done))) ?_; conv => whnf)
        (refine rq_s (by (rfl)) ?_; conv => whnf)
        (refine lend_s ?_; conv => whnf)
        (refine rows_s (by ((refine sub_all ?_; simp [List.length_map]; done))) ?_; conv => whnf)
        (refine call_s (c151 [xs, [⟨3, 0⟩], ys, [⟨4, 0⟩], zs, [⟨5, 0⟩]] (by simp) (by simp; omega) ..) ?_; conv => whnf)
        iterate 6 (refine fac_s (fun hf => ?_); conv => whnf)
        (refine ChkS.mk (by kernel_rfl) ?_; conv => whnf)
        rotate_left
        all_goals exact head_s (j + 1) ⟨by omega, by omega⟩ (by simp only [h2, hi1, List.length_map]; first | done | rfl) (by simp only [h2]; rfl)
      | @c2 i' a' m' a1 m1 a2 m2 a3 m3 a4 m4 v xs ys hk c1 c2 c3 hv c4 hl =>
        simp only at hij hlj hb0 hl1 hi1
        have hlit := cLit (IntKind.i64.wrap (1 + v))
        rw [hv] at hlit
        conv => whnf
        (refine br_t (by assumption) ?_; conv => whnf)
        (refine br_f (by assumption) ?_; conv => whnf)
        (refine br_f rfl ?_; conv => whnf)
        (refine handp_s 91 [some 3, none] ?_; conv => whnf)
        iterate 2 (refine rq_s (by (rfl)) ?_; conv => whnf)
        (focus (apply callpe_s (f := 91); (· repeat' (first | (refine sub_all ?_; simp [List.length_map]; done) | exact sub_map _ _ _ _ | apply cons_eq | apply obj_eq | apply agg_eq | apply own_eq | apply ro_eq | apply rp_eq | apply fnc_eq | rfl)); refine callp_s (f := 91) rfl (c1 ..) ?_; conv => whnf))
        iterate 2 (refine br_f rfl ?_; conv => whnf)
        (refine handp_s 93 [some 3, none] ?_; conv => whnf)
        iterate 2 (refine rq_s (by (rfl)) ?_; conv => whnf)
        (focus (apply callpe_s (f := 93); (· repeat' (first | (refine sub_all ?_; simp [List.length_map]; done) | exact sub_map _ _ _ _ | apply cons_eq | apply obj_eq | apply agg_eq | apply own_eq | apply ro_eq | apply rp_eq | apply fnc_eq | rfl)); refine callp_s (f := 93) rfl (c2 ..) ?_; conv => whnf))
        (refine fac_s (fun hf => ?_); conv => whnf)
        (refine rows_s (by ((refine sub_all ?_; simp [List.length_map]; done))) ?_; conv => whnf)
        iterate 2 (refine br_f rfl ?_; conv => whnf)
        (refine br_t rfl ?_; conv => whnf)
        (refine handp_s 93 [some 3, none] ?_; conv => whnf)
        iterate 2 (refine rq_s (by (rfl)) ?_; conv => whnf)
        (focus (apply callpe_s (f := 93); (· repeat' (first | (refine sub_all ?_; simp [List.length_map]; done) | exact sub_map _ _ _ _ | apply cons_eq | apply obj_eq | apply agg_eq | apply own_eq | apply ro_eq | apply rp_eq | apply fnc_eq | rfl)); refine callp_s (f := 93) rfl (c3 ..) ?_; conv => whnf))
        (refine rq_s (by (rfl)) ?_; conv => whnf)
        (refine lend_s ?_; conv => whnf)
        (refine call_s (cLit ..) ?_; conv => whnf)
        (refine rq_s (by (rfl)) ?_; conv => whnf)
        (refine lend_s ?_; conv => whnf)
        (refine call_s (cIt ..) ?_; conv => whnf)
        (refine rq_s (by (rfl)) ?_; conv => whnf)
        (refine lend_s ?_; conv => whnf)
        (refine call_s (cIt2 ..) ?_; conv => whnf)
        (refine handp_s 135 [some 3, none, none] ?_; conv => whnf)
        iterate 3 (refine rq_s (by (rfl)) ?_; conv => whnf)
        (focus (apply callpe_s (f := 135); (· repeat' (first | (refine sub_all ?_; simp [List.length_map]; done) | exact sub_map _ _ _ _ | apply cons_eq | apply obj_eq | apply agg_eq | apply own_eq | apply ro_eq | apply rp_eq | apply fnc_eq | rfl)); refine callp_s (f := 135) rfl (c4.ro ..) ?_; conv => whnf))
        (refine rq_s (by (rfl)) ?_; conv => whnf)
        (refine lend_s ?_; conv => whnf)
        (refine call_s (cIt2 ..) ?_; conv => whnf)
        (refine rq_s (by (rfl)) ?_; conv => whnf)
        (refine lend_s ?_; conv => whnf)
        (refine call_s (cIt2 ..) ?_; conv => whnf)
        (refine rq_s (by (rfl)) ?_; conv => whnf)
        (refine lend_s ?_; conv => whnf)
        (refine call_s (cIt ..) ?_; conv => whnf)
        (refine rq_s (by (rfl)) ?_; conv => whnf)
        (refine rq_s (by ((simp only [decide_eq_true_eq, List.length_map]; done))) ?_; conv => whnf)
        (refine rq_s (by (rfl)) ?_; conv => whnf)
        (refine lend_s ?_; conv => whnf)
        (refine rows_s (by ((refine sub_all ?_; simp [List.length_map]; done))) ?_; conv => whnf)
        (refine call_s (c151 [xs, [⟨2, IntKind.i64.wrap (1 + v)⟩], [⟨6, 0⟩], [⟨1, 29⟩], ys, [⟨1, 1⟩], [⟨1, 37⟩], [⟨7, 0⟩]] (by simp) (by simp; omega) ..) ?_; conv => whnf)
        iterate 9 (refine fac_s (fun hf => ?_); conv => whnf)
        (refine ChkS.mk (by kernel_rfl) ?_; conv => whnf)
        rotate_left
        all_goals exact head_s (j + 1) ⟨by omega, by omega⟩ (by simp only [h2, hi1, hv, List.length_map]) (by simp only [h2, hv]; rfl)
      | @c3 i' a' m' a1 m1 a2 m2 a3 m3 a4 m4 a5 m5 v u xs ys hk c1 c2 c3 c4 hl c5 hu =>
        simp only at hij hlj hb0 hl1 hi1
        rcases hu with rfl | rfl | rfl
        · conv => whnf
          (refine br_t (by assumption) ?_; conv => whnf)
          (refine br_f (by assumption) ?_; conv => whnf)
          (refine br_f rfl ?_; conv => whnf)
          (refine handp_s 91 [some 3, none] ?_; conv => whnf)
          iterate 2 (refine rq_s (by (rfl)) ?_; conv => whnf)
          (focus (apply callpe_s (f := 91); (· repeat' (first | (refine sub_all ?_; simp [List.length_map]; done) | exact sub_map _ _ _ _ | apply cons_eq | apply obj_eq | apply agg_eq | apply own_eq | apply ro_eq | apply rp_eq | apply fnc_eq | rfl)); refine callp_s (f := 91) rfl (c1 ..) ?_; conv => whnf))
          iterate 2 (refine br_f rfl ?_; conv => whnf)
          (refine handp_s 93 [some 3, none] ?_; conv => whnf)
          iterate 2 (refine rq_s (by (rfl)) ?_; conv => whnf)
          (focus (apply callpe_s (f := 93); (· repeat' (first | (refine sub_all ?_; simp [List.length_map]; done) | exact sub_map _ _ _ _ | apply cons_eq | apply obj_eq | apply agg_eq | apply own_eq | apply ro_eq | apply rp_eq | apply fnc_eq | rfl)); refine callp_s (f := 93) rfl (c2 ..) ?_; conv => whnf))
          (refine fac_s (fun hf => ?_); conv => whnf)
          (refine rows_s (by ((refine sub_all ?_; simp [List.length_map]; done))) ?_; conv => whnf)
          iterate 3 (refine br_f rfl ?_; conv => whnf)
          (refine br_t rfl ?_; conv => whnf)
          (refine handp_s 93 [some 3, none] ?_; conv => whnf)
          iterate 2 (refine rq_s (by (rfl)) ?_; conv => whnf)
          (focus (apply callpe_s (f := 93); (· repeat' (first | (refine sub_all ?_; simp [List.length_map]; done) | exact sub_map _ _ _ _ | apply cons_eq | apply obj_eq | apply agg_eq | apply own_eq | apply ro_eq | apply rp_eq | apply fnc_eq | rfl)); refine callp_s (f := 93) rfl (c3 ..) ?_; conv => whnf))
          (refine rq_s (by (rfl)) ?_; conv => whnf)
          (refine lend_s ?_; conv => whnf)
          (refine call_s (cLit ..) ?_; conv => whnf)
          (refine rq_s (by (rfl)) ?_; conv => whnf)
          (refine lend_s ?_; conv => whnf)
          (refine call_s (cLit ..) ?_; conv => whnf)
          (refine rq_s (by (rfl)) ?_; conv => whnf)
          (refine lend_s ?_; conv => whnf)
          (refine call_s (cIt ..) ?_; conv => whnf)
          (refine handp_s 135 [some 3, none, none] ?_; conv => whnf)
          iterate 3 (refine rq_s (by (rfl)) ?_; conv => whnf)
          (focus (apply callpe_s (f := 135); (· repeat' (first | (refine sub_all ?_; simp [List.length_map]; done) | exact sub_map _ _ _ _ | apply cons_eq | apply obj_eq | apply agg_eq | apply own_eq | apply ro_eq | apply rp_eq | apply fnc_eq | rfl)); refine callp_s (f := 135) rfl (c4.ro ..) ?_; conv => whnf))
          (refine rq_s (by (rfl)) ?_; conv => whnf)
          (refine handp_s 93 [some 3, none] ?_; conv => whnf)
          iterate 2 (refine rq_s (by (rfl)) ?_; conv => whnf)
          (focus (apply callpe_s (f := 93); (· repeat' (first | (refine sub_all ?_; simp [List.length_map]; done) | exact sub_map _ _ _ _ | apply cons_eq | apply obj_eq | apply agg_eq | apply own_eq | apply ro_eq | apply rp_eq | apply fnc_eq | rfl)); refine callp_s (f := 93) rfl (c5 ..) ?_; conv => whnf))
          (refine rq_s (by (rfl)) ?_; conv => whnf)
          (refine rq_s (by ((simp only [decide_eq_true_eq, List.length_map]; done))) ?_; conv => whnf)
          (refine rq_s (by (rfl)) ?_; conv => whnf)
          (refine row_s (by (rfl)) ?_; conv => whnf)
          iterate 2 (refine rq_s (by (rfl)) ?_; conv => whnf)
          (refine rows_s (by ((refine sub_all ?_; simp [List.length_map]; done))) ?_; conv => whnf)
          (refine rq_s (by (rfl)) ?_; conv => whnf)
          (refine rq_s (by ((simp only [decide_eq_true_eq, List.length_map]; done))) ?_; conv => whnf)
          (refine rq_s (by (rfl)) ?_; conv => whnf)
          (refine lend_s ?_; conv => whnf)
          (refine rows_s (by ((refine sub_all ?_; simp [List.length_map]; done))) ?_; conv => whnf)
          (refine call_s (c151 [xs, [⟨2, v⟩], [⟨2, 0⟩], [⟨10, 0⟩], ys, [⟨11, 0⟩]] (by simp) (by simp; omega) ..) ?_; conv => whnf)
          iterate 7 (refine fac_s (fun hf => ?_); conv => whnf)
          (refine ChkS.mk (by kernel_rfl) ?_; conv => whnf)
          rotate_left
          all_goals exact head_s (j + 1) ⟨by omega, by omega⟩ (by simp only [h2, hi1, List.length_map]; first | done | rfl) (by simp only [h2]; rfl)
        · conv => whnf
          (refine br_t (by assumption) ?_; conv => whnf)
          (refine br_f (by assumption) ?_; conv => whnf)
          (refine br_f rfl ?_; conv => whnf)
          (refine handp_s 91 [some 3, none] ?_; conv => whnf)
          iterate 2 (refine rq_s (by (rfl)) ?_; conv => whnf)
          (focus (apply callpe_s (f := 91); (· repeat' (first | (refine sub_all ?_; simp [List.length_map]; done) | exact sub_map _ _ _ _ | apply cons_eq | apply obj_eq | apply agg_eq | apply own_eq | apply ro_eq | apply rp_eq | apply fnc_eq | rfl)); refine callp_s (f := 91) rfl (c1 ..) ?_; conv => whnf))
          iterate 2 (refine br_f rfl ?_; conv => whnf)
          (refine handp_s 93 [some 3, none] ?_; conv => whnf)
          iterate 2 (refine rq_s (by (rfl)) ?_; conv => whnf)
          (focus (apply callpe_s (f := 93); (· repeat' (first | (refine sub_all ?_; simp [List.length_map]; done) | exact sub_map _ _ _ _ | apply cons_eq | apply obj_eq | apply agg_eq | apply own_eq | apply ro_eq | apply rp_eq | apply fnc_eq | rfl)); refine callp_s (f := 93) rfl (c2 ..) ?_; conv => whnf))
          (refine fac_s (fun hf => ?_); conv => whnf)
          (refine rows_s (by ((refine sub_all ?_; simp [List.length_map]; done))) ?_; conv => whnf)
          iterate 3 (refine br_f rfl ?_; conv => whnf)
          (refine br_t rfl ?_; conv => whnf)
          (refine handp_s 93 [some 3, none] ?_; conv => whnf)
          iterate 2 (refine rq_s (by (rfl)) ?_; conv => whnf)
          (focus (apply callpe_s (f := 93); (· repeat' (first | (refine sub_all ?_; simp [List.length_map]; done) | exact sub_map _ _ _ _ | apply cons_eq | apply obj_eq | apply agg_eq | apply own_eq | apply ro_eq | apply rp_eq | apply fnc_eq | rfl)); refine callp_s (f := 93) rfl (c3 ..) ?_; conv => whnf))
          (refine rq_s (by (rfl)) ?_; conv => whnf)
          (refine lend_s ?_; conv => whnf)
          (refine call_s (cLit ..) ?_; conv => whnf)
          (refine rq_s (by (rfl)) ?_; conv => whnf)
          (refine lend_s ?_; conv => whnf)
          (refine call_s (cLit ..) ?_; conv => whnf)
          (refine rq_s (by (rfl)) ?_; conv => whnf)
          (refine lend_s ?_; conv => whnf)
          (refine call_s (cIt ..) ?_; conv => whnf)
          (refine handp_s 135 [some 3, none, none] ?_; conv => whnf)
          iterate 3 (refine rq_s (by (rfl)) ?_; conv => whnf)
          (focus (apply callpe_s (f := 135); (· repeat' (first | (refine sub_all ?_; simp [List.length_map]; done) | exact sub_map _ _ _ _ | apply cons_eq | apply obj_eq | apply agg_eq | apply own_eq | apply ro_eq | apply rp_eq | apply fnc_eq | rfl)); refine callp_s (f := 135) rfl (c4.ro ..) ?_; conv => whnf))
          (refine rq_s (by (rfl)) ?_; conv => whnf)
          (refine handp_s 93 [some 3, none] ?_; conv => whnf)
          iterate 2 (refine rq_s (by (rfl)) ?_; conv => whnf)
          (focus (apply callpe_s (f := 93); (· repeat' (first | (refine sub_all ?_; simp [List.length_map]; done) | exact sub_map _ _ _ _ | apply cons_eq | apply obj_eq | apply agg_eq | apply own_eq | apply ro_eq | apply rp_eq | apply fnc_eq | rfl)); refine callp_s (f := 93) rfl (c5 ..) ?_; conv => whnf))
          (refine rq_s (by (rfl)) ?_; conv => whnf)
          (refine rq_s (by ((simp only [decide_eq_true_eq, List.length_map]; done))) ?_; conv => whnf)
          (refine rq_s (by (rfl)) ?_; conv => whnf)
          (refine row_s (by (rfl)) ?_; conv => whnf)
          iterate 2 (refine rq_s (by (rfl)) ?_; conv => whnf)
          (refine rows_s (by ((refine sub_all ?_; simp [List.length_map]; done))) ?_; conv => whnf)
          (refine rq_s (by (rfl)) ?_; conv => whnf)
          (refine rq_s (by ((simp only [decide_eq_true_eq, List.length_map]; done))) ?_; conv => whnf)
          (refine rq_s (by (rfl)) ?_; conv => whnf)
          (refine lend_s ?_; conv => whnf)
          (refine rows_s (by ((refine sub_all ?_; simp [List.length_map]; done))) ?_; conv => whnf)
          (refine call_s (c151 [xs, [⟨2, v⟩], [⟨2, 0⟩], [⟨10, 0⟩], ys, [⟨11, 0⟩]] (by simp) (by simp; omega) ..) ?_; conv => whnf)
          iterate 7 (refine fac_s (fun hf => ?_); conv => whnf)
          (refine ChkS.mk (by kernel_rfl) ?_; conv => whnf)
          rotate_left
          all_goals exact head_s (j + 1) ⟨by omega, by omega⟩ (by simp only [h2, hi1, List.length_map]; first | done | rfl) (by simp only [h2]; rfl)
        · conv => whnf
          (refine br_t (by assumption) ?_; conv => whnf)
          (refine br_f (by assumption) ?_; conv => whnf)
          (refine br_f rfl ?_; conv => whnf)
          (refine handp_s 91 [some 3, none] ?_; conv => whnf)
          iterate 2 (refine rq_s (by (rfl)) ?_; conv => whnf)
          (focus (apply callpe_s (f := 91); (· repeat' (first | (refine sub_all ?_; simp [List.length_map]; done) | exact sub_map _ _ _ _ | apply cons_eq | apply obj_eq | apply agg_eq | apply own_eq | apply ro_eq | apply rp_eq | apply fnc_eq | rfl)); refine callp_s (f := 91) rfl (c1 ..) ?_; conv => whnf))
          iterate 2 (refine br_f rfl ?_; conv => whnf)
          (refine handp_s 93 [some 3, none] ?_; conv => whnf)
          iterate 2 (refine rq_s (by (rfl)) ?_; conv => whnf)
          (focus (apply callpe_s (f := 93); (· repeat' (first | (refine sub_all ?_; simp [List.length_map]; done) | exact sub_map _ _ _ _ | apply cons_eq | apply obj_eq | apply agg_eq | apply own_eq | apply ro_eq | apply rp_eq | apply fnc_eq | rfl)); refine callp_s (f := 93) rfl (c2 ..) ?_; conv => whnf))
          (refine fac_s (fun hf => ?_); conv => whnf)
          (refine rows_s (by ((refine sub_all ?_; simp [List.length_map]; done))) ?_; conv => whnf)
          iterate 3 (refine br_f rfl ?_; conv => whnf)
          (refine br_t rfl ?_; conv => whnf)
          (refine handp_s 93 [some 3, none] ?_; conv => whnf)
          iterate 2 (refine rq_s (by (rfl)) ?_; conv => whnf)
          (focus (apply callpe_s (f := 93); (· repeat' (first | (refine sub_all ?_; simp [List.length_map]; done) | exact sub_map _ _ _ _ | apply cons_eq | apply obj_eq | apply agg_eq | apply own_eq | apply ro_eq | apply rp_eq | apply fnc_eq | rfl)); refine callp_s (f := 93) rfl (c3 ..) ?_; conv => whnf))
          (refine rq_s (by (rfl)) ?_; conv => whnf)
          (refine lend_s ?_; conv => whnf)
          (refine call_s (cLit ..) ?_; conv => whnf)
          (refine rq_s (by (rfl)) ?_; conv => whnf)
          (refine lend_s ?_; conv => whnf)
          (refine call_s (cLit ..) ?_; conv => whnf)
          (refine rq_s (by (rfl)) ?_; conv => whnf)
          (refine lend_s ?_; conv => whnf)
          (refine call_s (cIt ..) ?_; conv => whnf)
          (refine handp_s 135 [some 3, none, none] ?_; conv => whnf)
          iterate 3 (refine rq_s (by (rfl)) ?_; conv => whnf)
          (focus (apply callpe_s (f := 135); (· repeat' (first | (refine sub_all ?_; simp [List.length_map]; done) | exact sub_map _ _ _ _ | apply cons_eq | apply obj_eq | apply agg_eq | apply own_eq | apply ro_eq | apply rp_eq | apply fnc_eq | rfl)); refine callp_s (f := 135) rfl (c4.ro ..) ?_; conv => whnf))
          (refine rq_s (by (rfl)) ?_; conv => whnf)
          (refine handp_s 93 [some 3, none] ?_; conv => whnf)
          iterate 2 (refine rq_s (by (rfl)) ?_; conv => whnf)
          (focus (apply callpe_s (f := 93); (· repeat' (first | (refine sub_all ?_; simp [List.length_map]; done) | exact sub_map _ _ _ _ | apply cons_eq | apply obj_eq | apply agg_eq | apply own_eq | apply ro_eq | apply rp_eq | apply fnc_eq | rfl)); refine callp_s (f := 93) rfl (c5 ..) ?_; conv => whnf))
          (refine rq_s (by (rfl)) ?_; conv => whnf)
          (refine rq_s (by ((simp only [decide_eq_true_eq, List.length_map]; done))) ?_; conv => whnf)
          (refine rq_s (by (rfl)) ?_; conv => whnf)
          (refine row_s (by (rfl)) ?_; conv => whnf)
          iterate 2 (refine rq_s (by (rfl)) ?_; conv => whnf)
          (refine rows_s (by ((refine sub_all ?_; simp [List.length_map]; done))) ?_; conv => whnf)
          (refine rq_s (by (rfl)) ?_; conv => whnf)
          (refine rq_s (by ((simp only [decide_eq_true_eq, List.length_map]; done))) ?_; conv => whnf)
          (refine rq_s (by (rfl)) ?_; conv => whnf)
          (refine lend_s ?_; conv => whnf)
          (refine rows_s (by ((refine sub_all ?_; simp [List.length_map]; done))) ?_; conv => whnf)
          (refine call_s (c151 [xs, [⟨2, v⟩], [⟨2, 0⟩], [⟨10, 0⟩], ys, [⟨12, 0⟩]] (by simp) (by simp; omega) ..) ?_; conv => whnf)
          iterate 7 (refine fac_s (fun hf => ?_); conv => whnf)
          (refine ChkS.mk (by kernel_rfl) ?_; conv => whnf)
          rotate_left
          all_goals exact head_s (j + 1) ⟨by omega, by omega⟩ (by simp only [h2, hi1, List.length_map]; first | done | rfl) (by simp only [h2]; rfl)
      | @c4 i' a' m' a1 m1 a2 m2 a3 m3 a4 m4 xs ys zs hk c1 c2 c3 hl c4 hl2 =>
        simp only at hij hlj hb0 hl1 hi1
        conv => whnf
        (refine br_t (by assumption) ?_; conv => whnf)
        (refine br_f (by assumption) ?_; conv => whnf)
        (refine br_f rfl ?_; conv => whnf)
        (refine handp_s 91 [some 3, none] ?_; conv => whnf)
        iterate 2 (refine rq_s (by (rfl)) ?_; conv => whnf)
        (focus (apply callpe_s (f := 91); (· repeat' (first | (refine sub_all ?_; simp [List.length_map]; done) | exact sub_map _ _ _ _ | apply cons_eq | apply obj_eq | apply agg_eq | apply own_eq | apply ro_eq | apply rp_eq | apply fnc_eq | rfl)); refine callp_s (f := 91) rfl (c1 ..) ?_; conv => whnf))
        iterate 2 (refine br_f rfl ?_; conv => whnf)
        (refine handp_s 93 [some 3, none] ?_; conv => whnf)
        iterate 2 (refine rq_s (by (rfl)) ?_; conv => whnf)
        (focus (apply callpe_s (f := 93); (· repeat' (first | (refine sub_all ?_; simp [List.length_map]; done) | exact sub_map _ _ _ _ | apply cons_eq | apply obj_eq | apply agg_eq | apply own_eq | apply ro_eq | apply rp_eq | apply fnc_eq | rfl)); refine callp_s (f := 93) rfl (c2 ..) ?_; conv => whnf))
        (refine fac_s (fun hf => ?_); conv => whnf)
        (refine rows_s (by ((refine sub_all ?_; simp [List.length_map]; done))) ?_; conv => whnf)
        iterate 4 (refine br_f rfl ?_; conv => whnf)
        (refine br_t rfl ?_; conv => whnf)
        (refine rq_s (by (rfl)) ?_; conv => whnf)
        (refine lend_s ?_; conv => whnf)
        (refine call_s (cIt ..) ?_; conv => whnf)
        (refine handp_s 135 [some 3, none, none] ?_; conv => whnf)
        iterate 3 (refine rq_s (by (rfl)) ?_; conv => whnf)
        (focus (apply callpe_s (f := 135); (· repeat' (first | (refine sub_all ?_; simp [List.length_map]; done) | exact sub_map _ _ _ _ | apply cons_eq | apply obj_eq | apply agg_eq | apply own_eq | apply ro_eq | apply rp_eq | apply fnc_eq | rfl)); refine callp_s (f := 135) rfl (c3.ro ..) ?_; conv => whnf))
        (refine rq_s (by (rfl)) ?_; conv => whnf)
        (refine lend_s ?_; conv => whnf)
        (refine call_s (cIt ..) ?_; conv => whnf)
        (refine handp_s 135 [some 3, none, none] ?_; conv => whnf)
        iterate 3 (refine rq_s (by (rfl)) ?_; conv => whnf)
        (focus (apply callpe_s (f := 135); (· repeat' (first | (refine sub_all ?_; simp [List.length_map]; done) | exact sub_map _ _ _ _ | apply cons_eq | apply obj_eq | apply agg_eq | apply own_eq | apply ro_eq | apply rp_eq | apply fnc_eq | rfl)); refine callp_s (f := 135) rfl (c4.ro ..) ?_; conv => whnf))
        (refine rq_s (by (rfl)) ?_; conv => whnf)
        (refine lend_s ?_; conv => whnf)
        (refine call_s (cIt ..) ?_; conv => whnf)
        (refine rq_s (by (rfl)) ?_; conv => whnf)
        (refine rq_s (by ((simp only [decide_eq_true_eq, List.length_map]; done))) ?_; conv => whnf)
        (refine rq_s (by (rfl)) ?_; conv => whnf)
        (refine lend_s ?_; conv => whnf)
        (refine rows_s (by ((refine sub_all ?_; simp [List.length_map]; done))) ?_; conv => whnf)
        (refine call_s (c151 [xs, [⟨6, 0⟩], ys, [⟨8, 0⟩], zs, [⟨9, 0⟩]] (by simp) (by simp; omega) ..) ?_; conv => whnf)
        iterate 6 (refine fac_s (fun hf => ?_); conv => whnf)
        (refine ChkS.mk (by kernel_rfl) ?_; conv => whnf)
        rotate_left
        all_goals exact head_s (j + 1) ⟨by omega, by omega⟩ (by simp only [h2, hi1, List.length_map]; first | done | rfl) (by simp only [h2]; rfl)
end S6

/- The reference's source of data, 7: blocks of items there are; contracts. -/
set_option linter.unusedVariables false
set_option linter.unusedSimpArgs false
set_option maxRecDepth 100000
open Go Go.Abs Go.Proofs V1 H1 S1 S2 S3 S4 S5 S6
namespace S7

def BlkEx (d : List UInt8) (k : Int) (n : Nat) (B S Z : Int) : Prop := ∀ {a m L : Int}, SrcOk a m L → L ≤ Z →
  ∃ (xs : List Itm) (a' m' : Int), BlkC d k a m a' m' xs ∧ Fit n xs ∧ (xs.length : Int) ≤ B ∧ SrcOk a' m' (L + S)
def RndEx (d : List UInt8) (k : Int) (n : Nat) (G C Z : Int) : Prop := ∀ (s : Ss) {L : Int}, SrcOk s.a s.m L → L ≤ Z → Fit n s.xs →
  ∃ s' : Ss, Rnd d k s s' ∧ s'.i = s.i - 1 ∧ SrcOk s'.a s'.m (L + C) ∧ Fit n s'.xs ∧ (s'.xs.length : Int) ≤ s.xs.length + G
theorem clamp_ok {x : Itm} (h : itemOK x = true) (hk : x.k = 1 ∨ x.k = 2) : itemOK (clampF x) = true ∧ ((clampF x).k = 1 ∨ (clampF x).k = 2) := by
  unfold clampF
  split
  · exact ⟨rfl, .inl rfl⟩
  · exact ⟨h, hk⟩
theorem rnd0 (d : List UInt8) : RndEx d 0 0 1 70 9900000000 := by
  rintro ⟨i, a, m, xs⟩ L h hl hf
  obtain ⟨x, a1, m1, c1, h1, h2, h3⟩ := fl d (a := a) (m := m) 86 (by omega) h (by omega)
  exact ⟨_, .z rfl c1, rfl, h3, hf.app (Fit.flat (clamp_ok h1 h2).1 (clamp_ok h1 h2).2), by simp⟩
theorem run {d : List UInt8} {k : Int} {n : Nat} {G C Z : Int} (hG : 0 ≤ G) (hC : 0 ≤ C) (h : RndEx d k n G C Z) : ∀ (r : Nat) (s : Ss) {L : Int}, SrcOk s.a s.m L → L + r * C ≤ Z → Fit n s.xs →
    ∃ f : Nat → Ss, f 0 = s ∧ (∀ j, j < r → Rnd d k (f j) (f (j + 1))) ∧ (∀ j, j ≤ r → (f j).i = s.i - j ∧ ((f j).xs.length : Int) ≤ s.xs.length + r * G) ∧ Fit n (f r).xs ∧ SrcOk (f r).a (f r).m (L + r * C)
  | 0, s, L, h1, hl, hf => ⟨fun _ => s, rfl, fun j hj => by omega, fun j hj => (by obtain rfl : j = 0 := (by omega); exact ⟨by simp, by simp⟩), hf, by simpa using h1⟩
  | r + 1, s, L, h1, hl, hf => by
    have e1 : ((r + 1 : Nat) : Int) * C = r * C + C := by rw [Int.natCast_add, Int.add_mul]; simp
    have e2 : ((r + 1 : Nat) : Int) * G = r * G + G := by rw [Int.natCast_add, Int.add_mul]; simp
    have p1 : 0 ≤ (r : Int) * C := Int.mul_nonneg (by omega) hC
    have p2 : 0 ≤ (r : Int) * G := Int.mul_nonneg (by omega) hG
    rw [e1] at hl
    obtain ⟨s', q1, q2, q3, q4, q5⟩ := h s h1 (by omega) hf
    obtain ⟨f, f0, f1, f2, f3, f4⟩ := run hG hC h r s' q3 (by omega) q4
    refine ⟨fun j => match j with | 0 => s | j + 1 => f j, rfl, fun j hj => ?_, fun j hj => ?_, f3, ?_⟩
    · match j with
      | 0 => simp only; rw [f0]; exact q1
      | j + 1 => exact f1 j (by omega)
    · match j with
      | 0 => exact ⟨by simp, by simp only; omega⟩
      | j + 1 =>
        have := f2 j (by omega)
        refine ⟨by simp only [this.1, q2, Int.natCast_add]; omega, ?_⟩
        simp only
        rw [e2]
        omega
    · rw [e1, show L + (r * C + C) = L + C + r * C by omega]; exact f4
theorem blk {d : List UInt8} {k : Int} {n : Nat} {G C Z : Int} (hG : 0 ≤ G ∧ G ≤ 10000) (hC : 0 ≤ C) (hZ : Z ≤ 9000000000) (h : RndEx d k n G C (Z + 4 * C + 3)) : BlkEx d k n (4 * G) (4 * C + 3) Z := by
  intro a m L h1 hl
  obtain ⟨v, a1, m1, k0, p0, q0, h0⟩ := nx d 4 h1 (by omega)
  have w0 : IntKind.i64.wrap (1 + v) = 1 + v := wrap64 (by omega) (by omega)
  have hr : (((1 + v).toNat : Nat) : Int) = 1 + v := by omega
  have b1 : (((1 + v).toNat : Nat) : Int) * C ≤ 4 * C := Int.mul_le_mul_of_nonneg_right (by omega) hC
  have b2 : (((1 + v).toNat : Nat) : Int) * G ≤ 4 * G := Int.mul_le_mul_of_nonneg_right (by omega) hG.1
  obtain ⟨f, f0, f1, f2, f3, f4⟩ := run hG.1 hC h (1 + v).toNat ⟨1 + v, a1, m1, []⟩ h0 (by omega) Fit.nil
  refine ⟨(f (1 + v).toNat).xs, (f (1 + v).toNat).a, (f (1 + v).toNat).m, ?_, f3, ?_, ?_⟩
  · refine block_walk d k a m v f (1 + v).toNat (by rw [f0]; exact k0) (by rw [f0]; exact w0) (by rw [f0]) (by omega) (fun j hj => by rw [(f2 j hj).1]; simp only; omega) (fun j hj => ?_) f1
    have := (f2 j hj).2
    simp only [List.length_nil] at this
    omega
  · have := (f2 _ (Nat.le_refl _)).2
    simp only [List.length_nil] at this
    omega
  · exact sle f4 (by omega)
theorem block0 (d : List UInt8) : BlkEx d 0 0 4 283 9000000000 := fun h hl => blk (G := 1) (C := 70) (by omega) (by omega) (by omega) (fun s L h hl hf => rnd0 d s h (by omega) hf) h hl
theorem rndS {d : List UInt8} {k : Int} {n : Nat} {B S Z : Int} (hB : 4 ≤ B ∧ B ≤ 1000) (hS : 0 ≤ S) (hk : (k == 0) = false) (hZ : Z ≤ 9000000000) (h : BlkEx d (IntKind.i64.wrap (k - 1)) n B S Z) : RndEx d k (n + 1) (2 * B + 12) (2 * S + 400) (Z - S - 400) := by
  rintro ⟨i, a, m, xs⟩ L h1 hl hf
  obtain ⟨b, a1, m1, k1, h1⟩ := ch d 4 h1 (by omega)
  cases b with
  | false =>
    obtain ⟨x, a2, m2, k2, p1, p2, h2⟩ := fl d (a := a1) (m := m1) 86 (by omega) h1 (by omega)
    exact ⟨_, .f hk k1 k2, rfl, sle h2 (by omega), hf.app (Fit.flat (clamp_ok p1 p2).1 (clamp_ok p1 p2).2), by simp; omega⟩
  | true =>
    obtain ⟨v, a2, m2, k2, p2, q2, h2⟩ := nx d 5 h1 (by omega)
    have hv : v = 0 ∨ v = 1 ∨ v = 2 ∨ v = 3 ∨ v = 4 := by omega
    rcases hv with rfl | rfl | rfl | rfl | rfl
    · obtain ⟨ys, a3, m3, k3, t3, l3, h3⟩ := h h2 (by omega)
      exact ⟨_, .c0 hk k1 k2 k3 (by omega), rfl, sle h3 (by omega), hf.c0 t3, by simp; omega⟩
    · obtain ⟨ys, a3, m3, k3, t3, l3, h3⟩ := h h2 (by omega)
      obtain ⟨zs, a4, m4, k4, t4, l4, h4⟩ := h h3 (by omega)
      exact ⟨_, .c1 hk k1 k2 k3 (by omega) k4 (by omega), rfl, sle h4 (by omega), hf.c1 t3 t4, by simp; omega⟩
    · obtain ⟨v, a3, m3, k3, p3, q3, h3⟩ := nx d 3 h2 (by omega)
      obtain ⟨ys, a4, m4, k4, t4, l4, h4⟩ := block0 d h3 (by omega)
      exact ⟨_, .c2 hk k1 k2 k3 (wrap64 (by omega) (by omega)) k4 (by omega), rfl, sle h4 (by omega), hf.c2 (by simp [cell, inR]; omega) (t4.mono (by omega)), by simp; omega⟩
    · obtain ⟨v, a3, m3, k3, p3, q3, h3⟩ := nx d 4 h2 (by omega)
      obtain ⟨ys, a4, m4, k4, t4, l4, h4⟩ := h h3 (by omega)
      obtain ⟨u, a5, m5, k5, p5, q5, h5⟩ := nx d 3 h4 (by omega)
      exact ⟨_, .c3 hk k1 k2 k3 k4 (by omega) k5 (by omega), rfl, sle h5 (by omega), hf.c3 (by simp [cell, inR]; omega) (by split <;> simp) t4, by simp; omega⟩
    · obtain ⟨ys, a3, m3, k3, t3, l3, h3⟩ := block0 d h2 (by omega)
      obtain ⟨zs, a4, m4, k4, t4, l4, h4⟩ := h h3 (by omega)
      exact ⟨_, .c4 hk k1 k2 k3 (by omega) k4 (by omega), rfl, sle h4 (by omega), hf.c4 (t3.mono (by omega)) t4, by simp; omega⟩
theorem block1 (d : List UInt8) : BlkEx d 1 1 80 4000 8000000000 := fun h hl => by
  have h0 : BlkEx d (IntKind.i64.wrap (1 - 1)) 0 4 283 9000000000 := block0 d
  obtain ⟨xs, a', m', h1, h2, h3, h4⟩ := blk (Z := 8000000000) (by omega) (by omega) (by omega) (fun s L h hl hf => rndS (k := 1) (by omega) (by omega) rfl (by omega) h0 s h (by omega) hf) h hl
  exact ⟨xs, a', m', h1, h2, by omega, sle h4 (by omega)⟩
theorem block2 (d : List UInt8) : BlkEx d 2 2 688 34000 7000000000 := fun h hl => by
  have h0 : BlkEx d (IntKind.i64.wrap (2 - 1)) 1 80 4000 8000000000 := block1 d
  obtain ⟨xs, a', m', h1, h2, h3, h4⟩ := blk (Z := 7000000000) (by omega) (by omega) (by omega) (fun s L h hl hf => rndS (k := 2) (by omega) (by omega) rfl (by omega) h0 s h (by omega) hf) h hl
  exact ⟨xs, a', m', h1, h2, by omega, sle h4 (by omega)⟩
end S7

/- The reference's source of data, 8: lists of items; contracts. -/
set_option linter.unusedVariables false
set_option linter.unusedSimpArgs false
set_option maxRecDepth 100000
open Go Go.Abs Go.Proofs V1 H1 S1 S2 S3 S4 S5 S6 S7
namespace S8


theorem appm_s {α : Type} (f : α → List AV) {xs : List α} {y : α} {row : List AV} {lvl l : Nat} {K : Nat → List (List AV) → Nat → Prop} (hr : row = f y) (k : K lvl ((xs ++ [y]).map f) (xs ++ [y]).length) :
    AppG lvl (subA (xs.map f) 0 (xs.map f).length ++ (l, subA [row] 0 1).snd) ((xs.map f).length + (l, subA [row] 0 1).snd.length) K :=
  ⟨_, _, _, rfl, by simp [subA, hr, List.take_of_length_le], by simp [subA], k⟩

def ItC (d : List UInt8) (a m a' m' : Int) (xs : List Itm) : Prop := Con Try.prog 87 [srcO d a m, .int .i64 86] [srcO d a' m', .undef] (ownT xs)
theorem it_ex (d : List UInt8) {a m L : Int} (h : SrcOk a m L) (hl : L ≤ 6000000000) : ∃ xs a' m', ItC d a m a' m' xs ∧ Fit 2 xs ∧ xs.length ≤ 60 ∧ SrcOk a' m' (L + 40000) := by
  obtain ⟨xs, a1, m1, k1, f1, l1, h1⟩ := block2 d h (by omega)
  obtain ⟨b, a2, m2, k2, h2⟩ := ch d 10 h1 (by omega)
  unfold BlkC at k1
  have goal : ∀ ys : List Itm, ys = (if b = true then xs ++ [⟨13, 0⟩] else xs) → (ys.length : Int) ≤ 700 → Fit 2 ys → ∃ xs a' m', ItC d a m a' m' xs ∧ Fit 2 xs ∧ xs.length ≤ 60 ∧ SrcOk a' m' (L + 40000) := by
    intro ys hy hly hfy
    by_cases hc : (ys.length : Int) > 60
    · obtain ⟨zs, a3, m3, k3, f3, l3, h3⟩ := block0 d h2 (by omega)
      unfold BlkC at k3
      refine ⟨zs, a3, m3, ?_, f3.mono (by omega), by omega, sle h3 (by omega)⟩
      cases b with
      | true =>
        simp only [if_true] at hy
        have hb : decide (((xs ++ [⟨13, 0⟩] : List Itm).length : Int) > 60) = true := by rw [← hy]; simpa using hc
        refine Con.evP 22 [500000] rfl T_ok mix Try.func87 rfl rfl rfl rfl [.tmp 4] rfl ?_
        conv => whnf
        (refine handp_s 135 [some 3, none, none] ?_; conv => whnf)
        iterate 3 (refine rq_s (by (rfl)) ?_; conv => whnf)
        (focus (apply callpe_s (f := 135); (· repeat' (first | (refine sub_all ?_; simp [List.length_map]; done) | exact sub_map _ _ _ _ | apply cons_eq | apply obj_eq | apply agg_eq | apply own_eq | apply ro_eq | apply rp_eq | apply fnc_eq | rfl)); refine callp_s (f := 135) rfl (k1 ..) ?_; conv => whnf))
        (refine fac_s (fun hf => ?_); conv => whnf)
        (refine handp_s 91 [some 3, none] ?_; conv => whnf)
        iterate 2 (refine rq_s (by (rfl)) ?_; conv => whnf)
        (focus (apply callpe_s (f := 91); (· repeat' (first | (refine sub_all ?_; simp [List.length_map]; done) | exact sub_map _ _ _ _ | apply cons_eq | apply obj_eq | apply agg_eq | apply own_eq | apply ro_eq | apply rp_eq | apply fnc_eq | rfl)); refine callp_s (f := 91) rfl (k2 ..) ?_; conv => whnf))
        (refine br_t rfl ?_; conv => whnf)
        iterate 2 (refine rq_s (by (rfl)) ?_; conv => whnf)
        (refine rq_s (by ((simp only [decide_eq_true_eq, List.length_map]; done))) ?_; conv => whnf)
        iterate 2 (refine rq_s (by (rfl)) ?_; conv => whnf)
        (refine rq_s (by ((simp only [decide_eq_true_eq, List.length_map]; done))) ?_; conv => whnf)
        (refine rq_s (by (((refine and_s rfl ?_; simp [maxBytes, subA]; omega)))) ?_; conv => whnf)
        (refine appm_s itR (y := ⟨13, 0⟩) rfl ?_; conv => whnf)
        (refine br_t (by assumption) ?_; conv => whnf)
        (refine handp_s 135 [some 3, none, none] ?_; conv => whnf)
        iterate 3 (refine rq_s (by (rfl)) ?_; conv => whnf)
        (focus (apply callpe_s (f := 135); (· repeat' (first | (refine sub_all ?_; simp [List.length_map]; done) | exact sub_map _ _ _ _ | apply cons_eq | apply obj_eq | apply agg_eq | apply own_eq | apply ro_eq | apply rp_eq | apply fnc_eq | rfl)); refine callp_s (f := 135) rfl (k3 ..) ?_; conv => whnf))
        (refine fac_s (fun hf => ?_); conv => whnf)
        (refine rq_s (by ((simp only [decide_eq_true_eq, List.length_map]; done))) ?_; conv => whnf)
        (refine rq_s (by (rfl)) ?_; conv => whnf)
        (refine rows_s (by ((refine sub_all ?_; simp [List.length_map]; done))) ?_; conv => whnf)
        (refine aftp_s (by rfl) ?_; conv => whnf)
        (refine rows_s (by (rfl)) ?_; conv => whnf)
        (refine aftp_s (by rfl) ?_; conv => whnf)
        exact True.intro
      | false =>
        simp only [Bool.false_eq_true, if_false] at hy
        have hb : decide (((xs.map itR).length : Int) > 60) = true := by rw [← hy, List.length_map]; simpa using hc
        refine Con.evP 22 [500000] rfl T_ok mix Try.func87 rfl rfl rfl rfl [.tmp 4] rfl ?_
        conv => whnf
        (refine handp_s 135 [some 3, none, none] ?_; conv => whnf)
        iterate 3 (refine rq_s (by (rfl)) ?_; conv => whnf)
        (focus (apply callpe_s (f := 135); (· repeat' (first | (refine sub_all ?_; simp [List.length_map]; done) | exact sub_map _ _ _ _ | apply cons_eq | apply obj_eq | apply agg_eq | apply own_eq | apply ro_eq | apply rp_eq | apply fnc_eq | rfl)); refine callp_s (f := 135) rfl (k1 ..) ?_; conv => whnf))
        (refine fac_s (fun hf => ?_); conv => whnf)
        (refine handp_s 91 [some 3, none] ?_; conv => whnf)
        iterate 2 (refine rq_s (by (rfl)) ?_; conv => whnf)
        (focus (apply callpe_s (f := 91); (· repeat' (first | (refine sub_all ?_; simp [List.length_map]; done) | exact sub_map _ _ _ _ | apply cons_eq | apply obj_eq | apply agg_eq | apply own_eq | apply ro_eq | apply rp_eq | apply fnc_eq | rfl)); refine callp_s (f := 91) rfl (k2 ..) ?_; conv => whnf))
        (refine br_f rfl ?_; conv => whnf)
        (refine br_t (by assumption) ?_; conv => whnf)
        (refine handp_s 135 [some 3, none, none] ?_; conv => whnf)
        iterate 3 (refine rq_s (by (rfl)) ?_; conv => whnf)
        (focus (apply callpe_s (f := 135); (· repeat' (first | (refine sub_all ?_; simp [List.length_map]; done) | exact sub_map _ _ _ _ | apply cons_eq | apply obj_eq | apply agg_eq | apply own_eq | apply ro_eq | apply rp_eq | apply fnc_eq | rfl)); refine callp_s (f := 135) rfl (k3 ..) ?_; conv => whnf))
        (refine fac_s (fun hf => ?_); conv => whnf)
        (refine rq_s (by ((simp only [decide_eq_true_eq, List.length_map]; done))) ?_; conv => whnf)
        (refine rq_s (by (rfl)) ?_; conv => whnf)
        (refine rows_s (by ((refine sub_all ?_; simp [List.length_map]; done))) ?_; conv => whnf)
        (refine aftp_s (by rfl) ?_; conv => whnf)
        (refine rows_s (by (rfl)) ?_; conv => whnf)
        (refine aftp_s (by rfl) ?_; conv => whnf)
        exact True.intro
    · refine ⟨ys, a2, m2, ?_, hfy, by omega, sle h2 (by omega)⟩
      cases b with
      | true =>
        simp only [if_true] at hy
        have hb : decide (((xs ++ [⟨13, 0⟩] : List Itm).length : Int) > 60) = false := by rw [← hy]; simpa using hc
        refine Con.evP 22 [500000] rfl T_ok mix Try.func87 rfl rfl rfl rfl [.tmp 4] rfl ?_
        conv => whnf
        (refine handp_s 135 [some 3, none, none] ?_; conv => whnf)
        iterate 3 (refine rq_s (by (rfl)) ?_; conv => whnf)
        (focus (apply callpe_s (f := 135); (· repeat' (first | (refine sub_all ?_; simp [List.length_map]; done) | exact sub_map _ _ _ _ | apply cons_eq | apply obj_eq | apply agg_eq | apply own_eq | apply ro_eq | apply rp_eq | apply fnc_eq | rfl)); refine callp_s (f := 135) rfl (k1 ..) ?_; conv => whnf))
        (refine fac_s (fun hf => ?_); conv => whnf)
        (refine handp_s 91 [some 3, none] ?_; conv => whnf)
        iterate 2 (refine rq_s (by (rfl)) ?_; conv => whnf)
        (focus (apply callpe_s (f := 91); (· repeat' (first | (refine sub_all ?_; simp [List.length_map]; done) | exact sub_map _ _ _ _ | apply cons_eq | apply obj_eq | apply agg_eq | apply own_eq | apply ro_eq | apply rp_eq | apply fnc_eq | rfl)); refine callp_s (f := 91) rfl (k2 ..) ?_; conv => whnf))
        (refine br_t rfl ?_; conv => whnf)
        iterate 2 (refine rq_s (by (rfl)) ?_; conv => whnf)
        (refine rq_s (by ((simp only [decide_eq_true_eq, List.length_map]; done))) ?_; conv => whnf)
        iterate 2 (refine rq_s (by (rfl)) ?_; conv => whnf)
        (refine rq_s (by ((simp only [decide_eq_true_eq, List.length_map]; done))) ?_; conv => whnf)
        (refine rq_s (by (((refine and_s rfl ?_; simp [maxBytes, subA]; omega)))) ?_; conv => whnf)
        (refine appm_s itR (y := ⟨13, 0⟩) rfl ?_; conv => whnf)
        (refine br_f (by assumption) ?_; conv => whnf)
        (refine rq_s (by ((simp only [decide_eq_true_eq, List.length_map]; done))) ?_; conv => whnf)
        (refine rq_s (by (rfl)) ?_; conv => whnf)
        (refine rows_s (by ((refine sub_all ?_; simp [List.length_map]; done))) ?_; conv => whnf)
        (refine aftp_s (by ((rw [hy]; rfl))) ?_; conv => whnf)
        (refine rows_s (by (rfl)) ?_; conv => whnf)
        (refine aftp_s (by rfl) ?_; conv => whnf)
        exact True.intro
      | false =>
        simp only [Bool.false_eq_true, if_false] at hy
        have hb : decide (((xs.map itR).length : Int) > 60) = false := by rw [← hy, List.length_map]; simpa using hc
        refine Con.evP 22 [500000] rfl T_ok mix Try.func87 rfl rfl rfl rfl [.tmp 4] rfl ?_
        conv => whnf
        (refine handp_s 135 [some 3, none, none] ?_; conv => whnf)
        iterate 3 (refine rq_s (by (rfl)) ?_; conv => whnf)
        (focus (apply callpe_s (f := 135); (· repeat' (first | (refine sub_all ?_; simp [List.length_map]; done) | exact sub_map _ _ _ _ | apply cons_eq | apply obj_eq | apply agg_eq | apply own_eq | apply ro_eq | apply rp_eq | apply fnc_eq | rfl)); refine callp_s (f := 135) rfl (k1 ..) ?_; conv => whnf))
        (refine fac_s (fun hf => ?_); conv => whnf)
        (refine handp_s 91 [some 3, none] ?_; conv => whnf)
        iterate 2 (refine rq_s (by (rfl)) ?_; conv => whnf)
        (focus (apply callpe_s (f := 91); (· repeat' (first | (refine sub_all ?_; simp [List.length_map]; done) | exact sub_map _ _ _ _ | apply cons_eq | apply obj_eq | apply agg_eq | apply own_eq | apply ro_eq | apply rp_eq | apply fnc_eq | rfl)); refine callp_s (f := 91) rfl (k2 ..) ?_; conv => whnf))
        (refine br_f rfl ?_; conv => whnf)
        (refine br_f (by assumption) ?_; conv => whnf)
        (refine rq_s (by ((simp only [decide_eq_true_eq, List.length_map]; done))) ?_; conv => whnf)
        (refine rq_s (by (rfl)) ?_; conv => whnf)
        (refine rows_s (by ((refine sub_all ?_; simp [List.length_map]; done))) ?_; conv => whnf)
        (refine aftp_s (by ((rw [hy]; rfl))) ?_; conv => whnf)
        (refine rows_s (by (rfl)) ?_; conv => whnf)
        (refine aftp_s (by rfl) ?_; conv => whnf)
        exact True.intro
  cases b with
  | true => exact goal _ rfl (by simp; omega) (f1.app Fit.self)
  | false => exact goal _ rfl (by simp; omega) f1
theorem src_ok (d : List UInt8) : SrcOk 0 ((d.length : Int).tmod 1000) 0 := by
  have h1 : 0 ≤ (d.length : Int).tmod 1000 := Int.tmod_nonneg _ (by omega)
  have h2 : (d.length : Int).tmod 1000 < 1000 := Int.tmod_lt_of_pos _ (by omega)
  exact ⟨by omega, by omega, h1, by omega⟩
theorem drawn (d : List UInt8) : ∃ xs : List Itm, Con Try.prog 38 [roU d] (undefs [roU d]) (ownT xs) ∧ Fit 2 xs ∧ xs.length ≤ 60 := by
  obtain ⟨xs, a1, m1, k1, f1, l1, h1⟩ := it_ex d (src_ok d) (by omega)
  unfold ItC at k1
  refine ⟨xs, ?_, f1, l1⟩
  refine Con.ev 6 T_ok mix Try.func38 rfl rfl rfl rfl [.tmp 2] rfl ?_
  conv => whnf
  (refine rq_s (by (rfl)) ?_; conv => whnf)
  (refine lend_s ?_; conv => whnf)
  (refine rows_s (by (rfl)) ?_; conv => whnf)
  (refine call_s (c45 ..) ?_; conv => whnf)
  (refine handp_s 87 [some 3, none] ?_; conv => whnf)
  iterate 2 (refine rq_s (by (rfl)) ?_; conv => whnf)
  (focus (apply callpe_s (f := 87); (· repeat' (first | (refine sub_all ?_; simp [List.length_map]; done) | exact sub_map _ _ _ _ | apply cons_eq | apply obj_eq | apply agg_eq | apply own_eq | apply ro_eq | apply rp_eq | apply fnc_eq | rfl)); refine callp_s (f := 87) rfl (k1 ..) ?_; conv => whnf))
  (refine fac_s (fun hf => ?_); conv => whnf)
  (refine rq_s (by ((simp only [decide_eq_true_eq, List.length_map]; done))) ?_; conv => whnf)
  (refine rq_s (by (rfl)) ?_; conv => whnf)
  (refine rows_s (by ((refine sub_all ?_; simp [List.length_map]; done))) ?_; conv => whnf)
  (refine sh_s ?_; (rfl))
end S8
