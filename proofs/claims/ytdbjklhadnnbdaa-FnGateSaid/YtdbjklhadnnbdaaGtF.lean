import Derived.Test.YtdbjklhadnnbdaaGtE
/- The reference's source of data, 7: blocks of items there are; contracts. -/
set_option linter.unusedVariables false
set_option linter.unusedSimpArgs false
set_option maxRecDepth 100000
open Go Go.Abs Go.Proofs V1 H1 S1 S2 S3 S4 S5 S6
namespace S7

def BlkEx (d : List UInt8) (k : Int) (n : Nat) (B S Z : Int) : Prop := ∀ {a m L : Int}, SrcOk a m L → L ≤ Z →
  ∃ (xs : List Itm) (a' m' : Int), BlkC d k a m a' m' xs ∧ Fit n xs ∧ (xs.length : Int) ≤ B ∧ SrcOk a' m' (L + S)
def RndEx (d : List UInt8) (k : Int) (n : Nat) (G C Z : Int) : Prop := ∀ (s : Ss) {L : Int}, SrcOk s.a s.m L → L ≤ Z → Fit n s.xs →
  ∃ s' : Ss, Rnd d k s s' ∧ s'.i = s.i - 1 ∧ SrcOk s'.a s'.m (L + C) ∧ Fit n s'.xs ∧ (s'.xs.length : Int) ≤ s.xs.length + G
theorem clamp_ok {x : Itm} (h : itemOK x = true) (hk : x.k = 1 ∨ x.k = 2) : itemOK (clampF x) = true ∧ ((clampF x).k = 1 ∨ (clampF x).k = 2) := by
  unfold clampF
  split
  · exact ⟨rfl, .inl rfl⟩
  · exact ⟨h, hk⟩
theorem rnd0 (d : List UInt8) : RndEx d 0 0 1 70 9900000000 := by
  rintro ⟨i, a, m, xs⟩ L h hl hf
  obtain ⟨x, a1, m1, c1, h1, h2, h3⟩ := fl d (a := a) (m := m) 86 (by omega) h (by omega)
  exact ⟨_, .z rfl c1, rfl, h3, hf.app (Fit.flat (clamp_ok h1 h2).1 (clamp_ok h1 h2).2), by simp⟩
theorem run {d : List UInt8} {k : Int} {n : Nat} {G C Z : Int} (hG : 0 ≤ G) (hC : 0 ≤ C) (h : RndEx d k n G C Z) : ∀ (r : Nat) (s : Ss) {L : Int}, SrcOk s.a s.m L → L + r * C ≤ Z → Fit n s.xs →
    ∃ f : Nat → Ss, f 0 = s ∧ (∀ j, j < r → Rnd d k (f j) (f (j + 1))) ∧ (∀ j, j ≤ r → (f j).i = s.i - j ∧ ((f j).xs.length : Int) ≤ s.xs.length + r * G) ∧ Fit n (f r).xs ∧ SrcOk (f r).a (f r).m (L + r * C)
  | 0, s, L, h1, hl, hf => ⟨fun _ => s, rfl, fun j hj => by omega, fun j hj => (by obtain rfl : j = 0 := (by omega); exact ⟨by simp, by simp⟩), hf, by simpa using h1⟩
  | r + 1, s, L, h1, hl, hf => by
    have e1 : ((r + 1 : Nat) : Int) * C = r * C + C := by rw [Int.natCast_add, Int.add_mul]; simp
    have e2 : ((r + 1 : Nat) : Int) * G = r * G + G := by rw [Int.natCast_add, Int.add_mul]; simp
    have p1 : 0 ≤ (r : Int) * C := Int.mul_nonneg (by omega) hC
    have p2 : 0 ≤ (r : Int) * G := Int.mul_nonneg (by omega) hG
    rw [e1] at hl
    obtain ⟨s', q1, q2, q3, q4, q5⟩ := h s h1 (by omega) hf
    obtain ⟨f, f0, f1, f2, f3, f4⟩ := run hG hC h r s' q3 (by omega) q4
    refine ⟨fun j => match j with | 0 => s | j + 1 => f j, rfl, fun j hj => ?_, fun j hj => ?_, f3, ?_⟩
    · match j with
      | 0 => simp only; rw [f0]; exact q1
      | j + 1 => exact f1 j (by omega)
    · match j with
      | 0 => exact ⟨by simp, by simp only; omega⟩
      | j + 1 =>
        have := f2 j (by omega)
        refine ⟨by simp only [this.1, q2, Int.natCast_add]; omega, ?_⟩
        simp only
        rw [e2]
        omega
    · rw [e1, show L + (r * C + C) = L + C + r * C by omega]; exact f4
theorem blk {d : List UInt8} {k : Int} {n : Nat} {G C Z : Int} (hG : 0 ≤ G ∧ G ≤ 10000) (hC : 0 ≤ C) (hZ : Z ≤ 9000000000) (h : RndEx d k n G C (Z + 4 * C + 3)) : BlkEx d k n (4 * G) (4 * C + 3) Z := by
  intro a m L h1 hl
  obtain ⟨v, a1, m1, k0, p0, q0, h0⟩ := nx d 4 h1 (by omega)
  have w0 : IntKind.i64.wrap (1 + v) = 1 + v := wrap64 (by omega) (by omega)
  have hr : (((1 + v).toNat : Nat) : Int) = 1 + v := by omega
  have b1 : (((1 + v).toNat : Nat) : Int) * C ≤ 4 * C := Int.mul_le_mul_of_nonneg_right (by omega) hC
  have b2 : (((1 + v).toNat : Nat) : Int) * G ≤ 4 * G := Int.mul_le_mul_of_nonneg_right (by omega) hG.1
  obtain ⟨f, f0, f1, f2, f3, f4⟩ := run hG.1 hC h (1 + v).toNat ⟨1 + v, a1, m1, []⟩ h0 (by omega) Fit.nil
  refine ⟨(f (1 + v).toNat).xs, (f (1 + v).toNat).a, (f (1 + v).toNat).m, ?_, f3, ?_, ?_⟩
  · refine block_walk d k a m v f (1 + v).toNat (by rw [f0]; exact k0) (by rw [f0]; exact w0) (by rw [f0]) (by omega) (fun j hj => by rw [(f2 j hj).1]; simp only; omega) (fun j hj => ?_) f1
    have := (f2 j hj).2
    simp only [List.length_nil] at this
    omega
  · have := (f2 _ (Nat.le_refl _)).2
    simp only [List.length_nil] at this
    omega
  · exact sle f4 (by omega)
theorem block0 (d : List UInt8) : BlkEx d 0 0 4 283 9000000000 := fun h hl => blk (G := 1) (C := 70) (by omega) (by omega) (by omega) (fun s L h hl hf => rnd0 d s h (by omega) hf) h hl
theorem rndS {d : List UInt8} {k : Int} {n : Nat} {B S Z : Int} (hB : 4 ≤ B ∧ B ≤ 1000) (hS : 0 ≤ S) (hk : (k == 0) = false) (hZ : Z ≤ 9000000000) (h : BlkEx d (IntKind.i64.wrap (k - 1)) n B S Z) : RndEx d k (n + 1) (2 * B + 12) (2 * S + 400) (Z - S - 400) := by
  rintro ⟨i, a, m, xs⟩ L h1 hl hf
  obtain ⟨b, a1, m1, k1, h1⟩ := ch d 4 h1 (by omega)
  cases b with
  | false =>
    obtain ⟨x, a2, m2, k2, p1, p2, h2⟩ := fl d (a := a1) (m := m1) 86 (by omega) h1 (by omega)
    exact ⟨_, .f hk k1 k2, rfl, sle h2 (by omega), hf.app (Fit.flat (clamp_ok p1 p2).1 (clamp_ok p1 p2).2), by simp; omega⟩
  | true =>
    obtain ⟨v, a2, m2, k2, p2, q2, h2⟩ := nx d 5 h1 (by omega)
    have hv : v = 0 ∨ v = 1 ∨ v = 2 ∨ v = 3 ∨ v = 4 := by omega
    rcases hv with rfl | rfl | rfl | rfl | rfl
    · obtain ⟨ys, a3, m3, k3, t3, l3, h3⟩ := h h2 (by omega)
      exact ⟨_, .c0 hk k1 k2 k3 (by omega), rfl, sle h3 (by omega), hf.c0 t3, by simp; omega⟩
    · obtain ⟨ys, a3, m3, k3, t3, l3, h3⟩ := h h2 (by omega)
      obtain ⟨zs, a4, m4, k4, t4, l4, h4⟩ := h h3 (by omega)
      exact ⟨_, .c1 hk k1 k2 k3 (by omega) k4 (by omega), rfl, sle h4 (by omega), hf.c1 t3 t4, by simp; omega⟩
    · obtain ⟨v, a3, m3, k3, p3, q3, h3⟩ := nx d 3 h2 (by omega)
      obtain ⟨ys, a4, m4, k4, t4, l4, h4⟩ := block0 d h3 (by omega)
      exact ⟨_, .c2 hk k1 k2 k3 (wrap64 (by omega) (by omega)) k4 (by omega), rfl, sle h4 (by omega), hf.c2 (by simp [cell, inR]; omega) (t4.mono (by omega)), by simp; omega⟩
    · obtain ⟨v, a3, m3, k3, p3, q3, h3⟩ := nx d 4 h2 (by omega)
      obtain ⟨ys, a4, m4, k4, t4, l4, h4⟩ := h h3 (by omega)
      obtain ⟨u, a5, m5, k5, p5, q5, h5⟩ := nx d 3 h4 (by omega)
      exact ⟨_, .c3 hk k1 k2 k3 k4 (by omega) k5 (by omega), rfl, sle h5 (by omega), hf.c3 (by simp [cell, inR]; omega) (by split <;> simp) t4, by simp; omega⟩
    · obtain ⟨ys, a3, m3, k3, t3, l3, h3⟩ := block0 d h2 (by omega)
      obtain ⟨zs, a4, m4, k4, t4, l4, h4⟩ := h h3 (by omega)
      exact ⟨_, .c4 hk k1 k2 k3 (by omega) k4 (by omega), rfl, sle h4 (by omega), hf.c4 (t3.mono (by omega)) t4, by simp; omega⟩
theorem block1 (d : List UInt8) : BlkEx d 1 1 80 4000 8000000000 := fun h hl => by
  have h0 : BlkEx d (IntKind.i64.wrap (1 - 1)) 0 4 283 9000000000 := block0 d
  obtain ⟨xs, a', m', h1, h2, h3, h4⟩ := blk (Z := 8000000000) (by omega) (by omega) (by omega) (fun s L h hl hf => rndS (k := 1) (by omega) (by omega) rfl (by omega) h0 s h (by omega) hf) h hl
  exact ⟨xs, a', m', h1, h2, by omega, sle h4 (by omega)⟩
theorem block2 (d : List UInt8) : BlkEx d 2 2 688 34000 7000000000 := fun h hl => by
  have h0 : BlkEx d (IntKind.i64.wrap (2 - 1)) 1 80 4000 8000000000 := block1 d
  obtain ⟨xs, a', m', h1, h2, h3, h4⟩ := blk (Z := 7000000000) (by omega) (by omega) (by omega) (fun s L h hl hf => rndS (k := 2) (by omega) (by omega) rfl (by omega) h0 s h (by omega) hf) h hl
  exact ⟨xs, a', m', h1, h2, by omega, sle h4 (by omega)⟩
end S7

/- The reference's source of data, 8: lists of items; contracts. -/
set_option linter.unusedVariables false
set_option linter.unusedSimpArgs false
set_option maxRecDepth 100000
open Go Go.Abs Go.Proofs V1 H1 S1 S2 S3 S4 S5 S6 S7
namespace S8


theorem appm_s {α : Type} (f : α → List AV) {xs : List α} {y : α} {row : List AV} {lvl l : Nat} {K : Nat → List (List AV) → Nat → Prop} (hr : row = f y) (k : K lvl ((xs ++ [y]).map f) (xs ++ [y]).length) :
    AppG lvl (subA (xs.map f) 0 (xs.map f).length ++ (l, subA [row] 0 1).snd) ((xs.map f).length + (l, subA [row] 0 1).snd.length) K :=
  ⟨_, _, _, rfl, by simp [subA, hr, List.take_of_length_le], by simp [subA], k⟩

def ItC (d : List UInt8) (a m a' m' : Int) (xs : List Itm) : Prop := Con Try.prog 87 [srcO d a m, .int .i64 86] [srcO d a' m', .undef] (ownT xs)
theorem it_ex (d : List UInt8) {a m L : Int} (h : SrcOk a m L) (hl : L ≤ 6000000000) : ∃ xs a' m', ItC d a m a' m' xs ∧ Fit 2 xs ∧ xs.length ≤ 60 ∧ SrcOk a' m' (L + 40000) := by
  obtain ⟨xs, a1, m1, k1, f1, l1, h1⟩ := block2 d h (by omega)
  obtain ⟨b, a2, m2, k2, h2⟩ := ch d 10 h1 (by omega)
  unfold BlkC at k1
  have goal : ∀ ys : List Itm, ys = (if b = true then xs ++ [⟨13, 0⟩] else xs) → (ys.length : Int) ≤ 700 → Fit 2 ys → ∃ xs a' m', ItC d a m a' m' xs ∧ Fit 2 xs ∧ xs.length ≤ 60 ∧ SrcOk a' m' (L + 40000) := by
    intro ys hy hly hfy
    by_cases hc : (ys.length : Int) > 60
    · obtain ⟨zs, a3, m3, k3, f3, l3, h3⟩ := block0 d h2 (by omega)
      unfold BlkC at k3
      refine ⟨zs, a3, m3, ?_, f3.mono (by omega), by omega, sle h3 (by omega)⟩
      cases b with
      | true =>
        simp only [if_true] at hy
        have hb : decide (((xs ++ [⟨13, 0⟩] : List Itm).length : Int) > 60) = true := by rw [← hy]; simpa using hc
        refine Con.evP 22 [500000] rfl T_ok mix Try.func87 rfl rfl rfl rfl [.tmp 4] rfl ?_
        conv => whnf
        (refine handp_s 135 [some 3, none, none] ?_; conv => whnf)
        iterate 3 (refine rq_s (by (rfl)) ?_; conv => whnf)
        (focus (apply callpe_s (f := 135); (· repeat' (first | (refine sub_all ?_; simp [List.length_map]; done) | exact sub_map _ _ _ _ | apply cons_eq | apply obj_eq | apply agg_eq | apply own_eq | apply ro_eq | apply rp_eq | apply fnc_eq | rfl)); refine callp_s (f := 135) rfl (k1 ..) ?_; conv => whnf))
        (refine fac_s (fun hf => ?_); conv => whnf)
        (refine handp_s 91 [some 3, none] ?_; conv => whnf)
        iterate 2 (refine rq_s (by (rfl)) ?_; conv => whnf)
        (focus (apply callpe_s (f := 91); (· repeat' (first | (refine sub_all ?_; simp [List.length_map]; done) | exact sub_map _ _ _ _ | apply cons_eq | apply obj_eq | apply agg_eq | apply own_eq | apply ro_eq | apply rp_eq | apply fnc_eq | rfl)); refine callp_s (f := 91) rfl (k2 ..) ?_; conv => whnf))
        (refine br_t rfl ?_; conv => whnf)
        iterate 2 (refine rq_s (by (rfl)) ?_; conv => whnf)
        (refine rq_s (by ((simp only [decide_eq_true_eq, List.length_map]; done))) ?_; conv => whnf)
        iterate 2 (refine rq_s (by (rfl)) ?_; conv => whnf)
        (refine rq_s (by ((simp only [decide_eq_true_eq, List.length_map]; done))) ?_; conv => whnf)
        (refine rq_s (by (((refine and_s rfl ?_; simp [maxBytes, subA]; omega)))) ?_; conv => whnf)
        (refine appm_s itR (y := ⟨13, 0⟩) rfl ?_; conv => whnf)
        (refine br_t (by assumption) ?_; conv => whnf)
        (refine handp_s 135 [some 3, none, none] ?_; conv => whnf)
        iterate 3 (refine rq_s (by (rfl)) ?_; conv => whnf)
        (focus (apply callpe_s (f := 135); (· repeat' (first | (refine sub_all ?_; simp [List.length_map]; done) | exact sub_map _ _ _ _ | apply cons_eq | apply obj_eq | apply agg_eq | apply own_eq | apply ro_eq | apply rp_eq | apply fnc_eq | rfl)); refine callp_s (f := 135) rfl (k3 ..) ?_; conv => whnf))
        (refine fac_s (fun hf => ?_); conv => whnf)
        (refine rq_s (by ((simp only [decide_eq_true_eq, List.length_map]; done))) ?_; conv => whnf)
        (refine rq_s (by (rfl)) ?_; conv => whnf)
        (refine rows_s (by ((refine sub_all ?_; simp [List.length_map]; done))) ?_; conv => whnf)
        (refine aftp_s (by rfl) ?_; conv => whnf)
        (refine rows_s (by (rfl)) ?_; conv => whnf)
        (refine aftp_s (by rfl) ?_; conv => whnf)
        exact True.intro
      | false =>
        simp only [Bool.false_eq_true, if_false] at hy
        have hb : decide (((xs.map itR).length : Int) > 60) = true := by rw [← hy, List.length_map]; simpa using hc
        refine Con.evP 22 [500000] rfl T_ok mix Try.func87 rfl rfl rfl rfl [.tmp 4] rfl ?_
        conv => whnf
        (refine handp_s 135 [some 3, none, none] ?_; conv => whnf)
        iterate 3 (refine rq_s (by (rfl)) ?_; conv => whnf)
        (focus (apply callpe_s (f := 135); (· repeat' (first | (refine sub_all ?_; simp [List.length_map]; done) | exact sub_map _ _ _ _ | apply cons_eq | apply obj_eq | apply agg_eq | apply own_eq | apply ro_eq | apply rp_eq | apply fnc_eq | rfl)); refine callp_s (f := 135) rfl (k1 ..) ?_; conv => whnf))
        (refine fac_s (fun hf => ?_); conv => whnf)
        (refine handp_s 91 [some 3, none] ?_; conv => whnf)
        iterate 2 (refine rq_s (by (rfl)) ?_; conv => whnf)
        (focus (apply callpe_s (f := 91); (· repeat' (first | (refine sub_all ?_; simp [List.length_map]; done) | exact sub_map _ _ _ _ | apply cons_eq | apply obj_eq | apply agg_eq | apply own_eq | apply ro_eq | apply rp_eq | apply fnc_eq | rfl)); refine callp_s (f := 91) rfl (k2 ..) ?_; conv => whnf))
        (refine br_f rfl ?_; conv => whnf)
        (refine br_t (by assumption) ?_; conv => whnf)
        (refine handp_s 135 [some 3, none, none] ?_; conv => whnf)
        iterate 3 (refine rq_s (by (rfl)) ?_; conv => whnf)
        (focus (apply callpe_s (f := 135); (· repeat' (first | (refine sub_all ?_; simp [List.length_map]; done) | exact sub_map _ _ _ _ | apply cons_eq | apply obj_eq | apply agg_eq | apply own_eq | apply ro_eq | apply rp_eq | apply fnc_eq | rfl)); refine callp_s (f := 135) rfl (k3 ..) ?_; conv => whnf))
        (refine fac_s (fun hf => ?_); conv => whnf)
        (refine rq_s (by ((simp only [decide_eq_true_eq, List.length_map]; done))) ?_; conv => whnf)
        (refine rq_s (by (rfl)) ?_; conv => whnf)
        (refine rows_s (by ((refine sub_all ?_; simp [List.length_map]; done))) ?_; conv => whnf)
        (refine aftp_s (by rfl) ?_; conv => whnf)
        (refine rows_s (by (rfl)) ?_; conv => whnf)
        (refine aftp_s (by rfl) ?_; conv => whnf)
        exact True.intro
    · refine ⟨ys, a2, m2, ?_, hfy, by omega, sle h2 (by omega)⟩
      cases b with
      | true =>
        simp only [if_true] at hy
        have hb : decide (((xs ++ [⟨13, 0⟩] : List Itm).length : Int) > 60) = false := by rw [← hy]; simpa using hc
        refine Con.evP 22 [500000] rfl T_ok mix Try.func87 rfl rfl rfl rfl [.tmp 4] rfl ?_
        conv => whnf
        (refine handp_s 135 [some 3, none, none] ?_; conv => whnf)
        iterate 3 (refine rq_s (by (rfl)) ?_; conv => whnf)
        (focus (apply callpe_s (f := 135); (· repeat' (first | (refine sub_all ?_; simp [List.length_map]; done) | exact sub_map _ _ _ _ | apply cons_eq | apply obj_eq | apply agg_eq | apply own_eq | apply ro_eq | apply rp_eq | apply fnc_eq | rfl)); refine callp_s (f := 135) rfl (k1 ..) ?_; conv => whnf))
        (refine fac_s (fun hf => ?_); conv => whnf)
        (refine handp_s 91 [some 3, none] ?_; conv => whnf)
        iterate 2 (refine rq_s (by (rfl)) ?_; conv => whnf)
        (focus (apply callpe_s (f := 91); (· repeat' (first | (refine sub_all ?_; simp [List.length_map]; done) | exact sub_map _ _ _ _ | apply cons_eq | apply obj_eq | apply agg_eq | apply own_eq | apply ro_eq | apply rp_eq | apply fnc_eq | rfl)); refine callp_s (f := 91) rfl (k2 ..) ?_; conv => whnf))
        (refine br_t rfl ?_; conv => whnf)
        iterate 2 (refine rq_s (by (rfl)) ?_; conv => whnf)
        (refine rq_s (by ((simp only [decide_eq_true_eq, List.length_map]; done))) ?_; conv => whnf)
        iterate 2 (refine rq_s (by (rfl)) ?_; conv => whnf)
        (refine rq_s (by ((simp only [decide_eq_true_eq, List.length_map]; done))) ?_; conv => whnf)
        (refine rq_s (by (((refine and_s rfl ?_; simp [maxBytes, subA]; omega)))) ?_; conv => whnf)
        (refine appm_s itR (y := ⟨13, 0⟩) rfl ?_; conv => whnf)
        (refine br_f (by assumption) ?_; conv => whnf)
        (refine rq_s (by ((simp only [decide_eq_true_eq, List.length_map]; done))) ?_; conv => whnf)
        (refine rq_s (by (rfl)) ?_; conv => whnf)
        (refine rows_s (by ((refine sub_all ?_; simp [List.length_map]; done))) ?_; conv => whnf)
        (refine aftp_s (by ((rw [hy]; rfl))) ?_; conv => whnf)
        (refine rows_s (by (rfl)) ?_; conv => whnf)
        (refine aftp_s (by rfl) ?_; conv => whnf)
        exact True.intro
      | false =>
        simp only [Bool.false_eq_true, if_false] at hy
        have hb : decide (((xs.map itR).length : Int) > 60) = false := by rw [← hy, List.length_map]; simpa using hc
        refine Con.evP 22 [500000] rfl T_ok mix Try.func87 rfl rfl rfl rfl [.tmp 4] rfl ?_
        conv => whnf
        (refine handp_s 135 [some 3, none, none] ?_; conv => whnf)
        iterate 3 (refine rq_s (by (rfl)) ?_; conv => whnf)
        (focus (apply callpe_s (f := 135); (· repeat' (first | (refine sub_all ?_; simp [List.length_map]; done) | exact sub_map _ _ _ _ | apply cons_eq | apply obj_eq | apply agg_eq | apply own_eq | apply ro_eq | apply rp_eq | apply fnc_eq | rfl)); refine callp_s (f := 135) rfl (k1 ..) ?_; conv => whnf))
        (refine fac_s (fun hf => ?_); conv => whnf)
        (refine handp_s 91 [some 3, none] ?_; conv => whnf)
        iterate 2 (refine rq_s (by (rfl)) ?_; conv => whnf)
        (focus (apply callpe_s (f := 91); (· repeat' (first | (refine sub_all ?_; simp [List.length_map]; done) | exact sub_map _ _ _ _ | apply cons_eq | apply obj_eq | apply agg_eq | apply own_eq | apply ro_eq | apply rp_eq | apply fnc_eq | rfl)); refine callp_s (f := 91) rfl (k2 ..) ?_; conv => whnf))
        (refine br_f rfl ?_; conv => whnf)
        (refine br_f (by assumption) ?_; conv => whnf)
        (refine rq_s (by ((simp only [decide_eq_true_eq, List.length_map]; done))) ?_; conv => whnf)
        (refine rq_s (by (rfl)) ?_; conv => whnf)
        (refine rows_s (by ((refine sub_all ?_; simp [List.length_map]; done))) ?_; conv => whnf)
        (refine aftp_s (by ((rw [hy]; rfl))) ?_; conv => whnf)
        (refine rows_s (by (rfl)) ?_; conv => whnf)
        (refine aftp_s (by rfl) ?_; conv => whnf)
        exact True.intro
  cases b with
  | true => exact goal _ rfl (by simp; omega) (f1.app Fit.self)
  | false => exact goal _ rfl (by simp; omega) f1
theorem src_ok (d : List UInt8) : SrcOk 0 ((d.length : Int).tmod 1000) 0 := by
  have h1 : 0 ≤ (d.length : Int).tmod 1000 := Int.tmod_nonneg _ (by omega)
  have h2 : (d.length : Int).tmod 1000 < 1000 := Int.tmod_lt_of_pos _ (by omega)
  exact ⟨by omega, by omega, h1, by omega⟩
theorem drawn (d : List UInt8) : ∃ xs : List Itm, Con Try.prog 38 [roU d] (undefs [roU d]) (ownT xs) ∧ Fit 2 xs ∧ xs.length ≤ 60 := by
  obtain ⟨xs, a1, m1, k1, f1, l1, h1⟩ := it_ex d (src_ok d) (by omega)
  unfold ItC at k1
  refine ⟨xs, ?_, f1, l1⟩
  refine Con.ev 6 T_ok mix Try.func38 rfl rfl rfl rfl [.tmp 2] rfl ?_
  conv => whnf
  (refine rq_s (by (rfl)) ?_; conv => whnf)
  (refine lend_s ?_; conv => whnf)
  (refine rows_s (by (rfl)) ?_; conv => whnf)
  (refine call_s (c45 ..) ?_; conv => whnf)
  (refine handp_s 87 [some 3, none] ?_; conv => whnf)
  iterate 2 (refine rq_s (by (rfl)) ?_; conv => whnf)
  (focus (apply callpe_s (f := 87); (· repeat' (first | (refine sub_all ?_; simp [List.length_map]; done) | exact sub_map _ _ _ _ | apply cons_eq | apply obj_eq | apply agg_eq | apply own_eq | apply ro_eq | apply rp_eq | apply fnc_eq | rfl)); refine callp_s (f := 87) rfl (k1 ..) ?_; conv => whnf))
  (refine fac_s (fun hf => ?_); conv => whnf)
  (refine rq_s (by ((simp only [decide_eq_true_eq, List.length_map]; done))) ?_; conv => whnf)
  (refine rq_s (by (rfl)) ?_; conv => whnf)
  (refine rows_s (by ((refine sub_all ?_; simp [List.length_map]; done))) ?_; conv => whnf)
  (refine sh_s ?_; (rfl))
end S8
