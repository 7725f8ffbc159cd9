import Derived.Test.YtdbjklhadnnbdaaGtF
import Derived.Test.YtdbjklhadnnbdaaAbsm
/- The reference's source of data, hosts and data: contracts. -/
set_option linter.unusedVariables false
set_option linter.unusedSimpArgs false
set_option maxRecDepth 100000
open Go Go.Abs Go.Proofs V1 H1 S1 S2 S3 S4 S5 S6 S7 S8
namespace G1

structure Cs where
  a : Int
  m : Int
  xs : List Int
def CeC (d : List UInt8) (a m a' m' v : Int) : Prop := Con Try.prog 61 [srcO d a m] [srcO d a' m'] (.int .i64 v)
def CsC (d : List UInt8) (n : Int) (a m a' m' : Int) (xs : List Int) : Prop := Con Try.prog 92 [srcO d a m, .int .i64 n] [srcO d a' m', .undef] (ownI xs)
def RC (d : List UInt8) (s s' : Cs) : Prop := ∃ v, CeC d s.a s.m s'.a s'.m v ∧ s'.xs = s.xs ++ [v]
def RunC (d : List UInt8) (r : Nat) (s : Cs) (L : Int) : Prop := ∃ f : Nat → Cs, f 0 = s ∧ (∀ i, i < r → RC d (f i) (f (i + 1))) ∧ (∀ i, i ≤ r → (f i).xs.length = s.xs.length + i) ∧ cellsOK (f r).xs = true ∧ SrcOk (f r).a (f r).m (L + 20 * r)
theorem runC (d : List UInt8) : ∀ (r : Nat) (s : Cs) {L : Int}, SrcOk s.a s.m L → L + 20 * r ≤ 10000000000 → cellsOK s.xs = true → RunC d r s L
  | 0, s, L, h, hl, hx => ⟨fun _ => s, rfl, fun i hi => by omega, fun i hi => (by obtain rfl : i = 0 := (by omega); rfl), hx, sle h (by omega)⟩
  | r + 1, s, L, h, hl, hx => by
    obtain ⟨v, a1, m1, k1, p1, h1⟩ := ce d h (by omega)
    obtain ⟨f, q0, q1, q2, q3, q4⟩ := runC d r ⟨a1, m1, s.xs ++ [v]⟩ h1 (by omega) (cells_app hx (cells_one p1))
    refine ⟨fun i => match i with | 0 => s | i + 1 => f i, rfl, fun i hi => ?_, fun i hi => ?_, q3, sle q4 (by omega)⟩
    · match i with
      | 0 => simp only; rw [q0]; exact ⟨v, k1, rfl⟩
      | i + 1 => exact q1 i (by omega)
    · match i with
      | 0 => rfl
      | i + 1 => have := q2 i (by omega); simp only [this, List.length_append, List.length_cons, List.length_nil]; omega


theorem cells_walk (d : List UInt8) (a m : Int) (n : Nat) (f : Nat → Cs) (hn : n ≤ 1000) (f0 : f 0 = ⟨a, m, []⟩) (hr : ∀ i, i < n → RC d (f i) (f (i + 1))) (hl : ∀ i, i ≤ n → (f i).xs.length = i) : CsC d n a m (f n).a (f n).m (f n).xs := by
  refine Con.evP 19 [500000] rfl T_ok mix Try.func92 rfl rfl rfl rfl [.tmp 4] rfl ?_
  conv => whnf
  (refine rq_s (by (rfl)) ?_; conv => whnf)
  rotate_left
  refine LoopG.bearT 5 101 zI rfl rfl ?_
  refine LoopG.auto (α := Nat) T_ok mix [0, 1, 5, 6] (fun j => [(0, .ptr 500000 0 0), (1, .int .i64 n), (5, .ref 2 0 (f j).xs.length), (6, .int .i64 j)]) (fun j => [(500000, .live ⟨false, 0, [.undef, .undef, .undef], [srcC d (f j).a (f j).m]⟩), (2, .live ⟨true, 0, zI, (f j).xs.map intR⟩)]) (fun j => j ≤ n) (fun j => n - j) ?_ ?_
  · conv => whnf
    (refine ChkS.mk (by kernel_rfl) ?_; conv => whnf)
    rotate_left
    exact head_s 0 (by omega) (by rw [f0]; rfl) (by rw [f0]; rfl)
  · intro j hj _ _
    have hlj := hl j hj
    by_cases hjn : j = n
    · subst hjn
      have hb0 : decide ((j : Int) < j) = false := by simp
      conv => whnf
      (focus (refine br_f (by (simp; done)) ?_; conv => whnf))
      (refine rq_s (by ((simp only [decide_eq_true_eq, List.length_map]; done))) ?_; conv => whnf)
      (refine rq_s (by (rfl)) ?_; conv => whnf)
      (refine rows_s (by ((refine sub_all ?_; simp [List.length_map]; done))) ?_; conv => whnf)
      (refine aftp_s (by rfl) ?_; conv => whnf)
      (refine rows_s (by (rfl)) ?_; conv => whnf)
      (refine aftp_s (by rfl) ?_; conv => whnf)
      exact True.intro
    · have hb0 : decide ((j : Int) < n) = true := by simp; omega
      obtain ⟨v, k1, hv⟩ := hr j (by omega)
      have hi1 : IntKind.i64.wrap ((j : Int) + 1) = ((j + 1 : Nat) : Int) := by rw [wrap64 (by omega) (by omega)]; omega
      unfold CeC at k1
      conv => whnf
      (refine br_t (by assumption) ?_; conv => whnf)
      (refine handp_s 61 [some 3] ?_; conv => whnf)
      (refine rq_s (by (rfl)) ?_; conv => whnf)
      (focus (apply callpe_s (f := 61); (· repeat' (first | (refine sub_all ?_; simp [List.length_map]; done) | exact sub_map _ _ _ _ | apply cons_eq | apply obj_eq | apply agg_eq | apply own_eq | apply ro_eq | apply rp_eq | apply fnc_eq | rfl)); refine callp_s (f := 61) rfl (k1 ..) ?_; conv => whnf))
      (refine rq_s (by (rfl)) ?_; conv => whnf)
      (refine rq_s (by ((simp only [decide_eq_true_eq, List.length_map]; done))) ?_; conv => whnf)
      iterate 2 (refine rq_s (by (rfl)) ?_; conv => whnf)
      (refine rq_s (by ((simp only [decide_eq_true_eq, List.length_map]; done))) ?_; conv => whnf)
      (refine rq_s (by (((refine and_s rfl ?_; simp [maxBytes, subA]; omega)))) ?_; conv => whnf)
      (refine appf_s intR (y := v) rfl ?_; conv => whnf)
      (refine fac_s (fun hf => ?_); conv => whnf)
      (refine ChkS.mk (by kernel_rfl) ?_; conv => whnf)
      rotate_left
      exact head_s (j + 1) ⟨by omega, by omega⟩ (by simp only [hv, hi1]) (by simp only [hv]; rfl)
theorem cs (d : List UInt8) {a m L : Int} (n : Int) (hn : 0 ≤ n ∧ n ≤ 100) (h : SrcOk a m L) (hl : L ≤ 9000000000) : ∃ xs a' m', CsC d n a m a' m' xs ∧ (xs.length : Int) = n ∧ cellsOK xs = true ∧ SrcOk a' m' (L + 2000) := by
  obtain ⟨f, q0, q1, q2, q3, q4⟩ := runC d n.toNat ⟨a, m, []⟩ h (by omega) rfl
  have hc := cells_walk d a m n.toNat f (by omega) q0 q1 (fun i hi => by have := q2 i hi; simpa using this)
  rw [show ((n.toNat : Nat) : Int) = n by omega] at hc
  refine ⟨_, _, _, hc, ?_, q3, sle q4 (by omega)⟩
  have := q2 n.toNat (Nat.le_refl _)
  simp only [List.length_nil] at this
  omega
end G1

/- The reference's source of data, hosts: contracts. -/
set_option linter.unusedVariables false
set_option linter.unusedSimpArgs false
set_option maxRecDepth 100000
open Go Go.Abs Go.Proofs V1 H1 S1 S2 S3 S4 S5 S6 S7 S8 G1
namespace G2

structure Gs where
  a : Int
  m : Int
  gr : List Bool
def RG (d : List UInt8) (i : Nat) (s s' : Gs) : Prop := ∃ b, ChC d 3 s.a s.m s'.a s'.m b ∧ s'.gr = s.gr.set i (!b)
theorem runG (d : List UInt8) {a m L : Int} (h : SrcOk a m L) (hl : L ≤ 9000000000) : ∃ f : Nat → Gs, f 0 = ⟨a, m, List.replicate 4 false⟩ ∧ (∀ i, i < 4 → RG d i (f i) (f (i + 1))) ∧ (∀ i, i ≤ 4 → (f i).gr.length = 4) ∧ SrcOk (f 4).a (f 4).m (L + 12) := by
  obtain ⟨b1, a1, m1, k1, h1⟩ := ch d 3 h (by omega)
  obtain ⟨b2, a2, m2, k2, h2⟩ := ch d 3 h1 (by omega)
  obtain ⟨b3, a3, m3, k3, h3⟩ := ch d 3 h2 (by omega)
  obtain ⟨b4, a4, m4, k4, h4⟩ := ch d 3 h3 (by omega)
  refine ⟨fun i => match i with
    | 0 => ⟨a, m, List.replicate 4 false⟩
    | 1 => ⟨a1, m1, (List.replicate 4 false).set 0 (!b1)⟩
    | 2 => ⟨a2, m2, ((List.replicate 4 false).set 0 (!b1)).set 1 (!b2)⟩
    | 3 => ⟨a3, m3, (((List.replicate 4 false).set 0 (!b1)).set 1 (!b2)).set 2 (!b3)⟩
    | _ => ⟨a4, m4, ((((List.replicate 4 false).set 0 (!b1)).set 1 (!b2)).set 2 (!b3)).set 3 (!b4)⟩, rfl, fun i hi => ?_, fun i hi => ?_, sle h4 (by omega)⟩
  · match i with
    | 0 => exact ⟨b1, k1, rfl⟩
    | 1 => exact ⟨b2, k2, rfl⟩
    | 2 => exact ⟨b3, k3, rfl⟩
    | 3 => exact ⟨b4, k4, rfl⟩
  · match i with
    | 0 => rfl
    | 1 => rfl
    | 2 => rfl
    | 3 => rfl
    | 4 => rfl
theorem c90 : Con Try.prog 90 [] (undefs []) (.agg [ownB (List.replicate 4 false), ownI (List.replicate 8 0), .emp, .int .i64 0, .emp]) := by
  refine Con.ev 6 T_ok mix Try.func90 rfl rfl rfl rfl [.cell 0 27] rfl ?_
  conv => whnf
  (refine ChkS.mk (by kernel_rfl) ?_; conv => whnf)
  iterate 3 (refine rq_s (by (rfl)) ?_; conv => whnf)
  (refine ChkS.mk (by kernel_rfl) ?_; conv => whnf)
  iterate 3 (refine rq_s (by (rfl)) ?_; conv => whnf)
  (refine ChkS.mk (by kernel_rfl) ?_; conv => whnf)
  (refine rq_s (by (rfl)) ?_; conv => whnf)
  (refine ChkS.mk (by kernel_rfl) ?_; conv => whnf)
  (refine rq_s (by (rfl)) ?_; conv => whnf)
  (refine ChkS.mk (by kernel_rfl) ?_; conv => whnf)
  (refine rq_s (by (rfl)) ?_; conv => whnf)
  iterate 2 (refine ChkS.mk (by kernel_rfl) ?_; conv => whnf)
  (refine rq_s (by (rfl)) ?_; conv => whnf)
  (refine rq_s (by ((simp only [decide_eq_true_eq, List.length_map]; done))) ?_; conv => whnf)
  (refine rq_s (by (rfl)) ?_; conv => whnf)
  (refine rq_s (by ((simp only [decide_eq_true_eq, List.length_map]; done))) ?_; conv => whnf)
  iterate 4 (refine rq_s (by (rfl)) ?_; conv => whnf)
  iterate 2 (refine rows_s (by ((refine sub_all ?_; simp [List.length_map]; done))) ?_; conv => whnf)
  (refine sh_s ?_; (rfl))
theorem hst_e {gr : List Bool} {st q : List Int} {tk : Int} : Sh (.agg [.own 0 [.bool false] (gr.map boolR), .own 0 [.int .i64 0] (st.map intR), .own 0 [.int .i64 0] (q.map intR), .int .i64 tk, .emp]) (hstV ⟨gr, st, q, tk, []⟩) :=
  Sh.agg ⟨Sh.own_ro (by omega) _ _, Sh.own_ro (by omega) _ _, Sh.own_ro (by omega) _ _, Sh.refl _, Sh.emp_ro _, trivial⟩
theorem hst_d {gr : List Bool} {st q : List Int} {tk : Int} {n : Nat} {rows : List (List AV)} (h : rows = List.replicate n [.int .i64 0, .int .i64 0, .int .i64 0, .int .i64 0]) : Sh (.agg [.own 0 [.bool false] (gr.map boolR), .own 0 [.int .i64 0] (st.map intR), .own 0 [.int .i64 0] (q.map intR), .int .i64 tk, .own 0 [.int .i64 0, .int .i64 0, .int .i64 0, .int .i64 0] rows]) (hstV ⟨gr, st, q, tk, List.replicate n ⟨0, 0, 0, 0⟩⟩) := by
  have e : rows = (List.replicate n (⟨0, 0, 0, 0⟩ : Deal)).map dealR := by rw [h, List.map_replicate]; rfl
  rw [e]
  exact Sh.agg ⟨Sh.own_ro (by omega) _ _, Sh.own_ro (by omega) _ _, Sh.own_ro (by omega) _ _, Sh.refl _, Sh.own_ro (by omega) _ _, trivial⟩


theorem host_walk (d : List UInt8) {a m a1 m1 a2 m2 a3 m3 a4 m4 a5 m5 a6 m6 n tk v : Int} {st q : List Int} {b8 : Bool} (f : Nat → Gs) (f0 : f 0 = ⟨a, m, List.replicate 4 false⟩) (hr : ∀ i, i < 4 → RG d i (f i) (f (i + 1))) (hl : ∀ i, i ≤ 4 → (f i).gr.length = 4)
    (k1 : CsC d 8 (f 4).a (f 4).m a1 m1 st) (k2 : NxC d 4 a1 m1 a2 m2 n) (k3 : CsC d n a2 m2 a3 m3 q) (k4 : NxC d 100 a3 m3 a4 m4 tk) (k5 : ChC d 8 a4 m4 a5 m5 b8) (k6 : b8 = true → NxC d 2 a5 m5 a6 m6 v) (hv : 0 ≤ v ∧ v ≤ 1) :
    Con Try.prog 46 [srcO d a m] [if b8 = true then srcO d a6 m6 else srcO d a5 m5] (hstV ⟨(f 4).gr, st, q, tk, if b8 = true then List.replicate (40 - v).toNat ⟨0, 0, 0, 0⟩ else []⟩) := by
  have w1 : IntKind.i64.wrap (40 - v) = 40 - v := wrap64 (by omega) (by omega)
  unfold CsC at k1 k3
  unfold NxC at k2 k4
  unfold ChC at k5
  refine Con.evP 36 [500000] rfl T_ok mix Try.func46 rfl rfl rfl rfl [.cell 2 27] rfl ?_
  conv => whnf
  (refine lend_s ?_; conv => whnf)
  (refine call_s (c90 ..) ?_; conv => whnf)
  iterate 3 (refine fac_s (fun hf => ?_); conv => whnf)
  rotate_left
  refine LoopG.auto (α := Nat) T_ok mix [0, 2, 3, 4] (fun j => [(0, .ptr 500000 0 0), (2, .ptr 2 0 0), (3, .ptr 3 0 0), (4, .int .i64 j)]) (fun j => [(500000, .live ⟨false, 0, [.undef, .undef, .undef], [srcC d (f j).a (f j).m]⟩),
      (2, .live ⟨false, 0, [.emp, .emp, .emp, .int .i64 0, .emp], [[.emp, .emp, .emp, .int .i64 0, .emp]]⟩),
      (3, .live ⟨false, 0, [.emp, .emp, .emp, .int .i64 0, .emp], [[.ref 4 0 (f j).gr.length, .ref 5 0 8, .emp, .int .i64 0, .emp]]⟩),
      (4, .live ⟨true, 0, zB, (f j).gr.map boolR⟩), (5, .live ⟨true, 0, zI, (List.replicate 8 (0 : Int)).map intR⟩)]) (fun j => j ≤ 4) (fun j => 4 - j) ?_ ?_
  · conv => whnf
    (refine ChkS.mk (by kernel_rfl) ?_; conv => whnf)
    rotate_left
    exact head_s 0 (by omega) rfl (by rw [f0]; rfl)
  · intro j hj _ _
    have hlj := hl j hj
    by_cases hjn : j = 4
    · subst hjn
      cases b8 with
      | true =>
        have k6 := k6 rfl
        unfold NxC at k6
        conv => whnf
        (refine br_f rfl ?_; conv => whnf)
        (refine handp_s 92 [some 3, none] ?_; conv => whnf)
        iterate 2 (refine rq_s (by (rfl)) ?_; conv => whnf)
        (focus (apply callpe_s (f := 92); (· repeat' (first | (refine sub_all ?_; simp [List.length_map]; done) | exact sub_map _ _ _ _ | apply cons_eq | apply obj_eq | apply agg_eq | apply own_eq | apply ro_eq | apply rp_eq | apply fnc_eq | rfl)); refine callp_s (f := 92) rfl (k1 ..) ?_; conv => whnf))
        (refine rq_s (by (rfl)) ?_; conv => whnf)
        (refine fac_s (fun hf => ?_); conv => whnf)
        (refine handp_s 93 [some 3, none] ?_; conv => whnf)
        iterate 2 (refine rq_s (by (rfl)) ?_; conv => whnf)
        (focus (apply callpe_s (f := 93); (· repeat' (first | (refine sub_all ?_; simp [List.length_map]; done) | exact sub_map _ _ _ _ | apply cons_eq | apply obj_eq | apply agg_eq | apply own_eq | apply ro_eq | apply rp_eq | apply fnc_eq | rfl)); refine callp_s (f := 93) rfl (k2 ..) ?_; conv => whnf))
        (refine handp_s 92 [some 3, none] ?_; conv => whnf)
        iterate 2 (refine rq_s (by (rfl)) ?_; conv => whnf)
        (focus (apply callpe_s (f := 92); (· repeat' (first | (refine sub_all ?_; simp [List.length_map]; done) | exact sub_map _ _ _ _ | apply cons_eq | apply obj_eq | apply agg_eq | apply own_eq | apply ro_eq | apply rp_eq | apply fnc_eq | rfl)); refine callp_s (f := 92) rfl (k3 ..) ?_; conv => whnf))
        (refine rq_s (by (rfl)) ?_; conv => whnf)
        iterate 2 (refine fac_s (fun hf => ?_); conv => whnf)
        (refine handp_s 93 [some 3, none] ?_; conv => whnf)
        iterate 2 (refine rq_s (by (rfl)) ?_; conv => whnf)
        (focus (apply callpe_s (f := 93); (· repeat' (first | (refine sub_all ?_; simp [List.length_map]; done) | exact sub_map _ _ _ _ | apply cons_eq | apply obj_eq | apply agg_eq | apply own_eq | apply ro_eq | apply rp_eq | apply fnc_eq | rfl)); refine callp_s (f := 93) rfl (k4 ..) ?_; conv => whnf))
        (refine rq_s (by (rfl)) ?_; conv => whnf)
        (refine fac_s (fun hf => ?_); conv => whnf)
        (refine handp_s 91 [some 3, none] ?_; conv => whnf)
        iterate 2 (refine rq_s (by (rfl)) ?_; conv => whnf)
        (focus (apply callpe_s (f := 91); (· repeat' (first | (refine sub_all ?_; simp [List.length_map]; done) | exact sub_map _ _ _ _ | apply cons_eq | apply obj_eq | apply agg_eq | apply own_eq | apply ro_eq | apply rp_eq | apply fnc_eq | rfl)); refine callp_s (f := 91) rfl (k5 ..) ?_; conv => whnf))
        (refine br_t rfl ?_; conv => whnf)
        (refine handp_s 93 [some 3, none] ?_; conv => whnf)
        iterate 2 (refine rq_s (by (rfl)) ?_; conv => whnf)
        (focus (apply callpe_s (f := 93); (· repeat' (first | (refine sub_all ?_; simp [List.length_map]; done) | exact sub_map _ _ _ _ | apply cons_eq | apply obj_eq | apply agg_eq | apply own_eq | apply ro_eq | apply rp_eq | apply fnc_eq | rfl)); refine callp_s (f := 93) rfl (k6 ..) ?_; conv => whnf))
        iterate 2 (refine rq_s (by ((simp only [Bool.and_eq_true, decide_eq_true_eq, List.length_map]; omega))) ?_; conv => whnf)
        (refine rq_s (by (((first | (refine and_s (and_s ?_ rfl) rfl; simp only [Bool.and_eq_true, decide_eq_true_eq, maxBytes]; omega) | (simp [maxBytes, AV.plain, w1]; omega))))) ?_; conv => whnf)
        (refine rq_s (by (rfl)) ?_; conv => whnf)
        (refine fac_s (fun hf => ?_); conv => whnf)
        (refine rq_s (by (rfl)) ?_; conv => whnf)
        (refine rq_s (by ((simp only [decide_eq_true_eq, List.length_map]; done))) ?_; conv => whnf)
        (refine rq_s (by (rfl)) ?_; conv => whnf)
        (refine rq_s (by ((simp only [decide_eq_true_eq, List.length_map]; done))) ?_; conv => whnf)
        (refine rq_s (by (rfl)) ?_; conv => whnf)
        (refine rq_s (by ((simp only [decide_eq_true_eq, List.length_map]; done))) ?_; conv => whnf)
        iterate 2 (refine rq_s (by (rfl)) ?_; conv => whnf)
        (refine rq_s (by ((simp only [decide_eq_true_eq, List.length_map]; done))) ?_; conv => whnf)
        (refine rq_s (by (rfl)) ?_; conv => whnf)
        iterate 4 (refine rows_s (by ((refine sub_all ?_; simp [List.length_map]; done))) ?_; conv => whnf)
        rotate_left
        refine ⟨hst_d (by rw [w1]), ?_⟩
        conv => whnf
        (refine rows_s (by (rfl)) ?_; conv => whnf)
        (refine aftp_s (by rfl) ?_; conv => whnf)
        exact True.intro
      | false =>
        conv => whnf
        (refine br_f rfl ?_; conv => whnf)
        (refine handp_s 92 [some 3, none] ?_; conv => whnf)
        iterate 2 (refine rq_s (by (rfl)) ?_; conv => whnf)
        (focus (apply callpe_s (f := 92); (· repeat' (first | (refine sub_all ?_; simp [List.length_map]; done) | exact sub_map _ _ _ _ | apply cons_eq | apply obj_eq | apply agg_eq | apply own_eq | apply ro_eq | apply rp_eq | apply fnc_eq | rfl)); refine callp_s (f := 92) rfl (k1 ..) ?_; conv => whnf))
        (refine rq_s (by (rfl)) ?_; conv => whnf)
        (refine fac_s (fun hf => ?_); conv => whnf)
        (refine handp_s 93 [some 3, none] ?_; conv => whnf)
        iterate 2 (refine rq_s (by (rfl)) ?_; conv => whnf)
        (focus (apply callpe_s (f := 93); (· repeat' (first | (refine sub_all ?_; simp [List.length_map]; done) | exact sub_map _ _ _ _ | apply cons_eq | apply obj_eq | apply agg_eq | apply own_eq | apply ro_eq | apply rp_eq | apply fnc_eq | rfl)); refine callp_s (f := 93) rfl (k2 ..) ?_; conv => whnf))
        (refine handp_s 92 [some 3, none] ?_; conv => whnf)
        iterate 2 (refine rq_s (by (rfl)) ?_; conv => whnf)
        (focus (apply callpe_s (f := 92); (· repeat' (first | (refine sub_all ?_; simp [List.length_map]; done) | exact sub_map _ _ _ _ | apply cons_eq | apply obj_eq | apply agg_eq | apply own_eq | apply ro_eq | apply rp_eq | apply fnc_eq | rfl)); refine callp_s (f := 92) rfl (k3 ..) ?_; conv => whnf))
        (refine rq_s (by (rfl)) ?_; conv => whnf)
        iterate 2 (refine fac_s (fun hf => ?_); conv => whnf)
        (refine handp_s 93 [some 3, none] ?_; conv => whnf)
        iterate 2 (refine rq_s (by (rfl)) ?_; conv => whnf)
        (focus (apply callpe_s (f := 93); (· repeat' (first | (refine sub_all ?_; simp [List.length_map]; done) | exact sub_map _ _ _ _ | apply cons_eq | apply obj_eq | apply agg_eq | apply own_eq | apply ro_eq | apply rp_eq | apply fnc_eq | rfl)); refine callp_s (f := 93) rfl (k4 ..) ?_; conv => whnf))
        (refine rq_s (by (rfl)) ?_; conv => whnf)
        (refine fac_s (fun hf => ?_); conv => whnf)
        (refine handp_s 91 [some 3, none] ?_; conv => whnf)
        iterate 2 (refine rq_s (by (rfl)) ?_; conv => whnf)
        (focus (apply callpe_s (f := 91); (· repeat' (first | (refine sub_all ?_; simp [List.length_map]; done) | exact sub_map _ _ _ _ | apply cons_eq | apply obj_eq | apply agg_eq | apply own_eq | apply ro_eq | apply rp_eq | apply fnc_eq | rfl)); refine callp_s (f := 91) rfl (k5 ..) ?_; conv => whnf))
        (refine br_f rfl ?_; conv => whnf)
        (refine rq_s (by (rfl)) ?_; conv => whnf)
        (refine rq_s (by ((simp only [decide_eq_true_eq, List.length_map]; done))) ?_; conv => whnf)
        (refine rq_s (by (rfl)) ?_; conv => whnf)
        (refine rq_s (by ((simp only [decide_eq_true_eq, List.length_map]; done))) ?_; conv => whnf)
        (refine rq_s (by (rfl)) ?_; conv => whnf)
        (refine rq_s (by ((simp only [decide_eq_true_eq, List.length_map]; done))) ?_; conv => whnf)
        iterate 3 (refine rq_s (by (rfl)) ?_; conv => whnf)
        iterate 3 (refine rows_s (by ((refine sub_all ?_; simp [List.length_map]; done))) ?_; conv => whnf)
        rotate_left
        refine ⟨hst_e, ?_⟩
        conv => whnf
        (refine rows_s (by (rfl)) ?_; conv => whnf)
        (refine aftp_s (by rfl) ?_; conv => whnf)
        exact True.intro
    · have hb0 : decide ((j : Int) < 4) = true := by simp; omega
      obtain ⟨b, k7, hg⟩ := hr j (by omega)
      have hi1 : IntKind.i64.wrap ((j : Int) + 1) = ((j + 1 : Nat) : Int) := by rw [wrap64 (by omega) (by omega)]; omega
      unfold ChC at k7
      conv => whnf
      (refine br_t (by assumption) ?_; conv => whnf)
      (refine ChkS.mk (by kernel_rfl) ?_; conv => whnf)
      (refine rq_s (by (rfl)) ?_; conv => whnf)
      iterate 4 (refine ChkS.mk (by kernel_rfl) ?_; conv => whnf)
      (refine handp_s 91 [some 3, none] ?_; conv => whnf)
      iterate 2 (refine rq_s (by (rfl)) ?_; conv => whnf)
      (focus (apply callpe_s (f := 91); (· repeat' (first | (refine sub_all ?_; simp [List.length_map]; done) | exact sub_map _ _ _ _ | apply cons_eq | apply obj_eq | apply agg_eq | apply own_eq | apply ro_eq | apply rp_eq | apply fnc_eq | rfl)); refine callp_s (f := 91) rfl (k7 ..) ?_; conv => whnf))
      iterate 2 (refine ChkS.mk (by kernel_rfl) ?_; conv => whnf)
      (refine rq_s (by (rfl)) ?_; conv => whnf)
      (refine rq_s (by ((simp only [decide_eq_true_eq, List.length_map]; done))) ?_; conv => whnf)
      (refine rq_s (by ((refine and_s rfl ?_; simp only [decide_eq_true_eq, List.length_map]; omega))) ?_; conv => whnf)
      (refine ChkS.mk (by kernel_rfl) ?_; conv => whnf)
      (refine rows_s (by ((refine setRow_map boolR _ _ _ _ (!b) false (by rw [hlj]; omega) rfl rfl))) ?_; conv => whnf)
      iterate 2 (refine ChkS.mk (by kernel_rfl) ?_; conv => whnf)
      rotate_left
      have hgl : (f (j + 1)).gr.length = (f j).gr.length := by rw [hg, List.length_set]
      exact head_s (j + 1) ⟨by omega, by omega⟩ (by rw [hi1]) (by simp only [hg, List.length_set, Nat.zero_add, Int.toNat_natCast]; rfl)
theorem zero_deals (n : Nat) : dealsOK (List.replicate n ⟨0, 0, 0, 0⟩) = true := by
  unfold dealsOK
  rw [List.all_eq_true]
  intro x hx
  rw [List.eq_of_mem_replicate hx]
  rfl
theorem host_ex (d : List UInt8) {a m L : Int} (h : SrcOk a m L) (hl : L ≤ 7000000000) : ∃ x a' m', Con Try.prog 46 [srcO d a m] [srcO d a' m'] (hstV x) ∧ HostOk x ∧ x.q.length ≤ 3 := by
  obtain ⟨f, q0, q1, q2, h0⟩ := runG d h (by omega)
  obtain ⟨st, a1, m1, k1, l1, c1, h1⟩ := cs d 8 (by omega) h0 (by omega)
  obtain ⟨n, a2, m2, k2, p2, r2, h2⟩ := nx d 4 h1 (by omega)
  obtain ⟨q, a3, m3, k3, l3, c3, h3⟩ := cs d n (by omega) h2 (by omega)
  obtain ⟨tk, a4, m4, k4, p4, r4, h4⟩ := nx d 100 h3 (by omega)
  obtain ⟨b, a5, m5, k5, h5⟩ := ch d 8 h4 (by omega)
  obtain ⟨v, a6, m6, k6, p6, r6, h6⟩ := nx d 2 h5 (by omega)
  have hc := host_walk d f q0 q1 q2 k1 k2 k3 k4 k5 (fun _ => k6) (by omega)
  have hg := q2 4 (Nat.le_refl _)
  cases b with
  | true =>
    simp only [if_true] at hc
    exact ⟨_, _, _, hc, ⟨hg, by simp only; omega, c1, by simp only; omega, c3, by simp only; omega, by simp; omega, zero_deals _⟩, by simp only; omega⟩
  | false =>
    simp only [Bool.false_eq_true, if_false] at hc
    exact ⟨_, _, _, hc, ⟨hg, by simp only; omega, c1, by simp only; omega, c3, by simp only; omega, by simp, rfl⟩, by simp only; omega⟩
theorem hostDrawn (d : List UInt8) : ∃ x, Con Try.prog 7 [roU d] (undefs [roU d]) (hstV x) ∧ HostOk x ∧ x.q.length ≤ 3 := by
  obtain ⟨x, a1, m1, k1, o1, l1⟩ := host_ex d (src_ok d) (by omega)
  refine ⟨x, ?_, o1, l1⟩
  refine Con.ev 6 T_ok mix Try.func7 rfl rfl rfl rfl [.cell 2 27] rfl ?_
  conv => whnf
  (refine rq_s (by (rfl)) ?_; conv => whnf)
  (refine lend_s ?_; conv => whnf)
  (refine rows_s (by (rfl)) ?_; conv => whnf)
  (refine call_s (c45 ..) ?_; conv => whnf)
  (refine handp_s 46 [some 3] ?_; conv => whnf)
  (refine rq_s (by (rfl)) ?_; conv => whnf)
  (focus (apply callpe_s (f := 46); (· repeat' (first | (refine sub_all ?_; simp [List.length_map]; done) | exact sub_map _ _ _ _ | apply cons_eq | apply obj_eq | apply agg_eq | apply own_eq | apply ro_eq | apply rp_eq | apply fnc_eq | rfl)); refine callp_s (f := 46) rfl (k1 ..) ?_; conv => whnf))
  iterate 5 (refine fac_s (fun hf => ?_); conv => whnf)
  iterate 6 (refine rq_s (by (rfl)) ?_; conv => whnf)
  iterate 4 (refine rows_s (by (rfl)) ?_; conv => whnf)
  (refine sh_s ?_; (rfl))
theorem cellDrawn (d : List UInt8) : ∃ n, Con Try.prog 14 [roU d] (undefs [roU d]) (.int .i64 n) ∧ cell n = true := by
  obtain ⟨n, a1, m1, k1, o1, l1⟩ := ce d (src_ok d) (by omega)
  refine ⟨n, ?_, o1⟩
  refine Con.ev 6 T_ok mix Try.func14 rfl rfl rfl rfl [.tmp 2] rfl ?_
  conv => whnf
  (refine rq_s (by (rfl)) ?_; conv => whnf)
  (refine lend_s ?_; conv => whnf)
  (refine rows_s (by (rfl)) ?_; conv => whnf)
  (refine call_s (c45 ..) ?_; conv => whnf)
  (refine handp_s 61 [some 3] ?_; conv => whnf)
  (refine rq_s (by (rfl)) ?_; conv => whnf)
  (focus (apply callpe_s (f := 61); (· repeat' (first | (refine sub_all ?_; simp [List.length_map]; done) | exact sub_map _ _ _ _ | apply cons_eq | apply obj_eq | apply agg_eq | apply own_eq | apply ro_eq | apply rp_eq | apply fnc_eq | rfl)); refine callp_s (f := 61) rfl (k1 ..) ?_; conv => whnf))
  (refine fac_s (fun hf => ?_); conv => whnf)
  (refine rq_s (by (rfl)) ?_; conv => whnf)
  (refine sh_s ?_; (rfl))
end G2

/- The reference's source of data, data: contracts. -/
set_option linter.unusedVariables false
set_option linter.unusedSimpArgs false
set_option maxRecDepth 100000
open Go Go.Abs Go.Proofs V1 H1 S1 S2 S3 S4 S5 S6 S7 S8 G1 G2
namespace G3

theorem c94 : Con Try.prog 94 [] (undefs []) (.agg [.emp, .emp, ownI (List.replicate 32 0), .int .i64 0, .int .i64 10, .str []]) := by
  refine Con.ev 5 T_ok mix Try.func94 rfl rfl rfl rfl [.cell 0 30] rfl ?_
  conv => whnf
  iterate 9 (refine rq_s (by (rfl)) ?_; conv => whnf)
  (refine rq_s (by ((simp only [decide_eq_true_eq, List.length_map]; done))) ?_; conv => whnf)
  iterate 4 (refine rq_s (by (rfl)) ?_; conv => whnf)
  (refine rows_s (by ((refine sub_all ?_; simp [List.length_map]; done))) ?_; conv => whnf)
  (refine sh_s ?_; (rfl))
structure Ds where
  a : Int
  m : Int
  ce : List Int
def RD (d : List UInt8) (i : Nat) (s s' : Ds) : Prop := ∃ v, CeC d s.a s.m s'.a s'.m v ∧ s'.ce = s.ce.set i v
def RunD (d : List UInt8) (j r : Nat) (s : Ds) (L : Int) : Prop := ∃ f : Nat → Ds, f 0 = s ∧ (∀ i, i < r → RD d (j + i) (f i) (f (i + 1))) ∧ (∀ i, i ≤ r → (f i).ce.length = s.ce.length) ∧ cellsOK (f r).ce = true ∧ SrcOk (f r).a (f r).m (L + 20 * r)
theorem runD (d : List UInt8) : ∀ (r j : Nat) (s : Ds) {L : Int}, SrcOk s.a s.m L → L + 20 * r ≤ 10000000000 → cellsOK s.ce = true → RunD d j r s L
  | 0, j, s, L, h, hl, hx => ⟨fun _ => s, rfl, fun i hi => by omega, fun i hi => rfl, hx, sle h (by omega)⟩
  | r + 1, j, s, L, h, hl, hx => by
    obtain ⟨v, a1, m1, k1, p1, h1⟩ := ce d h (by omega)
    obtain ⟨f, q0, q1, q2, q3, q4⟩ := runD d r (j + 1) ⟨a1, m1, s.ce.set j v⟩ h1 (by omega) (cells_set hx p1 j)
    refine ⟨fun i => match i with | 0 => s | i + 1 => f i, rfl, fun i hi => ?_, fun i hi => ?_, q3, sle q4 (by omega)⟩
    · match i with
      | 0 => simp only; rw [q0]; exact ⟨v, k1, rfl⟩
      | i + 1 => have := q1 i (by omega); rw [show j + 1 + i = j + (i + 1) by omega] at this; exact this
    · match i with
      | 0 => rfl
      | i + 1 => have := q2 i (by omega); simp only [this, List.length_set]

theorem pick_ex (d : List UInt8) (xs : List (List UInt8)) (hx : 1 ≤ xs.length ∧ xs.length ≤ 100) {a m L : Int} (h : SrcOk a m L) (hl : L ≤ 10000000000) : ∃ s a' m', Con Try.prog 95 [srcO d a m, roS xs] [srcO d a' m', .undef] (.str s) ∧ s ∈ xs ∧ SrcOk a' m' (L + 3) := by
  obtain ⟨v, a1, m1, k1, p1, q1, h1⟩ := nx d ((xs.map strR).length : Int) h (by omega)
  rw [List.length_map] at q1
  have hv : v.toNat < xs.length := by omega
  refine ⟨xs.getD v.toNat [], a1, m1, ?_, ?_, h1⟩
  · have hb : (((xs.map strR).length : Int) == 0) = false := beq_eq_false_iff_ne.2 (by rw [List.length_map]; omega)
    refine Con.evP 15 [500000] rfl T_ok mix Try.func95 rfl rfl rfl rfl [.tmp 4] rfl ?_
    conv => whnf
    (refine br_f (by assumption) ?_; conv => whnf)
    (refine handp_s 93 [some 3, none] ?_; conv => whnf)
    iterate 2 (refine rq_s (by (rfl)) ?_; conv => whnf)
    (focus (apply callpe_s (f := 93); (· repeat' (first | (refine sub_all ?_; simp [List.length_map]; done) | exact sub_map _ _ _ _ | apply cons_eq | apply obj_eq | apply agg_eq | apply own_eq | apply ro_eq | apply rp_eq | apply fnc_eq | rfl)); refine callp_s (f := 93) rfl (k1 ..) ?_; conv => whnf))
    (refine rq_s (by ((simp only [Bool.and_eq_true, decide_eq_true_eq, List.length_map]; omega))) ?_; conv => whnf)
    (refine rq_s (by ((refine and_s rfl ?_; simp only [decide_eq_true_eq, List.length_map]; omega))) ?_; conv => whnf)
    (refine row_s (by (exact row_map strR xs _ _ [] (by omega))) ?_; conv => whnf)
    (refine fac_s (fun hf => ?_); conv => whnf)
    (refine rq_s (by (rfl)) ?_; conv => whnf)
    (refine aftp_s (by rfl) ?_; conv => whnf)
    (refine rows_s (by (rfl)) ?_; conv => whnf)
    (refine aftp_s (by rfl) ?_; conv => whnf)
    exact True.intro
  · rw [List.getD_eq_getElem?_getD, List.getElem?_eq_getElem hv]
    exact List.getElem_mem hv
theorem tab4 {v0 v1 v2 v3 r : Int} (h : r = 0 ∨ r = 1 ∨ r = 2 ∨ r = 3) (z : List AV) : rowA [[AV.int .i64 v0], [AV.int .i64 v1], [AV.int .i64 v2], [AV.int .i64 v3]] (0 + r.toNat) z = [.int .i64 ([v0, v1, v2, v3].getD r.toNat 0)] := by
  rcases h with rfl | rfl | rfl | rfl <;> rfl
theorem tab3 {v0 v1 v2 r : Int} (h : r = 0 ∨ r = 1 ∨ r = 2) (z : List AV) : rowA [[AV.int .i64 v0], [AV.int .i64 v1], [AV.int .i64 v2]] (0 + r.toNat) z = [.int .i64 ([v0, v1, v2].getD r.toNat 0)] := by
  rcases h with rfl | rfl | rfl <;> rfl
def txs : List (List UInt8) := [[], [49, 32, 50, 32], List.replicate 298 0]
theorem b298 : bytesOfRows (List.replicate 298 [AV.int .u8 0]) = some (List.replicate 298 0) := by rfl
theorem dat_o {st bk ce : List Int} {he ba : Int} {ou : List UInt8} : Sh (.agg [.own 0 [.int .i64 0] (st.map intR), .own 0 [.int .i64 0] (bk.map intR), .own 0 [.int .i64 0] (ce.map intR), .int .i64 he, .int .i64 ba, .str ou]) (datV ⟨st, bk, ce, he, ba, ou⟩) :=
  Sh.agg ⟨Sh.own_ro (by omega) _ _, Sh.own_ro (by omega) _ _, Sh.own_ro (by omega) _ _, Sh.refl _, Sh.refl _, Sh.refl _, trivial⟩
structure Dr where
  v0 : Int
  v1 : Int
  v2 : Int
  v3 : Int
  v4 : Int
  u0 : Int
  u1 : Int
  u2 : Int
  u3 : Int
  w0 : Int
  w1 : Int
  z : Int



theorem data_walk (d : List UInt8) {a m a1 m1 a2 m2 a3 m3 a4 m4 a5 m5 a6 m6 b1 n1 b2 n2 b3 n3 b4 n4 b5 n5 c1 o1 c2 o2 e1 p1 e2 p2 : Int} {r : Dr} {st bk : List Int} {ou : List UInt8} {n : Nat} (f : Nat → Ds)
    (k0 : NxC d 6 a m a1 m1 r.v0) (k1 : NxC d 6 a1 m1 a2 m2 r.v1) (k2 : NxC d 6 a2 m2 a3 m3 r.v2) (k3 : NxC d 3 a3 m3 a4 m4 r.v3) (k4 : NxC d 4 a4 m4 a5 m5 r.v4) (hv4 : r.v4 = 0 ∨ r.v4 = 1 ∨ r.v4 = 2 ∨ r.v4 = 3)
    (k5 : CsC d ([r.v0, r.v1, r.v2, IntKind.i64.wrap (30 + r.v3)].getD r.v4.toNat 0) a5 m5 a6 m6 st)
    (k6 : NxC d 3 a6 m6 b1 n1 r.u0) (k7 : NxC d 3 b1 n1 b2 n2 r.u1) (k8 : NxC d 3 b2 n2 b3 n3 r.u2) (k9 : NxC d 3 b3 n3 b4 n4 r.u3) (hu3 : r.u3 = 0 ∨ r.u3 = 1 ∨ r.u3 = 2)
    (k10 : CsC d ([r.u0, r.u1, IntKind.i64.wrap (30 + r.u2)].getD r.u3.toNat 0) b4 n4 b5 n5 bk)
    (k11 : NxC d 6 b5 n5 c1 o1 r.w0) (k12 : NxC d 3 c1 o1 c2 o2 r.w1) (hw1 : r.w1 = 0 ∨ r.w1 = 1 ∨ r.w1 = 2) (hn : [r.w0, 4, 32].getD r.w1.toNat 0 = n) (hn2 : n ≤ 32)
    (f0 : f 0 = ⟨c2, o2, List.replicate 32 0⟩) (hr : ∀ i, i < n → RD d (0 + i) (f i) (f (i + 1))) (hl : ∀ i, i ≤ n → (f i).ce.length = 32)
    (k13 : NxC d 4 (f n).a (f n).m e1 p1 r.z) (hz : r.z = 0 ∨ r.z = 1 ∨ r.z = 2 ∨ r.z = 3) (k14 : Con Try.prog 95 [srcO d e1 p1, roS txs] [srcO d e2 p2, .undef] (.str ou)) :
    Con Try.prog 47 [srcO d a m] [srcO d e2 p2] (datV ⟨st, bk, (f n).ce, n, [10, 10, 16, 2].getD r.z.toNat 0, ou⟩) := by
  obtain ⟨v0, v1, v2, v3, v4, u0, u1, u2, u3, w0, w1, z⟩ := r
  simp only at *
  unfold NxC at *
  unfold CsC at *
  refine Con.evPK [(1000067, [67])] 71 [500000] rfl T_ok mix Try.func47 rfl rfl rfl rfl [.cell 2 30] rfl ?_
  conv => whnf
  (refine lend_s ?_; conv => whnf)
  (refine call_s (c94 ..) ?_; conv => whnf)
  iterate 4 (refine fac_s (fun hf => ?_); conv => whnf)
  (refine handp_s 93 [some 3, none] ?_; conv => whnf)
  iterate 2 (refine rq_s (by (rfl)) ?_; conv => whnf)
  (focus (apply callpe_s (f := 93); (· repeat' (first | (refine sub_all ?_; simp [List.length_map]; done) | exact sub_map _ _ _ _ | apply cons_eq | apply obj_eq | apply agg_eq | apply own_eq | apply ro_eq | apply rp_eq | apply fnc_eq | rfl)); refine callp_s (f := 93) rfl (k0 ..) ?_; conv => whnf))
  (refine handp_s 93 [some 3, none] ?_; conv => whnf)
  iterate 2 (refine rq_s (by (rfl)) ?_; conv => whnf)
  (focus (apply callpe_s (f := 93); (· repeat' (first | (refine sub_all ?_; simp [List.length_map]; done) | exact sub_map _ _ _ _ | apply cons_eq | apply obj_eq | apply agg_eq | apply own_eq | apply ro_eq | apply rp_eq | apply fnc_eq | rfl)); refine callp_s (f := 93) rfl (k1 ..) ?_; conv => whnf))
  (refine handp_s 93 [some 3, none] ?_; conv => whnf)
  iterate 2 (refine rq_s (by (rfl)) ?_; conv => whnf)
  (focus (apply callpe_s (f := 93); (· repeat' (first | (refine sub_all ?_; simp [List.length_map]; done) | exact sub_map _ _ _ _ | apply cons_eq | apply obj_eq | apply agg_eq | apply own_eq | apply ro_eq | apply rp_eq | apply fnc_eq | rfl)); refine callp_s (f := 93) rfl (k2 ..) ?_; conv => whnf))
  (refine handp_s 93 [some 3, none] ?_; conv => whnf)
  iterate 2 (refine rq_s (by (rfl)) ?_; conv => whnf)
  (focus (apply callpe_s (f := 93); (· repeat' (first | (refine sub_all ?_; simp [List.length_map]; done) | exact sub_map _ _ _ _ | apply cons_eq | apply obj_eq | apply agg_eq | apply own_eq | apply ro_eq | apply rp_eq | apply fnc_eq | rfl)); refine callp_s (f := 93) rfl (k3 ..) ?_; conv => whnf))
  (refine rq_s (by (rfl)) ?_; conv => whnf)
  (refine handp_s 93 [some 3, none] ?_; conv => whnf)
  iterate 2 (refine rq_s (by (rfl)) ?_; conv => whnf)
  (focus (apply callpe_s (f := 93); (· repeat' (first | (refine sub_all ?_; simp [List.length_map]; done) | exact sub_map _ _ _ _ | apply cons_eq | apply obj_eq | apply agg_eq | apply own_eq | apply ro_eq | apply rp_eq | apply fnc_eq | rfl)); refine callp_s (f := 93) rfl (k4 ..) ?_; conv => whnf))
  (refine rq_s (by ((simp only [Bool.and_eq_true, decide_eq_true_eq, List.length_map]; omega))) ?_; conv => whnf)
  (refine rq_s (by ((simp only [decide_eq_true_eq, List.length_map]; done))) ?_; conv => whnf)
  (refine rq_s (by ((refine and_s rfl ?_; simp only [decide_eq_true_eq, List.length_map]; omega))) ?_; conv => whnf)
  (refine row_s (by (exact tab4 hv4 _)) ?_; conv => whnf)
  (refine handp_s 92 [some 3, none] ?_; conv => whnf)
  iterate 2 (refine rq_s (by (rfl)) ?_; conv => whnf)
  (focus (apply callpe_s (f := 92); (· repeat' (first | (refine sub_all ?_; simp [List.length_map]; done) | exact sub_map _ _ _ _ | apply cons_eq | apply obj_eq | apply agg_eq | apply own_eq | apply ro_eq | apply rp_eq | apply fnc_eq | rfl)); refine callp_s (f := 92) rfl (k5 ..) ?_; conv => whnf))
  (refine rq_s (by (rfl)) ?_; conv => whnf)
  iterate 6 (refine fac_s (fun hf => ?_); conv => whnf)
  (refine handp_s 93 [some 3, none] ?_; conv => whnf)
  iterate 2 (refine rq_s (by (rfl)) ?_; conv => whnf)
  (focus (apply callpe_s (f := 93); (· repeat' (first | (refine sub_all ?_; simp [List.length_map]; done) | exact sub_map _ _ _ _ | apply cons_eq | apply obj_eq | apply agg_eq | apply own_eq | apply ro_eq | apply rp_eq | apply fnc_eq | rfl)); refine callp_s (f := 93) rfl (k6 ..) ?_; conv => whnf))
  (refine handp_s 93 [some 3, none] ?_; conv => whnf)
  iterate 2 (refine rq_s (by (rfl)) ?_; conv => whnf)
  (focus (apply callpe_s (f := 93); (· repeat' (first | (refine sub_all ?_; simp [List.length_map]; done) | exact sub_map _ _ _ _ | apply cons_eq | apply obj_eq | apply agg_eq | apply own_eq | apply ro_eq | apply rp_eq | apply fnc_eq | rfl)); refine callp_s (f := 93) rfl (k7 ..) ?_; conv => whnf))
  (refine handp_s 93 [some 3, none] ?_; conv => whnf)
  iterate 2 (refine rq_s (by (rfl)) ?_; conv => whnf)
  (focus (apply callpe_s (f := 93); (· repeat' (first | (refine sub_all ?_; simp [List.length_map]; done) | exact sub_map _ _ _ _ | apply cons_eq | apply obj_eq | apply agg_eq | apply own_eq | apply ro_eq | apply rp_eq | apply fnc_eq | rfl)); refine callp_s (f := 93) rfl (k8 ..) ?_; conv => whnf))
  (refine rq_s (by (rfl)) ?_; conv => whnf)
  (refine handp_s 93 [some 3, none] ?_; conv => whnf)
  iterate 2 (refine rq_s (by (rfl)) ?_; conv => whnf)
  (focus (apply callpe_s (f := 93); (· repeat' (first | (refine sub_all ?_; simp [List.length_map]; done) | exact sub_map _ _ _ _ | apply cons_eq | apply obj_eq | apply agg_eq | apply own_eq | apply ro_eq | apply rp_eq | apply fnc_eq | rfl)); refine callp_s (f := 93) rfl (k9 ..) ?_; conv => whnf))
  (refine rq_s (by ((simp only [Bool.and_eq_true, decide_eq_true_eq, List.length_map]; omega))) ?_; conv => whnf)
  (refine rq_s (by ((simp only [decide_eq_true_eq, List.length_map]; done))) ?_; conv => whnf)
  (refine rq_s (by ((refine and_s rfl ?_; simp only [decide_eq_true_eq, List.length_map]; omega))) ?_; conv => whnf)
  (refine row_s (by (exact tab3 hu3 _)) ?_; conv => whnf)
  (refine handp_s 92 [some 3, none] ?_; conv => whnf)
  iterate 2 (refine rq_s (by (rfl)) ?_; conv => whnf)
  (focus (apply callpe_s (f := 92); (· repeat' (first | (refine sub_all ?_; simp [List.length_map]; done) | exact sub_map _ _ _ _ | apply cons_eq | apply obj_eq | apply agg_eq | apply own_eq | apply ro_eq | apply rp_eq | apply fnc_eq | rfl)); refine callp_s (f := 92) rfl (k10 ..) ?_; conv => whnf))
  (refine rq_s (by (rfl)) ?_; conv => whnf)
  iterate 5 (refine fac_s (fun hf => ?_); conv => whnf)
  (refine handp_s 93 [some 3, none] ?_; conv => whnf)
  iterate 2 (refine rq_s (by (rfl)) ?_; conv => whnf)
  (focus (apply callpe_s (f := 93); (· repeat' (first | (refine sub_all ?_; simp [List.length_map]; done) | exact sub_map _ _ _ _ | apply cons_eq | apply obj_eq | apply agg_eq | apply own_eq | apply ro_eq | apply rp_eq | apply fnc_eq | rfl)); refine callp_s (f := 93) rfl (k11 ..) ?_; conv => whnf))
  (refine rq_s (by (rfl)) ?_; conv => whnf)
  (refine handp_s 93 [some 3, none] ?_; conv => whnf)
  iterate 2 (refine rq_s (by (rfl)) ?_; conv => whnf)
  (focus (apply callpe_s (f := 93); (· repeat' (first | (refine sub_all ?_; simp [List.length_map]; done) | exact sub_map _ _ _ _ | apply cons_eq | apply obj_eq | apply agg_eq | apply own_eq | apply ro_eq | apply rp_eq | apply fnc_eq | rfl)); refine callp_s (f := 93) rfl (k12 ..) ?_; conv => whnf))
  (refine rq_s (by ((simp only [Bool.and_eq_true, decide_eq_true_eq, List.length_map]; omega))) ?_; conv => whnf)
  (refine rq_s (by ((simp only [decide_eq_true_eq, List.length_map]; done))) ?_; conv => whnf)
  (refine rq_s (by ((refine and_s rfl ?_; simp only [decide_eq_true_eq, List.length_map]; omega))) ?_; conv => whnf)
  (refine row_s (by (exact tab3 hw1 _)) ?_; conv => whnf)
  (refine rq_s (by (rfl)) ?_; conv => whnf)
  iterate 2 (refine fac_s (fun hf => ?_); conv => whnf)
  rotate_left
  rw [hn]
  refine LoopG.auto (α := Nat) T_ok mix [0, 2, 3, 4] (fun j => [(0, .ptr 500000 0 0), (2, .ptr 2 0 0), (3, .ptr 3 0 0), (4, .int .i64 j)]) (fun j => [(500000, .live ⟨false, 0, [.undef, .undef, .undef], [srcC d (f j).a (f j).m]⟩),
      (2, .live ⟨false, 0, [.emp, .emp, .emp, .int .i64 0, .int .i64 0, .str []], [[.emp, .emp, .emp, .int .i64 0, .int .i64 0, .str []]]⟩),
      (3, .live ⟨false, 0, [.emp, .emp, .emp, .int .i64 0, .int .i64 0, .str []], [[.ref 4 0 (st.map intR).length, .ref 5 0 (bk.map intR).length, .ref 6 0 (f j).ce.length, .int .i64 n, .int .i64 10, .str []]]⟩),
      (4, .live ⟨true, 0, zI, st.map intR⟩), (5, .live ⟨true, 0, zI, bk.map intR⟩), (6, .live ⟨true, 0, zI, (f j).ce.map intR⟩)]) (fun j => j ≤ n) (fun j => n - j) ?_ ?_
  · conv => whnf
    (refine ChkS.mk (by kernel_rfl) ?_; conv => whnf)
    rotate_left
    exact head_s 0 (by omega) rfl (by rw [f0]; rfl)
  · intro j hj _ _
    have hlj := hl j hj
    by_cases hjn : j = n
    · subst hjn
      have hb0 : decide ((j : Int) < j) = false := by simp
      conv => whnf
      (refine rq_s (by (rfl)) ?_; conv => whnf)
      (focus (refine br_f (by (simp; done)) ?_; conv => whnf))
      (refine rq_s (by (rfl)) ?_; conv => whnf)
      (refine handp_s 93 [some 3, none] ?_; conv => whnf)
      iterate 2 (refine rq_s (by (rfl)) ?_; conv => whnf)
      (focus (apply callpe_s (f := 93); (· repeat' (first | (refine sub_all ?_; simp [List.length_map]; done) | exact sub_map _ _ _ _ | apply cons_eq | apply obj_eq | apply agg_eq | apply own_eq | apply ro_eq | apply rp_eq | apply fnc_eq | rfl)); refine callp_s (f := 93) rfl (k13 ..) ?_; conv => whnf))
      (refine rq_s (by ((simp only [Bool.and_eq_true, decide_eq_true_eq, List.length_map]; omega))) ?_; conv => whnf)
      (refine rq_s (by ((simp only [decide_eq_true_eq, List.length_map]; done))) ?_; conv => whnf)
      (refine rq_s (by ((refine and_s rfl ?_; simp only [decide_eq_true_eq, List.length_map]; omega))) ?_; conv => whnf)
      (refine row_s (by (exact tab4 hz _)) ?_; conv => whnf)
      (refine rq_s (by (rfl)) ?_; conv => whnf)
      (refine fac_s (fun hf => ?_); conv => whnf)
      iterate 3 (refine rq_s (by (rfl)) ?_; conv => whnf)
      (refine rq_s (by ((simp only [decide_eq_true_eq, List.length_map]; done))) ?_; conv => whnf)
      (refine rq_s (by (rfl)) ?_; conv => whnf)
      (refine byt_s (b298) ?_; conv => whnf)
      (refine rq_s (by (rfl)) ?_; conv => whnf)
      (refine rows_s (by ((refine sub_all ?_; simp [List.length_map]; done))) ?_; conv => whnf)
      (refine handp_s 95 [some 3, none] ?_; conv => whnf)
      iterate 2 (refine rq_s (by (rfl)) ?_; conv => whnf)
      (focus (apply callpe_s (f := 95); (· repeat' (first | (refine sub_all ?_; simp [List.length_map]; done) | exact sub_map _ _ _ _ | apply cons_eq | apply obj_eq | apply agg_eq | apply own_eq | apply ro_eq | apply rp_eq | apply fnc_eq | rfl)); refine callp_s (f := 95) rfl (k14 ..) ?_; conv => whnf))
      (refine rq_s (by (rfl)) ?_; conv => whnf)
      (refine fac_s (fun hf => ?_); conv => whnf)
      (refine rq_s (by (rfl)) ?_; conv => whnf)
      (refine rq_s (by ((simp only [decide_eq_true_eq, List.length_map]; done))) ?_; conv => whnf)
      (refine rq_s (by (rfl)) ?_; conv => whnf)
      (refine rq_s (by ((simp only [decide_eq_true_eq, List.length_map]; done))) ?_; conv => whnf)
      (refine rq_s (by (rfl)) ?_; conv => whnf)
      (refine rq_s (by ((simp only [decide_eq_true_eq, List.length_map]; done))) ?_; conv => whnf)
      iterate 4 (refine rq_s (by (rfl)) ?_; conv => whnf)
      iterate 3 (refine rows_s (by ((refine sub_all ?_; simp [List.length_map]; done))) ?_; conv => whnf)
      rotate_left
      refine ⟨dat_o, ?_⟩
      conv => whnf
      (refine rows_s (by (rfl)) ?_; conv => whnf)
      (refine aftp_s (by rfl) ?_; conv => whnf)
      exact True.intro
    · have hb0 : decide ((j : Int) < n) = true := by simp; omega
      obtain ⟨v, k15, hg⟩ := hr j (by omega)
      rw [Nat.zero_add] at hg
      have hi1 : IntKind.i64.wrap ((j : Int) + 1) = ((j + 1 : Nat) : Int) := by rw [wrap64 (by omega) (by omega)]; omega
      unfold CeC at k15
      conv => whnf
      (refine rq_s (by (rfl)) ?_; conv => whnf)
      (refine br_t (by assumption) ?_; conv => whnf)
      (refine ChkS.mk (by kernel_rfl) ?_; conv => whnf)
      (refine rq_s (by (rfl)) ?_; conv => whnf)
      iterate 4 (refine ChkS.mk (by kernel_rfl) ?_; conv => whnf)
      (refine handp_s 61 [some 3] ?_; conv => whnf)
      (refine rq_s (by (rfl)) ?_; conv => whnf)
      (focus (apply callpe_s (f := 61); (· repeat' (first | (refine sub_all ?_; simp [List.length_map]; done) | exact sub_map _ _ _ _ | apply cons_eq | apply obj_eq | apply agg_eq | apply own_eq | apply ro_eq | apply rp_eq | apply fnc_eq | rfl)); refine callp_s (f := 61) rfl (k15 ..) ?_; conv => whnf))
      (refine ChkS.mk (by kernel_rfl) ?_; conv => whnf)
      (refine rq_s (by (rfl)) ?_; conv => whnf)
      (refine rq_s (by ((simp only [decide_eq_true_eq, List.length_map]; done))) ?_; conv => whnf)
      (refine rq_s (by ((refine and_s rfl ?_; simp only [decide_eq_true_eq, List.length_map]; omega))) ?_; conv => whnf)
      (refine ChkS.mk (by kernel_rfl) ?_; conv => whnf)
      (refine rows_s (by ((refine setRow_map intR _ _ _ _ v 0 (by rw [hlj]; omega) rfl rfl))) ?_; conv => whnf)
      (refine ChkS.mk (by kernel_rfl) ?_; conv => whnf)
      (refine fac_s (fun hf => ?_); conv => whnf)
      (refine ChkS.mk (by kernel_rfl) ?_; conv => whnf)
      rotate_left
      have hgl : (f (j + 1)).ce.length = (f j).ce.length := by rw [hg, List.length_set]
      exact head_s (j + 1) ⟨by omega, by omega⟩ (by rw [hi1]) (by simp only [hg, List.length_set, Nat.zero_add, Int.toNat_natCast]; rfl)
theorem get4 {P : Int → Prop} {a b c e r : Int} (h : r = 0 ∨ r = 1 ∨ r = 2 ∨ r = 3) (ha : P a) (hb : P b) (hc : P c) (he : P e) : P ([a, b, c, e].getD r.toNat 0) := by
  rcases h with rfl | rfl | rfl | rfl
  · exact ha
  · exact hb
  · exact hc
  · exact he
theorem get3 {P : Int → Prop} {a b c r : Int} (h : r = 0 ∨ r = 1 ∨ r = 2) (ha : P a) (hb : P b) (hc : P c) : P ([a, b, c].getD r.toNat 0) := by
  rcases h with rfl | rfl | rfl
  · exact ha
  · exact hb
  · exact hc
theorem data_ex (d : List UInt8) {a m L : Int} (h : SrcOk a m L) (hl : L ≤ 7000000000) : ∃ x a' m', Con Try.prog 47 [srcO d a m] [srcO d a' m'] (datV x) ∧ DataOk x := by
  obtain ⟨v0, a1, m1, k0, s0, t0, h⟩ := nx d 6 h (by omega)
  obtain ⟨v1, a2, m2, k1, s1, t1, h⟩ := nx d 6 h (by omega)
  obtain ⟨v2, a3, m3, k2, s2, t2, h⟩ := nx d 6 h (by omega)
  obtain ⟨v3, a4, m4, k3, s3, t3, h⟩ := nx d 3 h (by omega)
  obtain ⟨v4, a5, m5, k4, s4, t4, h⟩ := nx d 4 h (by omega)
  have w3 : IntKind.i64.wrap (30 + v3) = 30 + v3 := wrap64 (by omega) (by omega)
  have hv4 : v4 = 0 ∨ v4 = 1 ∨ v4 = 2 ∨ v4 = 3 := by omega
  have g1 : 0 ≤ [v0, v1, v2, IntKind.i64.wrap (30 + v3)].getD v4.toNat 0 ∧ [v0, v1, v2, IntKind.i64.wrap (30 + v3)].getD v4.toNat 0 ≤ 32 := get4 (P := fun x => 0 ≤ x ∧ x ≤ 32) hv4 (by omega) (by omega) (by omega) (by omega)
  obtain ⟨st, a6, m6, k5, l5, c5, h⟩ := cs d ([v0, v1, v2, IntKind.i64.wrap (30 + v3)].getD v4.toNat 0) (by omega) h (by omega)
  obtain ⟨u0, b1, n1, k6, s6, t6, h⟩ := nx d 3 h (by omega)
  obtain ⟨u1, b2, n2, k7, s7, t7, h⟩ := nx d 3 h (by omega)
  obtain ⟨u2, b3, n3, k8, s8, t8, h⟩ := nx d 3 h (by omega)
  obtain ⟨u3, b4, n4, k9, s9, t9, h⟩ := nx d 3 h (by omega)
  have w4 : IntKind.i64.wrap (30 + u2) = 30 + u2 := wrap64 (by omega) (by omega)
  have hu3 : u3 = 0 ∨ u3 = 1 ∨ u3 = 2 := by omega
  have g2 : 0 ≤ [u0, u1, IntKind.i64.wrap (30 + u2)].getD u3.toNat 0 ∧ [u0, u1, IntKind.i64.wrap (30 + u2)].getD u3.toNat 0 ≤ 32 := get3 (P := fun x => 0 ≤ x ∧ x ≤ 32) hu3 (by omega) (by omega) (by omega)
  obtain ⟨bk, b5, n5, k10, l10, c10, h⟩ := cs d ([u0, u1, IntKind.i64.wrap (30 + u2)].getD u3.toNat 0) (by omega) h (by omega)
  obtain ⟨w0, c1, o1, k11, s11, t11, h⟩ := nx d 6 h (by omega)
  obtain ⟨w1, c2, o2, k12, s12, t12, h⟩ := nx d 3 h (by omega)
  have hw1 : w1 = 0 ∨ w1 = 1 ∨ w1 = 2 := by omega
  have g3 : 0 ≤ [w0, 4, 32].getD w1.toNat 0 ∧ [w0, 4, 32].getD w1.toNat 0 ≤ 32 := get3 (P := fun x => 0 ≤ x ∧ x ≤ 32) hw1 (by omega) (by omega) (by omega)
  obtain ⟨n, hn⟩ := Int.eq_ofNat_of_zero_le g3.1
  obtain ⟨f, q0, q1, q2, q3, q4⟩ := runD d n 0 ⟨c2, o2, List.replicate 32 0⟩ h (by omega) (show cellsOK (List.replicate 32 0) = true by decide)
  obtain ⟨z, e1, p1, k13, s13, t13, h⟩ := nx d 4 q4 (by omega)
  have hz : z = 0 ∨ z = 1 ∨ z = 2 ∨ z = 3 := by omega
  obtain ⟨ou, e2, p2, k14, s14, h⟩ := pick_ex d txs (by decide) h (by omega)
  have hou : ou.length ≤ 300 := by
    simp only [txs, List.mem_cons, List.not_mem_nil, or_false] at s14
    rcases s14 with rfl | rfl | rfl
    · simp
    · simp
    · rw [List.length_replicate]; omega
  have q2' : ∀ i, i ≤ n → (f i).ce.length = 32 := fun i hi => by rw [q2 i hi, List.length_replicate]
  refine ⟨_, _, _, data_walk d (r := ⟨v0, v1, v2, v3, v4, u0, u1, u2, u3, w0, w1, z⟩) f k0 k1 k2 k3 k4 hv4 k5 k6 k7 k8 k9 hu3 k10 k11 k12 hw1 hn (by omega) q0 q1 q2' k13 hz k14, ?_⟩
  refine ⟨by simp only; omega, by simp only; omega, q2' n (Nat.le_refl _), c5, c10, q3, by simp only; omega, ?_, hou⟩
  exact get4 (P := fun x => 2 ≤ x ∧ x ≤ 16) hz (by omega) (by omega) (by omega) (by omega)
theorem dataDrawn (d : List UInt8) : ∃ x, Con Try.prog 8 [roU d] (undefs [roU d]) (datV x) ∧ DataOk x := by
  obtain ⟨x, a1, m1, k1, o1⟩ := data_ex d (src_ok d) (by omega)
  refine ⟨x, ?_, o1⟩
  refine Con.ev 6 T_ok mix Try.func8 rfl rfl rfl rfl [.cell 2 30] rfl ?_
  conv => whnf
  (refine rq_s (by (rfl)) ?_; conv => whnf)
  (refine lend_s ?_; conv => whnf)
  (refine rows_s (by (rfl)) ?_; conv => whnf)
  (refine call_s (c45 ..) ?_; conv => whnf)
  (refine handp_s 47 [some 3] ?_; conv => whnf)
  (refine rq_s (by (rfl)) ?_; conv => whnf)
  (focus (apply callpe_s (f := 47); (· repeat' (first | (refine sub_all ?_; simp [List.length_map]; done) | exact sub_map _ _ _ _ | apply cons_eq | apply obj_eq | apply agg_eq | apply own_eq | apply ro_eq | apply rp_eq | apply fnc_eq | rfl)); refine callp_s (f := 47) rfl (k1 ..) ?_; conv => whnf))
  iterate 6 (refine fac_s (fun hf => ?_); conv => whnf)
  iterate 7 (refine rq_s (by (rfl)) ?_; conv => whnf)
  iterate 3 (refine rows_s (by (rfl)) ?_; conv => whnf)
  (refine sh_s ?_; (rfl))
end G3
