import Derived.Test.YtdbjklhadnnbdaaCiL
import Derived.Test.YtdbjklhadnnbdaaAbs6
import Derived.Test.YtdbjklhadnnbdaaRows
/- CompileItems: the law. -/
set_option linter.unusedVariables false
set_option linter.unusedSimpArgs false
set_option maxRecDepth 100000
open Go Go.Abs Go.Proofs V1 H1 I1 I2 I3 I4 I5 I6 I7 I8 I9 I10 I11
namespace I12

theorem ci_len {xs : List Itm} {a s : Int} : (ciF xs a s).1.length ≤ 1000 := by
  unfold ciF
  split
  · simp
  · rename_i h0
    split
    · simp
    · split
      · simp
      · split
        · simp
        · have h := askF_0 (xs := xs) (by omega)
          have h1 := compF_len (at' := a) (self := s) h.2
          have hz := szF_le xs
          simp only
          unfold sizeF at h1
          omega
set_option maxHeartbeats 40000000 in
theorem law (xs : List Itm) (a s : Int) : Con Try.prog 4 [roT xs, .int .i64 a, .int .i64 s] (undefs [roT xs, .int .i64 a, .int .i64 s]) (.bool true) := by
  have k1 := c19 xs a s
  have k2 := c17 xs a s
  have k3 := ci_len (xs := xs) (a := a) (s := s)
  generalize ciF xs a s = r at k1 k2 k3
  obtain ⟨c, e⟩ := r
  dsimp only [ciV] at k1 k2 k3
  have eI : ∀ a : List Int, Con Try.prog 20 [roI a, roI a] (undefs [roI a, roI a]) (.bool true) := fun a => by simpa using c20 a a
  have eT : ∀ a : List Itm, Con Try.prog 21 [roT a, roT a] (undefs [roT a, roT a]) (.bool true) := fun a => by simpa using c21 a a
  have q1 := c24 (mkS mksI 1 c.length 1) 1 (by omega) (by rw [mkS_len]; omega)
  rw [heldS_mk] at q1
  refine Con.evFK [(0, [0, 1, 2, 6]), (1, [0, 1, 2, 6, 7]), (2, [0, 1, 2, 6, 7]), (3, [0, 1, 2, 6, 22]), (4, [0, 1, 2, 6]), (5, [0, 1, 2, 6, 8, 9]), (6, [0, 1, 2, 6, 8, 9, 10]), (7, [0, 1, 2, 6, 8, 9, 10, 11, 12]), (8, [0, 1, 2, 6, 8, 9, 10, 11, 12, 48]), (9, [0, 1, 2, 6, 8, 9, 10, 11, 12]), (10, [0, 1, 2, 6, 8, 9, 10, 11, 12, 53]), (11, [0, 1, 2, 6, 8, 9, 10, 11, 12]), (12, [0, 1, 2, 6, 8, 9, 10, 11, 12, 13]), (13, [0, 1, 2, 6, 8, 9, 11, 12, 13]), (14, [0, 1, 2, 6, 8, 9, 11, 69]), (15, [0, 1, 2, 6, 8, 9, 11]), (16, [0, 1, 2, 6, 8, 9, 11, 14]), (17, [0, 1, 2, 6, 8, 9, 11, 14]), (18, [0, 1, 2, 6, 8, 9, 11, 14, 15]), (19, [0, 1, 2, 6, 8, 9, 11, 14, 15]), (20, [0, 1, 2, 6, 8, 9, 11, 14, 15, 77]), (21, [0, 1, 2, 6, 8, 9, 11, 14, 15]), (22, [0, 1, 2, 6, 8, 9, 11, 14, 15, 80]), (23, [0, 1, 2, 6, 8, 9, 11, 14, 15]), (24, [6, 8, 9, 11, 14, 15, 16, 17]), (25, [6, 11, 14, 15, 97]), (26, [6, 11, 14, 15]), (27, [6, 11, 14, 15]), (28, [6, 14, 15]), (29, [6, 14, 15, 102]), (30, [6, 14, 15]), (31, [6, 105]), (32, [6]), (33, [6])] 106 T_ok mix Try.func4 rfl rfl rfl rfl [.tmp 6] rfl fun ⟨hx, _⟩ => ?_
  have x1 := facts_len hx
  clear hx
  conv => whnf
  iterate 2 (refine rq_s (by (rfl)) ?_; conv => whnf)
  (refine lend_s ?_; conv => whnf)
  (refine rows_s (by (rfl)) ?_; conv => whnf)
  (refine call_s (c16 ..) ?_; conv => whnf)
  (refine fac_s (fun hf => ?_); conv => whnf)
  (refine br_s (fun hb => ?_) (fun hb => ?_) <;> (try simp only [beq_iff_eq, bne_iff_ne, ne_eq, decide_eq_true_eq, decide_eq_false_iff_not, Int.not_lt, Int.not_le, Bool.false_eq_true, if_false, if_true, beq_eq_false_iff_ne, bne_eq_false_iff_eq, Bool.not_eq_true', Bool.not_eq_false', Int.ofNat_lt, Int.ofNat_le, Int.ofNat_inj, List.length_map, List.length_nil, List.length_cons] at hb) <;> conv => whnf)
  (refine rq_s (by (rfl)) ?_; conv => whnf)
  (refine sh_s ?_; (rfl))
  (refine rq_s (by (rfl)) ?_; conv => whnf)
  (refine lend_s ?_; conv => whnf)
  (refine rows_s (by (rfl)) ?_; conv => whnf)
  rotate_left
  have a1 : 0 ≤ szN xs.length 1048576 := by omega
  have n1 := (szN_le (by omega) (by omega) x1 a1).2
  (refine call_s (c18 _ n1) ?_; conv => whnf)
  (refine rq_s (by ((simp only [decide_eq_true_eq, List.length_map, mkS_len, setRow_len, ownI]; done))) ?_; conv => whnf)
  iterate 3 (refine rq_s (by (rfl)) ?_; conv => whnf)
  (refine lend_s ?_; conv => whnf)
  (refine rows_s (by ((refine sub_all ?_; simp [List.length_map, mkS_len, setRow_len, ownI]; done))) ?_; conv => whnf)
  (refine call_s (k2 ..) ?_; conv => whnf)
  iterate 3 (refine fac_s (fun hf => ?_); conv => whnf)
  (refine rq_s (by (rfl)) ?_; conv => whnf)
  (refine lend_s ?_; conv => whnf)
  (refine rows_s (by (rfl)) ?_; conv => whnf)
  (refine call_s (c18 _ n1) ?_; conv => whnf)
  (refine fac_s (fun hf => ?_); conv => whnf)
  (refine rq_s (by ((simp only [decide_eq_true_eq, List.length_map, mkS_len, setRow_len, ownI]; done))) ?_; conv => whnf)
  iterate 3 (refine rq_s (by (rfl)) ?_; conv => whnf)
  (refine lend_s ?_; conv => whnf)
  (refine rows_s (by ((refine sub_all ?_; simp [List.length_map, mkS_len, setRow_len, ownI]; done))) ?_; conv => whnf)
  (refine call_s (k1 ..) ?_; conv => whnf)
  iterate 2 (refine fac_s (fun hf => ?_); conv => whnf)
  (refine rq_s (by ((simp only [decide_eq_true_eq, List.length_map, mkS_len, setRow_len, ownI]; done))) ?_; conv => whnf)
  (refine rq_s (by (rfl)) ?_; conv => whnf)
  (refine rq_s (by ((simp only [decide_eq_true_eq, List.length_map, mkS_len, setRow_len, ownI]; done))) ?_; conv => whnf)
  (refine rq_s (by (rfl)) ?_; conv => whnf)
  (refine lend_s ?_; conv => whnf)
  iterate 2 (refine rows_s (by ((refine sub_all ?_; simp [List.length_map, mkS_len, setRow_len, ownI]; done))) ?_; conv => whnf)
  (refine call_s (eI c ..) ?_; conv => whnf)
  iterate 3 (refine br_f rfl ?_; conv => whnf)
  (focus (refine br_f (by (simp; done)) ?_; conv => whnf))
  (refine rq_s (by (rfl)) ?_; conv => whnf)
  (refine lend_s ?_; conv => whnf)
  (refine rows_s (by (rfl)) ?_; conv => whnf)
  (refine call_s (c18 _ n1) ?_; conv => whnf)
  (refine rq_s (by ((simp only [decide_eq_true_eq, List.length_map, mkS_len, setRow_len, ownI]; done))) ?_; conv => whnf)
  (refine rq_s (by (rfl)) ?_; conv => whnf)
  (refine rq_s (by ((simp only [decide_eq_true_eq, List.length_map, mkS_len, setRow_len, ownI]; done))) ?_; conv => whnf)
  (refine rq_s (by (rfl)) ?_; conv => whnf)
  (refine lend_s ?_; conv => whnf)
  iterate 2 (refine rows_s (by ((refine sub_all ?_; simp [List.length_map, mkS_len, setRow_len, ownI]; done))) ?_; conv => whnf)
  (refine call_s (eT xs ..) ?_; conv => whnf)
  (refine fac_s (fun hf => ?_); conv => whnf)
  (refine br_f rfl ?_; conv => whnf)
  (refine rq_s (by ((simp only [decide_eq_true_eq, List.length_map, mkS_len, setRow_len, ownI]; done))) ?_; conv => whnf)
  iterate 2 (refine rq_s (by (rfl)) ?_; conv => whnf)
  (refine hand_s 22 0 ?_; conv => whnf)
  (refine rq_s (by ((simp only [decide_eq_true_eq, List.length_map, mkS_len, setRow_len, ownI]; done))) ?_; conv => whnf)
  iterate 2 (refine rq_s (by (rfl)) ?_; conv => whnf)
  (refine rows_s (by (rfl)) ?_; conv => whnf)
  (refine handc_s (f := 22) (j := 0) (c22 xs 1 (by omega) (by omega) ..) (by simp [List.length_map, mkS_len, setRow_len, ownI]) (by rfl) (by rfl) ?_; conv => whnf)
  (refine fac_s (fun hf => ?_); conv => whnf)
  iterate 3 (refine br_f rfl ?_; conv => whnf)
  (refine rq_s (by ((simp only [decide_eq_true_eq, List.length_map, mkS_len, setRow_len, ownI]; done))) ?_; conv => whnf)
  (refine rq_s (by (rfl)) ?_; conv => whnf)
  (refine rq_s (by ((simp only [decide_eq_true_eq, List.length_map, mkS_len, setRow_len, ownI]; done))) ?_; conv => whnf)
  (refine rq_s (by (rfl)) ?_; conv => whnf)
  (refine lend_s ?_; conv => whnf)
  iterate 2 (refine rows_s (by ((refine sub_all ?_; simp [List.length_map, mkS_len, setRow_len, ownI]; done))) ?_; conv => whnf)
  (refine call_s (eI c ..) ?_; conv => whnf)
  iterate 4 (refine br_f rfl ?_; conv => whnf)
  (focus (refine br_f (by (simp; done)) ?_; conv => whnf))
  (refine rq_s (by ((simp only [decide_eq_true_eq, List.length_map, mkS_len, setRow_len, ownI]; done))) ?_; conv => whnf)
  iterate 2 (refine rq_s (by (rfl)) ?_; conv => whnf)
  (refine hand_s 23 0 ?_; conv => whnf)
  (refine rq_s (by ((simp only [decide_eq_true_eq, List.length_map, mkS_len, setRow_len, ownI]; done))) ?_; conv => whnf)
  iterate 2 (refine rq_s (by (rfl)) ?_; conv => whnf)
  (refine rows_s (by (rfl)) ?_; conv => whnf)
  (refine handc_s (f := 23) (j := 0) (c23 c 1 (by omega) (by omega) ..) (by simp [List.length_map, mkS_len, setRow_len, ownI]) (by rfl) (by rfl) ?_; conv => whnf)
  (refine fac_s (fun hf => ?_); conv => whnf)
  (refine rq_s (by ((simp only [decide_eq_true_eq, List.length_map, mkS_len, setRow_len, ownI]; done))) ?_; conv => whnf)
  iterate 2 (refine rq_s (by (rfl)) ?_; conv => whnf)
  (refine lend_s ?_; conv => whnf)
  (refine rows_s (by ((refine sub_all ?_; simp [List.length_map, mkS_len, setRow_len, ownI]; done))) ?_; conv => whnf)
  (refine call_s (q1 ..) ?_; conv => whnf)
  (refine fac_s (fun hf => ?_); conv => whnf)
  (refine br_f rfl ?_; conv => whnf)
  (focus (refine br_f (by (simp; done)) ?_; conv => whnf))
  (refine rq_s (by (rfl)) ?_; conv => whnf)
  (refine lend_s ?_; conv => whnf)
  (refine rows_s (by (rfl)) ?_; conv => whnf)
  (refine call_s (c18 _ n1) ?_; conv => whnf)
  (refine rq_s (by ((simp only [decide_eq_true_eq, List.length_map, mkS_len, setRow_len, ownI]; done))) ?_; conv => whnf)
  iterate 3 (refine rq_s (by (rfl)) ?_; conv => whnf)
  (refine lend_s ?_; conv => whnf)
  (refine rows_s (by ((refine sub_all ?_; simp [List.length_map, mkS_len, setRow_len, ownI]; done))) ?_; conv => whnf)
  (refine call_s (k1 ..) ?_; conv => whnf)
  iterate 3 (refine fac_s (fun hf => ?_); conv => whnf)
  (refine rq_s (by ((simp only [decide_eq_true_eq, List.length_map, mkS_len, setRow_len, ownI]; done))) ?_; conv => whnf)
  (refine rq_s (by (rfl)) ?_; conv => whnf)
  (refine rq_s (by ((simp only [decide_eq_true_eq, List.length_map, mkS_len, setRow_len, ownI]; done))) ?_; conv => whnf)
  (refine rq_s (by (rfl)) ?_; conv => whnf)
  (refine lend_s ?_; conv => whnf)
  iterate 2 (refine rows_s (by ((refine sub_all ?_; simp [List.length_map, mkS_len, setRow_len, ownI]; done))) ?_; conv => whnf)
  (refine call_s (eI c ..) ?_; conv => whnf)
  iterate 3 (refine br_f rfl ?_; conv => whnf)
  (focus (refine br_f (by (simp; done)) ?_; conv => whnf))
  (refine rq_s (by ((simp only [decide_eq_true_eq, List.length_map, mkS_len, setRow_len, ownI]; done))) ?_; conv => whnf)
  iterate 2 (refine rq_s (by (rfl)) ?_; conv => whnf)
  (refine lend_s ?_; conv => whnf)
  (refine rows_s (by ((refine sub_all ?_; simp [List.length_map, mkS_len, setRow_len, ownI]; done))) ?_; conv => whnf)
  (refine call_s (q1 ..) ?_; conv => whnf)
  (refine fac_s (fun hf => ?_); conv => whnf)
  (refine br_f rfl ?_; conv => whnf)
  (focus (refine br_f (by (simp; done)) ?_; conv => whnf))
  (refine rq_s (by (rfl)) ?_; conv => whnf)
  (refine sh_s ?_; (first | rfl | (exfalso; omega)))
end I12

/- CompileItems: what the arguments are. -/
set_option linter.unusedVariables false
set_option linter.unusedSimpArgs false
open Go Go.Abs Go.Proofs V1
namespace I13
theorem item_of {d : Nat} {l : List AV} (h : OfT T (d + 2) 88 l) : ∃ r : Itm, l = itR r := by
  obtain ⟨_, _, rfl, ⟨k, rfl⟩, _, _, rfl, ⟨n, rfl⟩, rfl⟩ := h
  exact ⟨⟨k, n⟩, rfl⟩
theorem items_of {x : AV} (h : OfT T 10 43 [x]) : ∃ xs : List Itm, x = roT xs := by
  obtain ⟨rows, h1, h2⟩ := h
  injection h1 with h1
  obtain ⟨xs, rfl⟩ := rows_map itR fun row hr => item_of (d := 7) (h2 row hr)
  exact ⟨xs, h1⟩
theorem int_of {x : AV} (h : OfT T 10 3 [x]) : ∃ n, x = .int .i64 n := by
  obtain ⟨n, h1⟩ := h
  injection h1 with h1
  exact ⟨n, h1⟩
end I13

/- FnExactCompileItems: the law returns true at every input, and its arguments read behind the call as they did. -/
set_option linter.unusedVariables false
set_option linter.unusedSimpArgs false
namespace Go.Proofs.Ytdbjklhadnnbdaa.FnExactCompileItems
open Go.ChangeShapes Go.WideShapes Go.ChangeAt Go.RowKit Go.Joins
open Go.Abs V1 I12 I13
theorem own : ownKnob Try.prog.godebug = none := by kernel_rfl
theorem laidOut : laidOutB Try.prog = true := by kernel_rfl
theorem tabs_met (W : World) : Tabs Try.prog W none2 := by
  intro x hx g hg
  simp only [tabL, List.mem_cons, List.not_mem_nil, or_false] at hx
  subst hx
  exact absurd hg (by rw [show Try.prog.globalNamed "internal/strconv.uint64pow10" = none by kernel_rfl]; simp)
set_option maxRecDepth 100000 in
theorem lifted (os : Os) (started : os.Started) (H : Type) (enc : TypeId × Value → H) :
    ReturnsInHanded {} Try.checked os 4 .any (Rows.fnExactCompileItemsSpec.pre6 enc Try.prog Try.f4 Rows.fnExactCompileItemsRow.domain false) (Rows.fnExactCompileItemsSpec.post enc Try.prog Try.f4 false true false false) := by
  refine returnsInHanded_of_change_sized (C := Try.checked) own started (by kernel_rfl) Try.func4
    (ChangeSpec.witness6 (enc := enc) (C := Try.checked) false ⟨#[], #[.slice none 0 0, .int .i64 0, .int .i64 0], []⟩ 8 (by kernel_rfl) (by kernel_rfl) (by kernel_rfl) (by kernel_rfl)) ?_
  intro W base args ds gs before hval0 hW hcnd hsz0 _
  have hval : ∀ (j : Nat) t v, Try.f4.params[j]? = some t → args[j]? = some v → Value.okWide Try.prog W .any base t v := hval0
  have hW' := hW
  obtain ⟨p, q, hA0, hV, rfl, hfz, hnd⟩ := hW
  have hA : DataW.TrodAll enc Try.prog W 0 (fun _ => true) true Try.f4.params.toList args.toList ds p := hA0
  rw [Try.params4] at hA hval
  obtain ⟨v0, vs0, d0, ds0, p0, q0, hargs0, rfl, rfl, h0, r0⟩ := trodAll_cons hA
  obtain ⟨v1, vs1, d1, ds1, p1, q1, hargs1, rfl, rfl, h1, r1⟩ := trodAll_cons r0
  obtain ⟨v2, vs2, d2, ds2, p2, q2, hargs2, rfl, rfl, h2, r2⟩ := trodAll_cons r1
  obtain ⟨hnil, rfl, rfl⟩ := trodAll_nil r2
  obtain rfl : args = #[v0, v1, v2] := by
    cases args
    simp_all
  obtain ⟨rfl, rfl⟩ := trodVars_none hV
  have k0 := h0
  have lt0 : ∀ x ∈ p0, x.block < W.heap.size := by obtain ⟨m, hm⟩ := k0; exact DataW.trod_lt m _ _ _ hm
  obtain ⟨l0, o0, a0⟩ := bridge_leaf T_ok 9 (t := 43) (by kernel_rfl) rfl rfl (hval 0 43 v0 rfl rfl) h0
  obtain ⟨xs0, rfl⟩ := I13.items_of o0
  have k1 := h1
  have lt1 : ∀ x ∈ p1, x.block < W.heap.size := by obtain ⟨m, hm⟩ := k1; exact DataW.trod_lt m _ _ _ hm
  obtain ⟨l1, o1, a1⟩ := bridge_leaf T_ok 9 (t := 3) (by kernel_rfl) rfl rfl (hval 1 3 v1 rfl rfl) h1
  obtain ⟨n1, rfl⟩ := I13.int_of o1
  have k2 := h2
  have lt2 : ∀ x ∈ p2, x.block < W.heap.size := by obtain ⟨m, hm⟩ := k2; exact DataW.trod_lt m _ _ _ hm
  obtain ⟨l2, o2, a2⟩ := bridge_leaf T_ok 9 (t := 3) (by kernel_rfl) rfl rfl (hval 2 3 v2 rfl rfl) h2
  obtain ⟨n2, rfl⟩ := I13.int_of o2
  clear hA0 hval0 hsz0
  have hcon := (I12.law xs0 n1 n2).law W (tabs_met W) [v0, v1, v2] (parts_cons a0 (parts_cons a1 (parts_cons a2 (parts_nil _ _ _))))
  refine hcon.mono fun e W' ⟨he, bel⟩ => ?_
  subst he
  exact ⟨_, rfl, _, _, _, [], _, [], hW', trodAll_mk1 (shut_bool Try.underlying4 _), (trodAll_cons_mk (Below.trod laidOut (by kernel_rfl) (of_decide_eq_true (by kernel_rfl)) k0 bel lt0) (trodAll_cons_mk (Below.trod laidOut (by kernel_rfl) (of_decide_eq_true (by kernel_rfl)) k1 bel lt1) (trodAll_cons_mk (Below.trod laidOut (by kernel_rfl) (of_decide_eq_true (by kernel_rfl)) k2 bel lt2) trodAll_mk0))), rfl, bel.frame _, fun h => by cases h⟩
theorem proved : Rows.FnExactCompileItemsSaid :=
  OpenClaim.holds_of_wide 4 Try.f4 rfl rfl rfl rfl rfl rfl rfl ⟨rfl, rfl, rfl, rfl, rfl⟩ rfl rfl rfl rfl rfl (by kernel_rfl) Try.func4 (by kernel_rfl)
    (of_decide_eq_true (by kernel_rfl)) (by unfold Func.isWrapper; first | (rw [if_pos (by decide +kernel)]; kernel_rfl) | (rw [if_neg (by decide +kernel)]; exact ⟨rfl, rfl⟩))
    (fun os started H enc _ => lifted os started H enc)
#print axioms proved
end Go.Proofs.Ytdbjklhadnnbdaa.FnExactCompileItems
