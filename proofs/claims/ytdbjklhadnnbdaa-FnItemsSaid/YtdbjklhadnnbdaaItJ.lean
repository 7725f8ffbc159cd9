import Derived.Test.YtdbjklhadnnbdaaItI
import Derived.Test.YtdbjklhadnnbdaaItF
import Derived.Test.YtdbjklhadnnbdaaAbs6
import Derived.Test.YtdbjklhadnnbdaaRows
/- Items are accepted or rejected as the document says; of those that fit the open structures are known; their code has its size: the law. -/
set_option linter.unusedVariables false
set_option linter.unusedSimpArgs false
set_option maxRecDepth 100000
open Go Go.Abs Go.Proofs V1 H1 I1 I2 I3 I4 I5 I6 I7 I8 I9 I10 I11 S1 S2 S3 S4 S5 S6 S7 S8 S9 S10 S11
namespace S12


set_option maxHeartbeats 40000000 in
theorem law (code more : List UInt8) : Con Try.prog 6 [roU code, roU more] (undefs [roU code, roU more]) (.bool true) := by
  by_cases hc : code.length > 1048576
  · have hb1 : decide (((code.map byteR).length : Int) > 1048576) = true := by simp; omega
    refine Con.ev 153 T_ok mix Try.func6 rfl rfl rfl rfl [.tmp 4] rfl ?_
    conv => whnf
    (refine br_t (by assumption) ?_; conv => whnf)
    iterate 4 (refine br_t rfl ?_; conv => whnf)
    (refine rq_s (by (rfl)) ?_; conv => whnf)
    (refine sh_s ?_; (rfl))
  by_cases hm : more.length > 1048576
  · have hb1 : decide (((code.map byteR).length : Int) > 1048576) = false := by simp; omega
    have hb2 : decide (((more.map byteR).length : Int) > 1048576) = true := by simp; omega
    refine Con.ev 153 T_ok mix Try.func6 rfl rfl rfl rfl [.tmp 4] rfl ?_
    conv => whnf
    (refine br_f (by assumption) ?_; conv => whnf)
    iterate 2 (refine br_f rfl ?_; conv => whnf)
    (refine br_t (by assumption) ?_; conv => whnf)
    (refine rq_s (by (rfl)) ?_; conv => whnf)
    (refine sh_s ?_; (rfl))
  have hb1 : decide (((code.map byteR).length : Int) > 1048576) = false := by simp; omega
  have hb2 : decide (((more.map byteR).length : Int) > 1048576) = false := by simp; omega
  obtain ⟨list, kl, ll⟩ := doubt code
  obtain ⟨good, kg, fg, lg⟩ := drawn more
  have ha : askF good = 0 := by rw [askF, if_neg (by omega), if_neg (by omega), if_pos fg.2]
  have ho : openF good = ([], -1) := fg.1 [] 0 (by omega) (by simp)
  have hck : chkF good = (0, 0) := check_t ho.symm (by simp)
  have kc1 := c36 list
  have kc2 := c37 list
  have kcg := c36 good
  rw [ha, hck] at kcg
  simp only [ckV, ckF] at kc2
  generalize (if askF list = 0 then (chkF list).1 else 0) = r1 at kc1 kc2
  generalize (if askF list = 0 then (chkF list).2 else askF list) = r2 at kc1 kc2
  have kop : Con Try.prog 39 [roT good, .int .i64 ((good.map itR).length : Nat)] (undefs [roT good, .int .i64 ((good.map itR).length : Nat)]) (opR []) := by
    rw [List.length_map]; exact c39 good good.length [] ha (Nat.le_refl _) (by rw [List.take_length]; exact ho)
  have hw : IntKind.i64.wrap (((good.map itR).length : Int) + 1) = good.length + 1 := by rw [List.length_map]; exact wrap64 (by omega) (by omega)
  obtain ⟨p, kat, p0, p1⟩ := at_ex code (IntKind.i64.wrap (((good.map itR).length : Int) + 1)) (by omega) (by omega) (by omega)
  obtain ⟨q, rfl⟩ := Int.eq_ofNat_of_zero_le p0
  have hq : q ≤ good.length := by omega
  obtain ⟨op, hop⟩ := openGo_pre good 0 [] [] q ho (by omega)
  have ko1 := c39 good q op ha hq hop
  have ko2 := c41 good q op ha hq hop
  have kz1 := c42 good ha
  have kz2 := c43 good ha
  have hz := szF_le good
  have hm1 := compF_len (at' := q) (self := 84) fg.2
  have hci : ciF good q 84 = (compF good q 84, 0) := by
    rw [ciF, if_neg (by omega), if_neg (by rw [hck]; simp), if_neg (by simp [inR]; omega), if_neg (by unfold sizeF; omega)]
  have km1 := c19 good q 84
  have km2 := c17 good q 84
  rw [hci] at km1 km2
  simp only [ciV] at km1 km2
  generalize compF good q 84 = made at km1 km2 hm1
  have hb3 : (((made.map intR).length : Int) == sizeF good) = true := by rw [List.length_map, hm1]; simp
  refine Con.evK [(3, [888888, 5]), (8, [888888, 10])] 153 T_ok mix Try.func6 rfl rfl rfl rfl [.tmp 4] rfl ?_
  conv => whnf
  (refine br_f (by assumption) ?_; conv => whnf)
  iterate 2 (refine br_f rfl ?_; conv => whnf)
  (refine br_f (by assumption) ?_; conv => whnf)
  (refine rq_s (by (rfl)) ?_; conv => whnf)
  (refine lend_s ?_; conv => whnf)
  (refine rows_s (by (rfl)) ?_; conv => whnf)
  (refine call_s (kl ..) ?_; conv => whnf)
  (refine fac_s (fun hf => ?_); conv => whnf)
  (refine rows_s (by ((refine sub_all ?_; simp [List.length_map]; done))) ?_; conv => whnf)
  (refine rq_s (by (rfl)) ?_; conv => whnf)
  (refine lend_s ?_; conv => whnf)
  (refine rows_s (by (rfl)) ?_; conv => whnf)
  (refine call_s (kc1 ..) ?_; conv => whnf)
  iterate 2 (refine fac_s (fun hf => ?_); conv => whnf)
  (refine rq_s (by (rfl)) ?_; conv => whnf)
  (refine lend_s ?_; conv => whnf)
  (refine rows_s (by (rfl)) ?_; conv => whnf)
  (refine call_s (kc2 ..) ?_; conv => whnf)
  iterate 2 (refine fac_s (fun hf => ?_); conv => whnf)
  (focus (refine br_f (by (simp; done)) ?_; conv => whnf))
  iterate 2 (refine br_f rfl ?_; conv => whnf)
  (focus (refine br_f (by (simp; done)) ?_; conv => whnf))
  (refine rq_s (by (rfl)) ?_; conv => whnf)
  (refine lend_s ?_; conv => whnf)
  (refine rows_s (by (rfl)) ?_; conv => whnf)
  (refine call_s (kg ..) ?_; conv => whnf)
  (refine fac_s (fun hf => ?_); conv => whnf)
  (refine rows_s (by ((refine sub_all ?_; simp [List.length_map]; done))) ?_; conv => whnf)
  (refine rq_s (by (rfl)) ?_; conv => whnf)
  (refine lend_s ?_; conv => whnf)
  (refine rows_s (by (rfl)) ?_; conv => whnf)
  (refine call_s (kcg ..) ?_; conv => whnf)
  iterate 2 (refine fac_s (fun hf => ?_); conv => whnf)
  iterate 2 (refine rq_s (by (rfl)) ?_; conv => whnf)
  (refine lend_s ?_; conv => whnf)
  (refine rows_s (by (rfl)) ?_; conv => whnf)
  (refine call_s (kop ..) ?_; conv => whnf)
  iterate 2 (refine fac_s (fun hf => ?_); conv => whnf)
  iterate 3 (refine rq_s (by (rfl)) ?_; conv => whnf)
  (refine lend_s ?_; conv => whnf)
  (refine rows_s (by (rfl)) ?_; conv => whnf)
  (refine call_s (kat ..) ?_; conv => whnf)
  (refine fac_s (fun hf => ?_); conv => whnf)
  iterate 2 (refine rq_s (by (rfl)) ?_; conv => whnf)
  (refine lend_s ?_; conv => whnf)
  (refine rows_s (by (rfl)) ?_; conv => whnf)
  (refine call_s (ko1 ..) ?_; conv => whnf)
  iterate 2 (refine fac_s (fun hf => ?_); conv => whnf)
  iterate 2 (refine rq_s (by (rfl)) ?_; conv => whnf)
  (refine lend_s ?_; conv => whnf)
  (refine rows_s (by (rfl)) ?_; conv => whnf)
  (refine call_s (ko2 ..) ?_; conv => whnf)
  iterate 2 (refine fac_s (fun hf => ?_); conv => whnf)
  (refine rq_s (by (rfl)) ?_; conv => whnf)
  (refine lend_s ?_; conv => whnf)
  (refine rows_s (by (rfl)) ?_; conv => whnf)
  (refine call_s (kz1 ..) ?_; conv => whnf)
  iterate 2 (refine fac_s (fun hf => ?_); conv => whnf)
  (refine rq_s (by (rfl)) ?_; conv => whnf)
  (refine lend_s ?_; conv => whnf)
  (refine rows_s (by (rfl)) ?_; conv => whnf)
  (refine call_s (kz2 ..) ?_; conv => whnf)
  iterate 2 (refine fac_s (fun hf => ?_); conv => whnf)
  iterate 3 (refine rq_s (by (rfl)) ?_; conv => whnf)
  (refine lend_s ?_; conv => whnf)
  (refine rows_s (by (rfl)) ?_; conv => whnf)
  (refine call_s (km1 ..) ?_; conv => whnf)
  iterate 2 (refine fac_s (fun hf => ?_); conv => whnf)
  iterate 3 (refine rq_s (by (rfl)) ?_; conv => whnf)
  (refine lend_s ?_; conv => whnf)
  (refine rows_s (by (rfl)) ?_; conv => whnf)
  (refine call_s (km2 ..) ?_; conv => whnf)
  iterate 2 (refine fac_s (fun hf => ?_); conv => whnf)
  iterate 10 (refine br_t rfl ?_; conv => whnf)
  iterate 2 (refine rq_s (by (rfl)) ?_; conv => whnf)
  (refine lend_s ?_; conv => whnf)
  iterate 2 (refine rows_s (by (rfl)) ?_; conv => whnf)
  (refine call_s (same op ..) ?_; conv => whnf)
  iterate 5 (refine br_t rfl ?_; conv => whnf)
  (focus (refine br_t (by (simp; done)) ?_; conv => whnf))
  iterate 4 (refine br_t rfl ?_; conv => whnf)
  (refine rq_s (by ((simp only [decide_eq_true_eq, List.length_map]; done))) ?_; conv => whnf)
  (refine rq_s (by (rfl)) ?_; conv => whnf)
  (refine rq_s (by ((simp only [decide_eq_true_eq, List.length_map]; done))) ?_; conv => whnf)
  (refine rq_s (by (rfl)) ?_; conv => whnf)
  (refine lend_s ?_; conv => whnf)
  iterate 2 (refine rows_s (by ((refine sub_all ?_; simp [List.length_map]; done))) ?_; conv => whnf)
  (refine call_s (same made ..) ?_; conv => whnf)
  iterate 4 (refine br_t rfl ?_; conv => whnf)
  (refine rq_s (by (rfl)) ?_; conv => whnf)
  (refine sh_s ?_; ((rw [hb3]; rfl)))
end S12

/- FnItems, FnGate: what the arguments are. -/
set_option linter.unusedVariables false
set_option linter.unusedSimpArgs false
open Go Go.Abs Go.Proofs V1 S1
namespace S13
theorem byte_of {l : List AV} (h : OfT T 9 5 l) (hf : ∀ x ∈ l, x.facts 1) : ∃ c : UInt8, l = byteR c := by
  obtain ⟨n, rfl⟩ := h
  have h1 : fitsK .u8 n = true := hf _ (List.mem_singleton.2 rfl)
  have h2 : 0 ≤ n ∧ n < 256 := by
    simp [fitsK, IntKind.signed, IntKind.bits] at h1
    omega
  refine ⟨UInt8.ofNat n.toNat, ?_⟩
  have e : (UInt8.ofNat n.toNat).toNat = n.toNat := by
    rw [UInt8.toNat_ofNat']
    omega
  show [AV.int .u8 n] = [.int .u8 ((UInt8.ofNat n.toNat).toNat : Int)]
  rw [e]
  congr 2
  omega
theorem bytes_of {w : World} {R O : Cells} {loc : Locs} {v : Value} {x : AV} (h : OfT T 10 22 [x]) (ha : AR w R loc x v O) : ∃ d : List UInt8, x = roU d := by
  obtain ⟨rows, h1, h2⟩ := h
  injection h1 with h1
  have hf := ha.facts 2
  rw [h1] at hf
  have hf2 : ∀ row ∈ rows, ∀ x ∈ row, x.facts 1 := hf.2
  have hm : ∃ xs : List UInt8, rows = xs.map byteR := by
    clear h1 hf
    induction rows with
    | nil => exact ⟨[], rfl⟩
    | cons r l ih =>
      obtain ⟨c, rfl⟩ := byte_of (h2 r (by simp)) (hf2 r (by simp))
      obtain ⟨xs, rfl⟩ := ih (fun row hr => h2 row (by simp [hr])) (fun row hr => hf2 row (by simp [hr]))
      exact ⟨c :: xs, rfl⟩
  obtain ⟨xs, rfl⟩ := hm
  exact ⟨xs, h1⟩
end S13

/- FnItems: the law returns true at every input, and its arguments read behind the call as they did. -/
set_option linter.unusedVariables false
set_option linter.unusedSimpArgs false
namespace Go.Proofs.Ytdbjklhadnnbdaa.FnItems
open Go.ChangeShapes Go.WideShapes Go.ChangeAt Go.RowKit Go.Joins
open Go.Abs V1 S12 S13
theorem own : ownKnob Try.prog.godebug = none := by kernel_rfl
theorem laidOut : laidOutB Try.prog = true := by kernel_rfl
theorem tabs_met (W : World) : Tabs Try.prog W none2 := by
  intro x hx g hg
  simp only [tabL, List.mem_cons, List.not_mem_nil, or_false] at hx
  subst hx
  exact absurd hg (by rw [show Try.prog.globalNamed "internal/strconv.uint64pow10" = none by kernel_rfl]; simp)
set_option maxRecDepth 100000 in
theorem lifted (os : Os) (started : os.Started) (H : Type) (enc : TypeId × Value → H) :
    ReturnsInHanded {} Try.checked os 6 .any (Rows.fnItemsSpec.pre6 enc Try.prog Try.f6 Rows.fnItemsRow.domain false) (Rows.fnItemsSpec.post enc Try.prog Try.f6 false true false false) := by
  refine returnsInHanded_of_change_sized (C := Try.checked) own started (by kernel_rfl) Try.func6
    (ChangeSpec.witness6 (enc := enc) (C := Try.checked) false ⟨#[], #[.slice none 0 0, .slice none 0 0], []⟩ 8 (by kernel_rfl) (by kernel_rfl) (by kernel_rfl) (by kernel_rfl)) ?_
  intro W base args ds gs before hval0 hW hcnd hsz0 _
  have hval : ∀ (j : Nat) t v, Try.f6.params[j]? = some t → args[j]? = some v → Value.okWide Try.prog W .any base t v := hval0
  have hW' := hW
  obtain ⟨p, q, hA0, hV, rfl, hfz, hnd⟩ := hW
  have hA : DataW.TrodAll enc Try.prog W 0 (fun _ => true) true Try.f6.params.toList args.toList ds p := hA0
  rw [Try.params6] at hA hval
  obtain ⟨v0, vs0, d0, ds0, p0, q0, hargs0, rfl, rfl, h0, r0⟩ := trodAll_cons hA
  obtain ⟨v1, vs1, d1, ds1, p1, q1, hargs1, rfl, rfl, h1, r1⟩ := trodAll_cons r0
  obtain ⟨hnil, rfl, rfl⟩ := trodAll_nil r1
  obtain rfl : args = #[v0, v1] := by
    cases args
    simp_all
  obtain ⟨rfl, rfl⟩ := trodVars_none hV
  have k0 := h0
  have lt0 : ∀ x ∈ p0, x.block < W.heap.size := by obtain ⟨m, hm⟩ := k0; exact DataW.trod_lt m _ _ _ hm
  obtain ⟨l0, o0, a0⟩ := bridge_leaf T_ok 9 (t := 22) (by kernel_rfl) rfl rfl (hval 0 22 v0 rfl rfl) h0
  obtain ⟨d0, rfl⟩ := S13.bytes_of o0 a0
  have k1 := h1
  have lt1 : ∀ x ∈ p1, x.block < W.heap.size := by obtain ⟨m, hm⟩ := k1; exact DataW.trod_lt m _ _ _ hm
  obtain ⟨l1, o1, a1⟩ := bridge_leaf T_ok 9 (t := 22) (by kernel_rfl) rfl rfl (hval 1 22 v1 rfl rfl) h1
  obtain ⟨d1, rfl⟩ := S13.bytes_of o1 a1
  clear hA0 hval0 hsz0
  have hcon := (S12.law d0 d1).law W (tabs_met W) [v0, v1] (parts_cons a0 (parts_cons a1 (parts_nil _ _ _)))
  refine hcon.mono fun e W' ⟨he, bel⟩ => ?_
  subst he
  exact ⟨_, rfl, _, _, _, [], _, [], hW', trodAll_mk1 (shut_bool Try.underlying4 _), (trodAll_cons_mk (Below.trod laidOut (by kernel_rfl) (of_decide_eq_true (by kernel_rfl)) k0 bel lt0) (trodAll_cons_mk (Below.trod laidOut (by kernel_rfl) (of_decide_eq_true (by kernel_rfl)) k1 bel lt1) trodAll_mk0)), rfl, bel.frame _, fun h => by cases h⟩
theorem proved : Rows.FnItemsSaid :=
  OpenClaim.holds_of_wide 6 Try.f6 rfl rfl rfl rfl rfl rfl rfl ⟨rfl, rfl, rfl, rfl, rfl⟩ rfl rfl rfl rfl rfl (by kernel_rfl) Try.func6 (by kernel_rfl)
    (of_decide_eq_true (by kernel_rfl)) (by unfold Func.isWrapper; first | (rw [if_pos (by decide +kernel)]; kernel_rfl) | (rw [if_neg (by decide +kernel)]; exact ⟨rfl, rfl⟩))
    (fun os started H enc _ => lifted os started H enc)
#print axioms proved
end Go.Proofs.Ytdbjklhadnnbdaa.FnItems
