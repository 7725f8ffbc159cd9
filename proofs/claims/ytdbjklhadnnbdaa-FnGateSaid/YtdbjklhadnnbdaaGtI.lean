import Derived.Test.YtdbjklhadnnbdaaGtD
import Derived.Test.YtdbjklhadnnbdaaAbs6
import Derived.Test.YtdbjklhadnnbdaaRows
import Derived.Test.YtdbjklhadnnbdaaGtH
/- FnItems, FnGate: what the arguments are. -/
set_option linter.unusedVariables false
set_option linter.unusedSimpArgs false
open Go Go.Abs Go.Proofs V1 S1
namespace S13
theorem byte_of {l : List AV} (h : OfT T 9 5 l) (hf : ∀ x ∈ l, x.facts 1) : ∃ c : UInt8, l = byteR c := by
  obtain ⟨n, rfl⟩ := h
  have h1 : fitsK .u8 n = true := hf _ (List.mem_singleton.2 rfl)
  have h2 : 0 ≤ n ∧ n < 256 := by
    simp [fitsK, IntKind.signed, IntKind.bits] at h1
    omega
  refine ⟨UInt8.ofNat n.toNat, ?_⟩
  have e : (UInt8.ofNat n.toNat).toNat = n.toNat := by
    rw [UInt8.toNat_ofNat']
    omega
  show [AV.int .u8 n] = [.int .u8 ((UInt8.ofNat n.toNat).toNat : Int)]
  rw [e]
  congr 2
  omega
theorem bytes_of {w : World} {R O : Cells} {loc : Locs} {v : Value} {x : AV} (h : OfT T 10 22 [x]) (ha : AR w R loc x v O) : ∃ d : List UInt8, x = roU d := by
  obtain ⟨rows, h1, h2⟩ := h
  injection h1 with h1
  have hf := ha.facts 2
  rw [h1] at hf
  have hf2 : ∀ row ∈ rows, ∀ x ∈ row, x.facts 1 := hf.2
  have hm : ∃ xs : List UInt8, rows = xs.map byteR := by
    clear h1 hf
    induction rows with
    | nil => exact ⟨[], rfl⟩
    | cons r l ih =>
      obtain ⟨c, rfl⟩ := byte_of (h2 r (by simp)) (hf2 r (by simp))
      obtain ⟨xs, rfl⟩ := ih (fun row hr => h2 row (by simp [hr])) (fun row hr => hf2 row (by simp [hr]))
      exact ⟨c :: xs, rfl⟩
  obtain ⟨xs, rfl⟩ := hm
  exact ⟨xs, h1⟩
end S13

/- FnGate: the law returns true at every input, and its arguments read behind the call as they did. -/
set_option linter.unusedVariables false
set_option linter.unusedSimpArgs false
namespace Go.Proofs.Ytdbjklhadnnbdaa.FnGate
open Go.ChangeShapes Go.WideShapes Go.ChangeAt Go.RowKit Go.Joins
open Go.Abs V1 G5 S13
theorem own : ownKnob Try.prog.godebug = none := by kernel_rfl
theorem laidOut : laidOutB Try.prog = true := by kernel_rfl
theorem tabs_met (W : World) : Tabs Try.prog W none2 := by
  intro x hx g hg
  simp only [tabL, List.mem_cons, List.not_mem_nil, or_false] at hx
  subst hx
  exact absurd hg (by rw [show Try.prog.globalNamed "internal/strconv.uint64pow10" = none by kernel_rfl]; simp)
set_option maxRecDepth 100000 in
theorem lifted (os : Os) (started : os.Started) (H : Type) (enc : TypeId × Value → H) :
    ReturnsInHanded {} Try.checked os 3 .any (Rows.fnGateSpec.pre6 enc Try.prog Try.f3 Rows.fnGateRow.domain false) (Rows.fnGateSpec.post enc Try.prog Try.f3 false true false false) := by
  refine returnsInHanded_of_change_sized (C := Try.checked) own started (by kernel_rfl) Try.func3
    (ChangeSpec.witness6 (enc := enc) (C := Try.checked) false ⟨#[], #[.slice none 0 0, .slice none 0 0], []⟩ 8 (by kernel_rfl) (by kernel_rfl) (by kernel_rfl) (by kernel_rfl)) ?_
  intro W base args ds gs before hval0 hW hcnd hsz0 _
  have hval : ∀ (j : Nat) t v, Try.f3.params[j]? = some t → args[j]? = some v → Value.okWide Try.prog W .any base t v := hval0
  have hW' := hW
  obtain ⟨p, q, hA0, hV, rfl, hfz, hnd⟩ := hW
  have hA : DataW.TrodAll enc Try.prog W 0 (fun _ => true) true Try.f3.params.toList args.toList ds p := hA0
  rw [Try.params3] at hA hval
  obtain ⟨v0, vs0, d0, ds0, p0, q0, hargs0, rfl, rfl, h0, r0⟩ := trodAll_cons hA
  obtain ⟨v1, vs1, d1, ds1, p1, q1, hargs1, rfl, rfl, h1, r1⟩ := trodAll_cons r0
  obtain ⟨hnil, rfl, rfl⟩ := trodAll_nil r1
  obtain rfl : args = #[v0, v1] := by
    cases args
    simp_all
  obtain ⟨rfl, rfl⟩ := trodVars_none hV
  have k0 := h0
  have lt0 : ∀ x ∈ p0, x.block < W.heap.size := by obtain ⟨m, hm⟩ := k0; exact DataW.trod_lt m _ _ _ hm
  obtain ⟨l0, o0, a0⟩ := bridge_leaf T_ok 9 (t := 22) (by kernel_rfl) rfl rfl (hval 0 22 v0 rfl rfl) h0
  obtain ⟨d0, rfl⟩ := S13.bytes_of o0 a0
  have k1 := h1
  have lt1 : ∀ x ∈ p1, x.block < W.heap.size := by obtain ⟨m, hm⟩ := k1; exact DataW.trod_lt m _ _ _ hm
  obtain ⟨l1, o1, a1⟩ := bridge_leaf T_ok 9 (t := 22) (by kernel_rfl) rfl rfl (hval 1 22 v1 rfl rfl) h1
  obtain ⟨d1, rfl⟩ := S13.bytes_of o1 a1
  clear hA0 hval0 hsz0
  have hcon := (G5.law d0 d1).law W (tabs_met W) [v0, v1] (parts_cons a0 (parts_cons a1 (parts_nil _ _ _)))
  refine hcon.mono fun e W' ⟨he, bel⟩ => ?_
  subst he
  exact ⟨_, rfl, _, _, _, [], _, [], hW', trodAll_mk1 (shut_bool Try.underlying4 _), (trodAll_cons_mk (Below.trod laidOut (by kernel_rfl) (of_decide_eq_true (by kernel_rfl)) k0 bel lt0) (trodAll_cons_mk (Below.trod laidOut (by kernel_rfl) (of_decide_eq_true (by kernel_rfl)) k1 bel lt1) trodAll_mk0)), rfl, bel.frame _, fun h => by cases h⟩
theorem proved : Rows.FnGateSaid :=
  OpenClaim.holds_of_wide 3 Try.f3 rfl rfl rfl rfl rfl rfl rfl ⟨rfl, rfl, rfl, rfl, rfl⟩ rfl rfl rfl rfl rfl (by kernel_rfl) Try.func3 (by kernel_rfl)
    (of_decide_eq_true (by kernel_rfl)) (by unfold Func.isWrapper; first | (rw [if_pos (by decide +kernel)]; kernel_rfl) | (rw [if_neg (by decide +kernel)]; exact ⟨rfl, rfl⟩))
    (fun os started H enc _ => lifted os started H enc)
#print axioms proved
end Go.Proofs.Ytdbjklhadnnbdaa.FnGate
