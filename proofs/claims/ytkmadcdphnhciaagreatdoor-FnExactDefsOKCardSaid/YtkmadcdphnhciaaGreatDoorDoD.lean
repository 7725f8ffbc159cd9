import Derived.Test.YtkmadcdphnhciaaGreatDoorDoC
import Derived.Test.YtkmadcdphnhciaaGreatDoorDoA
import Derived.Test.YtkmadcdphnhciaaGreatDoorAbso
import Derived.Test.YtkmadcdphnhciaaGreatDoorAbs6
import Derived.Test.YtkmadcdphnhciaaGreatDoorRows
import Derived.Test.YtkmadcdphnhciaaGreatDoorTie
import Derived.Test.YtkmadcdphnhciaaGreatDoorCards
import Derived.SevenTiedAt
import Derived.LaidMore
import Derived.LaidLaws
import Derived.Lay
import Derived.Test.YtkmadcdphnhciaaGreatDoorAbs8
/- DefsOK: the law. -/
set_option linter.unusedVariables false
set_option linter.unusedSimpArgs false
set_option maxRecDepth 100000
open Go Go.Abs Go.Proofs V1 H1 K1 K2 K3 K4 I1 I2 I3 I4 I5 I6 I7 I8 I9 I10 I11 M1 M2 M3 M4
namespace M5




set_option maxHeartbeats 40000000 in
theorem law (m : Mch) (ds : List Df) : Con Tryz.prog 3 [mchV m, roDf ds] (undefs [mchV m, roDf ds]) (.bool true) := by
  refine Con.evF 45 T_ok mix Tryz.func3 rfl rfl rfl rfl [.tmp 4] rfl fun ⟨hm0, hd0, _⟩ => ?_
  have lm := mch_facts hm0
  have ks := c10 m 1048576 (by omega) (by omega)
  by_cases hn : szMch m 1048576 < 0
  · have hb : decide (szMch m 1048576 < 0) = true := by simpa using hn
    conv => whnf
    iterate 18 (apply rq_s rfl;conv=>whnf)
    (apply lend_s;conv=>whnf)
    iterate 10 (apply rows_s rfl;conv=>whnf)
    (refine call_s (ks ..) ?_;conv=>whnf)
    (refine fac_s (fun hf => ?_);conv=>whnf)
    (apply br_t (by assumption);conv=>whnf)
    (apply rq_s rfl;conv=>whnf)
    (refine sh_s ?_; (rfl))
  have hb : decide (szMch m 1048576 < 0) = false := by simpa using hn
  obtain ⟨l1, sm⟩ := smallM_of (by omega) (by omega) lm (show 0 ≤ szMch m 1048576 by omega)
  generalize szMch m 1048576 = z at ks hb hn l1
  have kd := c11 ds z (by omega) (by omega)
  by_cases hn2 : szDs ds z < 0
  · have hb2 : decide (szDs ds z < 0) = true := by simpa using hn2
    conv => whnf
    iterate 18 (apply rq_s rfl;conv=>whnf)
    (apply lend_s;conv=>whnf)
    iterate 10 (apply rows_s rfl;conv=>whnf)
    (refine call_s (ks ..) ?_;conv=>whnf)
    (refine fac_s (fun hf => ?_);conv=>whnf)
    (apply br_f (by assumption);conv=>whnf)
    iterate 2 (apply rq_s rfl;conv=>whnf)
    (apply lend_s;conv=>whnf)
    (apply rows_s rfl;conv=>whnf)
    (refine call_s (kd ..) ?_;conv=>whnf)
    (refine fac_s (fun hf => ?_);conv=>whnf)
    (apply br_t (by assumption);conv=>whnf)
    (apply rq_s rfl;conv=>whnf)
    (refine sh_s ?_; (rfl))
  have hb2 : decide (szDs ds z < 0) = false := by simpa using hn2
  obtain ⟨_, d1, d2⟩ := szDs_le (show 0 ≤ z by omega) (by omega) (show 0 ≤ szDs ds z by omega)
  generalize szDs ds z = z2 at kd hb2
  have k1 := c15 m ds
  have k2 := c12 m ds
  generalize dmOK m ds = r at k1 k2
  conv => whnf
  iterate 18 (apply rq_s rfl;conv=>whnf)
  (apply lend_s;conv=>whnf)
  iterate 10 (apply rows_s rfl;conv=>whnf)
  (refine call_s (ks ..) ?_;conv=>whnf)
  (refine fac_s (fun hf => ?_);conv=>whnf)
  (apply br_f (by assumption);conv=>whnf)
  iterate 2 (apply rq_s rfl;conv=>whnf)
  (apply lend_s;conv=>whnf)
  (apply rows_s rfl;conv=>whnf)
  (refine call_s (kd ..) ?_;conv=>whnf)
  (refine fac_s (fun hf => ?_);conv=>whnf)
  (apply br_f (by assumption);conv=>whnf)
  iterate 16 (apply rq_s rfl;conv=>whnf)
  (apply lend_s;conv=>whnf)
  iterate 10 (apply rows_s rfl;conv=>whnf)
  (refine call_s (c13 m sm ..) ?_;conv=>whnf)
  (apply rq_s rfl;conv=>whnf)
  (apply lend_s;conv=>whnf)
  (apply rows_s rfl;conv=>whnf)
  (refine call_s (c14 ds d1 d2 ..) ?_;conv=>whnf)
  (apply rq_s (by simp only [lnm]; done);conv=>whnf)
  (apply rq_s rfl;conv=>whnf)
  (apply rq_s (by simp only [lnm]; done);conv=>whnf)
  (apply rq_s rfl;conv=>whnf)
  (apply rq_s (by simp only [lnm]; done);conv=>whnf)
  (apply rq_s rfl;conv=>whnf)
  (apply rq_s (by simp only [lnm]; done);conv=>whnf)
  (apply rq_s rfl;conv=>whnf)
  (apply rq_s (by simp only [lnm]; done);conv=>whnf)
  iterate 4 (apply rq_s rfl;conv=>whnf)
  (apply rq_s (by simp only [lnm]; done);conv=>whnf)
  (apply rq_s rfl;conv=>whnf)
  (apply rq_s (by simp only [lnm]; done);conv=>whnf)
  (apply rq_s rfl;conv=>whnf)
  (apply rq_s (by simp only [lnm]; done);conv=>whnf)
  iterate 2 (apply rq_s rfl;conv=>whnf)
  (apply rq_s (by simp only [lnm]; done);conv=>whnf)
  (apply rq_s rfl;conv=>whnf)
  (apply rq_s (by simp only [lnm]; done);conv=>whnf)
  iterate 3 (apply rq_s rfl;conv=>whnf)
  (apply rq_s (by simp only [lnm]; done);conv=>whnf)
  (apply rq_s rfl;conv=>whnf)
  (apply lend_s;conv=>whnf)
  iterate 11 (refine rows_s (by ((refine sub_all ?_; simp [List.length_map]; done))) ?_;conv=>whnf)
  (refine call_s (k2 ..) ?_;conv=>whnf)
  iterate 17 (refine fac_s (fun hf => ?_);conv=>whnf)
  iterate 16 (apply rq_s rfl;conv=>whnf)
  (apply lend_s;conv=>whnf)
  iterate 10 (apply rows_s rfl;conv=>whnf)
  (refine call_s (c13 m sm ..) ?_;conv=>whnf)
  iterate 16 (refine fac_s (fun hf => ?_);conv=>whnf)
  (apply rq_s rfl;conv=>whnf)
  (apply lend_s;conv=>whnf)
  (apply rows_s rfl;conv=>whnf)
  (refine call_s (c14 ds d1 d2 ..) ?_;conv=>whnf)
  (refine fac_s (fun hf => ?_);conv=>whnf)
  (apply rq_s (by simp only [lnm]; done);conv=>whnf)
  (apply rq_s rfl;conv=>whnf)
  (apply rq_s (by simp only [lnm]; done);conv=>whnf)
  (apply rq_s rfl;conv=>whnf)
  (apply rq_s (by simp only [lnm]; done);conv=>whnf)
  (apply rq_s rfl;conv=>whnf)
  (apply rq_s (by simp only [lnm]; done);conv=>whnf)
  (apply rq_s rfl;conv=>whnf)
  (apply rq_s (by simp only [lnm]; done);conv=>whnf)
  iterate 4 (apply rq_s rfl;conv=>whnf)
  (apply rq_s (by simp only [lnm]; done);conv=>whnf)
  (apply rq_s rfl;conv=>whnf)
  (apply rq_s (by simp only [lnm]; done);conv=>whnf)
  (apply rq_s rfl;conv=>whnf)
  (apply rq_s (by simp only [lnm]; done);conv=>whnf)
  iterate 2 (apply rq_s rfl;conv=>whnf)
  (apply rq_s (by simp only [lnm]; done);conv=>whnf)
  (apply rq_s rfl;conv=>whnf)
  (apply rq_s (by simp only [lnm]; done);conv=>whnf)
  iterate 3 (apply rq_s rfl;conv=>whnf)
  (apply rq_s (by simp only [lnm]; done);conv=>whnf)
  (apply rq_s rfl;conv=>whnf)
  (apply lend_s;conv=>whnf)
  iterate 11 (refine rows_s (by ((refine sub_all ?_; simp [List.length_map]; done))) ?_;conv=>whnf)
  (refine call_s (k1 ..) ?_;conv=>whnf)
  (focus (apply br_f (by (simp; done));conv=>whnf))
  iterate 3 (refine ChkS.mk (by kernel_rfl) ?_;conv=>whnf)
  iterate 16 (apply rq_s rfl;conv=>whnf)
  iterate 10 (apply rows_s rfl;conv=>whnf)
  (refine call_s (c13 m sm ..) ?_;conv=>whnf)
  (refine ChkS.mk (by kernel_rfl) ?_;conv=>whnf)
  (apply rq_s (by simp only [lnm]; done);conv=>whnf)
  (apply rq_s rfl;conv=>whnf)
  (apply rq_s (by simp only [lnm]; done);conv=>whnf)
  (apply rq_s rfl;conv=>whnf)
  (apply rq_s (by simp only [lnm]; done);conv=>whnf)
  (apply rq_s rfl;conv=>whnf)
  (apply rq_s (by simp only [lnm]; done);conv=>whnf)
  (apply rq_s rfl;conv=>whnf)
  (apply rq_s (by simp only [lnm]; done);conv=>whnf)
  iterate 4 (apply rq_s rfl;conv=>whnf)
  (apply rq_s (by simp only [lnm]; done);conv=>whnf)
  (apply rq_s rfl;conv=>whnf)
  (apply rq_s (by simp only [lnm]; done);conv=>whnf)
  (apply rq_s rfl;conv=>whnf)
  (apply rq_s (by simp only [lnm]; done);conv=>whnf)
  iterate 2 (apply rq_s rfl;conv=>whnf)
  (apply rq_s (by simp only [lnm]; done);conv=>whnf)
  (apply rq_s rfl;conv=>whnf)
  (apply rq_s (by simp only [lnm]; done);conv=>whnf)
  iterate 3 (apply rq_s rfl;conv=>whnf)
  (apply rq_s (by simp only [lnm]; done);conv=>whnf)
  (apply rq_s rfl;conv=>whnf)
  (apply rq_s (by simp only [lnm]; done);conv=>whnf)
  (apply rq_s rfl;conv=>whnf)
  (apply rq_s (by simp only [lnm]; done);conv=>whnf)
  (apply rq_s rfl;conv=>whnf)
  (apply rq_s (by simp only [lnm]; done);conv=>whnf)
  (apply rq_s rfl;conv=>whnf)
  (apply rq_s (by simp only [lnm]; done);conv=>whnf)
  iterate 4 (apply rq_s rfl;conv=>whnf)
  (apply rq_s (by simp only [lnm]; done);conv=>whnf)
  (apply rq_s rfl;conv=>whnf)
  (apply rq_s (by simp only [lnm]; done);conv=>whnf)
  (apply rq_s rfl;conv=>whnf)
  (apply rq_s (by simp only [lnm]; done);conv=>whnf)
  iterate 2 (apply rq_s rfl;conv=>whnf)
  (apply rq_s (by simp only [lnm]; done);conv=>whnf)
  (apply rq_s rfl;conv=>whnf)
  (apply rq_s (by simp only [lnm]; done);conv=>whnf)
  iterate 3 (apply rq_s rfl;conv=>whnf)
  iterate 20 (refine rows_s (by ((refine sub_all ?_; simp [List.length_map]; done))) ?_;conv=>whnf)
  (refine call_s (eqM m ..) ?_;conv=>whnf)
  iterate 2 (refine ChkS.mk (by kernel_rfl) ?_;conv=>whnf)
  iterate 16 (refine fac_s (fun hf => ?_);conv=>whnf)
  (apply br_f rfl;conv=>whnf)
  (apply rq_s rfl;conv=>whnf)
  (apply lend_s;conv=>whnf)
  (apply rows_s rfl;conv=>whnf)
  (refine call_s (c14 ds d1 d2 ..) ?_;conv=>whnf)
  (apply rq_s (by simp only [lnm]; done);conv=>whnf)
  (apply rq_s rfl;conv=>whnf)
  (apply rq_s (by simp only [lnm]; done);conv=>whnf)
  (apply rq_s rfl;conv=>whnf)
  (apply lend_s;conv=>whnf)
  iterate 2 (refine rows_s (by ((refine sub_all ?_; simp [List.length_map]; done))) ?_;conv=>whnf)
  (refine call_s (eqDs ds ..) ?_;conv=>whnf)
  (refine fac_s (fun hf => ?_);conv=>whnf)
  (apply br_f rfl;conv=>whnf)
  (apply rq_s rfl;conv=>whnf)
  (refine sh_s ?_; (rfl))
end M5

/- Machines, definitions, Forths: what the arguments are. -/
set_option linter.unusedVariables false
set_option linter.unusedSimpArgs false
open Go Go.Abs Go.Proofs V1
namespace M6
theorem word_of {d : Nat} {l : List AV} (h : OfT T (d + 2) 129 l) : ∃ r : Wd, l = wdR r := by
  obtain ⟨_, _, rfl, ⟨s, rfl⟩, _, _, rfl, ⟨k, rfl⟩, _, _, rfl, ⟨n, rfl⟩, rfl⟩ := h
  exact ⟨⟨s, k, n⟩, rfl⟩
theorem item_of {d : Nat} {l : List AV} (h : OfT T (d + 2) 156 l) : ∃ r : Itm, l = itR r := by
  obtain ⟨_, _, rfl, ⟨k, rfl⟩, _, _, rfl, ⟨n, rfl⟩, rfl⟩ := h
  exact ⟨⟨k, n⟩, rfl⟩
theorem call_of {d : Nat} {l : List AV} (h : OfT T (d + 2) 143 l) : ∃ r : Cal, l = calR r := by
  obtain ⟨_, _, rfl, ⟨k, rfl⟩, _, _, rfl, ⟨n, rfl⟩, _, _, rfl, ⟨s, rfl⟩, _, _, rfl, ⟨t, rfl⟩, rfl⟩ := h
  exact ⟨⟨k, n, s, t⟩, rfl⟩
theorem deal_of {d : Nat} {l : List AV} (h : OfT T (d + 2) 183 l) : ∃ r : Deal, l = dealR r := by
  obtain ⟨_, _, rfl, ⟨k, rfl⟩, _, _, rfl, ⟨n, rfl⟩, _, _, rfl, ⟨s, rfl⟩, _, _, rfl, ⟨t, rfl⟩, rfl⟩ := h
  exact ⟨⟨k, n, s, t⟩, rfl⟩
theorem host_of {d : Nat} {l : List AV} (h : OfT T (d + 4) 29 l) : ∃ h : Hst, l = hstR h := by
  obtain ⟨_, _, rfl, ⟨r1, rfl, h1⟩, _, _, rfl, ⟨r2, rfl, h2⟩, _, _, rfl, ⟨r3, rfl, h3⟩, _, _, rfl, ⟨tk, rfl⟩, _, _, rfl, ⟨r5, rfl, h5⟩, rfl⟩ := h
  obtain ⟨gr, rfl⟩ := rows_map boolR h1
  obtain ⟨st, rfl⟩ := rows_map intR h2
  obtain ⟨q, rfl⟩ := rows_map intR h3
  obtain ⟨ds, rfl⟩ := rows_map dealR fun row hr => deal_of (d := d) (h5 row hr)
  exact ⟨⟨gr, st, q, tk, ds⟩, rfl⟩
theorem data_of {d : Nat} {l : List AV} (h : OfT T (d + 4) 25 l) : ∃ x : Dat, l = datR x := by
  obtain ⟨_, _, rfl, ⟨r1, rfl, h1⟩, _, _, rfl, ⟨r2, rfl, h2⟩, _, _, rfl, ⟨r3, rfl, h3⟩, _, _, rfl, ⟨he, rfl⟩, _, _, rfl, ⟨ba, rfl⟩, _, _, rfl, ⟨ou, rfl⟩, rfl⟩ := h
  obtain ⟨st, rfl⟩ := rows_map intR h1
  obtain ⟨bk, rfl⟩ := rows_map intR h2
  obtain ⟨ce, rfl⟩ := rows_map intR h3
  exact ⟨⟨st, bk, ce, he, ba, ou⟩, rfl⟩
theorem mch_ofd {d : Nat} {l : List AV} (h : OfT T (d + 5) 32 l) : ∃ m : Mch, l = mchR m := by
  obtain ⟨_, _, rfl, ⟨r1, rfl, h1⟩, _, _, rfl, ⟨r2, rfl, h2⟩, p3, _, rfl, h3, p4, _, rfl, h4, _, _, rfl, ⟨r5, rfl, h5⟩, _, _, rfl, ⟨ip, rfl⟩, _, _, rfl, ⟨fu, rfl⟩, rfl⟩ := h
  obtain ⟨da, rfl⟩ := data_of (d := d) h3
  obtain ⟨ho, rfl⟩ := host_of (d := d) h4
  obtain ⟨ws, rfl⟩ := rows_map wdR fun row hr => word_of (d := d + 1) (h1 row hr)
  obtain ⟨co, rfl⟩ := rows_map intR h2
  obtain ⟨ca, rfl⟩ := rows_map calR fun row hr => call_of (d := d + 1) (h5 row hr)
  exact ⟨⟨ws, co, da, ho, ca, ip, fu⟩, rfl⟩
theorem mch_of {l : List AV} (h : OfT T 10 32 l) : ∃ m : Mch, l = mchR m := mch_ofd (d := 5) h
theorem def_of {d : Nat} {l : List AV} (h : OfT T (d + 4) 84 l) : ∃ r : Df, l = dfR r := by
  obtain ⟨_, _, rfl, ⟨w, rfl⟩, _, _, rfl, ⟨r2, rfl, h2⟩, rfl⟩ := h
  obtain ⟨its, rfl⟩ := rows_map itR fun row hr => item_of (d := d) (h2 row hr)
  exact ⟨⟨w, its⟩, rfl⟩
theorem defs_of {x : AV} (h : OfT T 10 33 [x]) : ∃ ds : List Df, x = roDf ds := by
  obtain ⟨rows, h1, h2⟩ := h
  injection h1 with h1
  obtain ⟨xs, rfl⟩ := rows_map dfR fun row hr => def_of (d := 5) (h2 row hr)
  exact ⟨xs, h1⟩
theorem fth_of {l : List AV} (h : OfT T 10 53 l) : ∃ f : Fth, l = fthR f := by
  obtain ⟨p1, _, rfl, h1, _, _, rfl, ⟨r2, rfl, h2⟩, _, _, rfl, ⟨co, rfl⟩, _, _, rfl, ⟨nm, rfl⟩, _, _, rfl, ⟨r5, rfl, h5⟩, rfl⟩ := h
  obtain ⟨m, rfl⟩ := mch_ofd (d := 4) h1
  obtain ⟨ds, rfl⟩ := rows_map dfR fun row hr => def_of (d := 4) (h2 row hr)
  obtain ⟨its, rfl⟩ := rows_map itR fun row hr => item_of (d := 6) (h5 row hr)
  exact ⟨⟨m, ds, co, nm, its⟩, rfl⟩
end M6

/- FnExactDefsOK: the law returns true at every input, and its arguments read behind the call as they did. -/
set_option linter.unusedVariables false
set_option linter.unusedSimpArgs false
namespace Go.Proofs.YtkmadcdphnhciaaGreatDoor.FnExactDefsOK
open Go.ChangeShapes Go.WideShapes Go.ChangeAt Go.RowKit Go.Joins
open Go.Abs V1 M5 M6
theorem own : ownKnob Tryz.prog.godebug = none := by kernel_rfl
theorem laidOut : laidOutB Tryz.prog = true := by kernel_rfl
theorem tabs_met {W : World} (h : laidMetH Tryz.prog Rows.fnExactDefsOKRow.laid W) : Tabs Tryz.prog W none2 := by
  rw [MakeChecks.laidMetH_plain _ _ _ (by kernel_rfl)] at h
  obtain ⟨ps, hl, _⟩ := h
  have m0 : ("strings.asciiSpace", (Lib.tabData .u8 Lib.asciiSpaceTab : DataW Unit)) ∈ Rows.fnExactDefsOKRow.laid := List.mem_of_getElem? (i := 2) (by kernel_rfl)
  have t0 := tab_of_laid (t := 253) (e := 5) (n := 256) (g := 0) (by kernel_rfl) (by kernel_rfl) Tryz.underlying253 Tryz.underlying5 (by kernel_rfl) (by kernel_rfl) hl m0
  intro x hx g hg
  simp only [tabL, List.mem_cons, List.not_mem_nil, or_false] at hx
  subst hx
  exact ⟨tab_cells t0 hg, fun _ k => k⟩
set_option maxRecDepth 100000 in
theorem lifted (os : Os) (started : os.Started) (H : Type) (enc : TypeId × Value → H) :
    ReturnsInHanded {} Tryz.checked os 3 .any (fun w args => (Rows.fnExactDefsOKSpec.pre enc Tryz.prog Tryz.f3 [] false w args ∧ laidMetH Tryz.prog Rows.fnExactDefsOKRow.laid w) ∧ sizedMet enc Tryz.prog Tryz.f3 (OpenSpec.ofChange Rows.fnExactDefsOKSpec) false w args) (Rows.fnExactDefsOKSpec.post enc Tryz.prog Tryz.f3 false true false false) := by
  refine returnsInHanded_of_change_and (C := Tryz.checked) (X := fun w _ => laidMetH Tryz.prog Rows.fnExactDefsOKRow.laid w) (fun _ _ _ hh h => h.of_heap hh) own started (by kernel_rfl) Tryz.func3
    (ChangeSpec.witness_shaped (enc := enc) (C := Tryz.checked) (os := os) (X := fun w _ => laidMetH Tryz.prog Rows.fnExactDefsOKRow.laid w) false (World.laidAll Tryz.prog os Rows.fnExactDefsOKRow.laid) #[.agg #[.slice none 0 0, .slice none 0 0, .slice none 0 0, .slice none 0 0, .slice none 0 0, .int .i64 0, .int .i64 0, .string ⟨#[]⟩, .slice none 0 0, .slice none 0 0, .slice none 0 0, .int .i64 0, .slice none 0 0, .slice none 0 0, .int .i64 0, .int .i64 0], .slice none 0 0] 8 (World.laidAll_os _ _ _) (World.shaped_of_ZipB (by kernel_rfl) (by kernel_rfl)) (by kernel_rfl) (by kernel_rfl) (by kernel_rfl) (by rw [MakeChecks.laidMetH_plain _ _ _ (by kernel_rfl)]; exact laidMet_laidAll _ (by kernel_rfl) (by kernel_rfl))) ?_
  intro W base args ds gs before hval0 hW _ _ hL _
  have hval : ∀ (j : Nat) t v, Tryz.f3.params[j]? = some t → args[j]? = some v → Value.okWide Tryz.prog W .any base t v := hval0
  have hW' := hW
  obtain ⟨p, q, hA0, hV, rfl, hfz, hnd⟩ := hW
  have hA : DataW.TrodAll enc Tryz.prog W 0 (fun _ => true) true Tryz.f3.params.toList args.toList ds p := hA0
  rw [Tryz.params3] at hA hval
  obtain ⟨v0, vs0, d0, ds0, p0, q0, hargs0, rfl, rfl, h0, r0⟩ := trodAll_cons hA
  obtain ⟨v1, vs1, d1, ds1, p1, q1, hargs1, rfl, rfl, h1, r1⟩ := trodAll_cons r0
  obtain ⟨hnil, rfl, rfl⟩ := trodAll_nil r1
  obtain rfl : args = #[v0, v1] := by
    cases args
    simp_all
  obtain ⟨rfl, rfl⟩ := trodVars_none hV
  have k0 := h0
  have lt0 : ∀ x ∈ p0, x.block < W.heap.size := by obtain ⟨m, hm⟩ := k0; exact DataW.trod_lt m _ _ _ hm
  obtain ⟨l0, o0, a0⟩ := bridge_agg T_ok 9 (t := 32) (by kernel_rfl) rfl rfl (hval 0 32 v0 rfl rfl) h0
  obtain ⟨m0, rfl⟩ := M6.mch_of o0
  have k1 := h1
  have lt1 : ∀ x ∈ p1, x.block < W.heap.size := by obtain ⟨m, hm⟩ := k1; exact DataW.trod_lt m _ _ _ hm
  obtain ⟨l1, o1, a1⟩ := bridge_leaf T_ok 9 (t := 33) (by kernel_rfl) rfl rfl (hval 1 33 v1 rfl rfl) h1
  obtain ⟨ds0, rfl⟩ := M6.defs_of o1
  clear hA0 hval0
  have hcon := (M5.law m0 ds0).law W (tabs_met hL) [v0, v1] (parts_cons a0 (parts_cons a1 (parts_nil _ _ _)))
  refine hcon.mono fun e W' ⟨he, bel⟩ => ?_
  subst he
  exact ⟨_, rfl, _, _, _, [], _, [], hW', trodAll_mk1 (shut_bool Tryz.underlying4 _), (trodAll_cons_mk (Below.trod laidOut (by kernel_rfl) (of_decide_eq_true (by kernel_rfl)) k0 bel lt0) (trodAll_cons_mk (Below.trod laidOut (by kernel_rfl) (of_decide_eq_true (by kernel_rfl)) k1 bel lt1) trodAll_mk0)), rfl, bel.frame _, fun h => by cases h⟩
theorem kf0 : (Rows.fnExactDefsOKRow.wf (OpenSpec.ofChange Rows.fnExactDefsOKSpec)) = true := by kernel_rfl
theorem kf1 : (laidOutB Tryz.prog) = true := by kernel_rfl
theorem kf2 : (mapsRowed Tryz.prog) = true := by kernel_rfl
theorem kf3 : (Tryz.f3.params.all (Tryz.prog.readableRec ·)) = true := by kernel_rfl
theorem kf4 : (namedTie Tryz.prog Rows.fnExactDefsOKRow.named Rows.fnExactDefsOKSpec.vars) = true := by kernel_rfl
theorem kf5 : ((Rows.fnExactDefsOKRow.stops == [])) = true := by kernel_rfl
theorem kf6 : ((Tryz.prog.stops == [])) = true := by kernel_rfl
theorem kf7 : ((Rows.fnExactDefsOKRow.knobs == [])) = true := by kernel_rfl
theorem kf8 : ((Tryz.prog.stopKnobs == [])) = true := by kernel_rfl
theorem kf9 : ((Rows.fnExactDefsOKRow.inPlace == Tryz.prog.inPlace 3)) = true := by kernel_rfl
theorem kf10 : ((Rows.fnExactDefsOKRow.unfollowed == Tryz.prog.unfollowed 3)) = true := by kernel_rfl
theorem kf11 : ((Rows.fnExactDefsOKRow.recurses == Tryz.prog.recurses 3)) = true := by kernel_rfl
theorem kf12 : ((Rows.fnExactDefsOKRow.named == Tryz.prog.varsNamed 3)) = true := by kernel_rfl
theorem kf13 : ((Rows.fnExactDefsOKRow.maps == (Tryz.f3.params.toList ++ Rows.fnExactDefsOKSpec.plain.varTypes Tryz.prog).any (Tryz.prog.mapsRec ·))) = true := by kernel_rfl
theorem kf14 : ((Rows.fnExactDefsOKRow.ifaces == (Tryz.f3.params.toList ++ Rows.fnExactDefsOKSpec.plain.varTypes Tryz.prog).any (Tryz.prog.ifacesRec ·))) = true := by kernel_rfl
theorem kf15 : ((Rows.fnExactDefsOKRow.mapsOut == Tryz.prog.mapsAmong Tryz.f3.resultTypes.toList)) = true := by kernel_rfl
theorem kf16 : ((Rows.fnExactDefsOKRow.loops == (Tryz.f3.params.toList ++ Rows.fnExactDefsOKSpec.plain.varTypes Tryz.prog).any (Tryz.prog.loopsFrom ·))) = true := by kernel_rfl
theorem kf17 : ((Rows.fnExactDefsOKRow.wideKeys == (Tryz.f3.params.toList ++ Rows.fnExactDefsOKSpec.plain.varTypes Tryz.prog ++ Tryz.f3.resultTypes.toList).any (Tryz.prog.wideKeysFrom ·))) = true := by kernel_rfl
theorem kf18 : (Rows.fnExactDefsOKSpec.vars.all (Tryz.prog.varReadable ·)) = true := by kernel_rfl
theorem kf19 : (Tryz.f3.resultTypes.all (fun t => Tryz.prog.readableRec t && decide (t < Tryz.prog.types.size))) = true := by kernel_rfl
theorem kf20 : ((Rows.fnExactDefsOKRow.ifacesOut == Tryz.f3.resultTypes.toList.any (Tryz.prog.ifacesRec ·))) = true := by kernel_rfl
theorem kf21 : ((Rows.fnExactDefsOKRow.loopsOut == Tryz.f3.resultTypes.toList.any (Tryz.prog.loopsFrom ·))) = true := by kernel_rfl
theorem kf22 : ((Rows.fnExactDefsOKRow.plainKeys == Tryz.prog.plainKeys)) = true := by kernel_rfl
theorem kf23 : (Rows.fnExactDefsOKRow.shortTexts.isNone) = true := by kernel_rfl
theorem kf24 : (Tryz.prog.stopsHeard) = true := by kernel_rfl
theorem kf25 : (Tryz.prog.mayEnter) = true := by kernel_rfl
theorem kf26 : ((Rows.fnExactDefsOKRow.lifted == Tryz.prog.liftsFinal)) = true := by kernel_rfl
theorem kf27 : ((Tryz.prog.make == some Rows.fnExactDefsOKRow.make)) = true := by kernel_rfl
theorem kf28 : ((Rows.fnExactDefsOKRow.kinds == (if Rows.fnExactDefsOKRow.domain.isEmpty then [] else Tryz.f3.params.toList.map fun t => match Tryz.prog.underlying t with | some (.int k) => some k | _ => none))) = true := by kernel_rfl
theorem kf29 : ((Rows.fnExactDefsOKRow.pinned == Rows.fnExactDefsOKRow.pinnedBy)) = true := by kernel_rfl
theorem kf30 : ((Rows.fnExactDefsOKRow.veiled == (Tryz.f3.params.toList ++ Rows.fnExactDefsOKSpec.plain.varTypes Tryz.prog ++ Tryz.f3.resultTypes.toList).any (Tryz.prog.veiledRec ·))) = true := by kernel_rfl
theorem kf31 : (Rows.fnExactDefsOKRow.veiledFits Tryz.prog Tryz.f3.params.toList (Tryz.f3.params.toList ++ Rows.fnExactDefsOKSpec.plain.varTypes Tryz.prog ++ Tryz.f3.resultTypes.toList)) = true := by kernel_rfl
theorem and2 {a b : Bool} (h : a = true) (k : b = true) : (a && b) = true := by rw [h, k]; rfl
theorem closed : joinedFacts Tryz.prog 3 Tryz.f3 Rows.fnExactDefsOKSpec Rows.fnExactDefsOKRow = true := and2 (and2 (and2 (and2 (and2 (and2 (and2 (and2 (and2 (and2 (and2 (and2 (and2 (and2 (and2 (and2 (and2 (and2 (and2 (and2 (and2 (and2 (and2 (and2 (and2 (and2 (and2 (and2 (and2 (and2 (and2 kf0 kf1) kf2) kf3) kf4) kf5) kf6) kf7) kf8) kf9) kf10) kf11) kf12) kf13) kf14) kf15) kf16) kf17) kf18) kf19) kf20) kf21) kf22) kf23) kf24) kf25) kf26) kf27) kf28) kf29) kf30) kf31
theorem named : Tryz.prog.funcNamed "loop.example/g00787/laws.FnExactDefsOK" = some 3 := by kernel_rfl
theorem said : Rows.FnExactDefsOKSaid :=
  OpenClaim.holds_of_wide 3 Tryz.f3 rfl rfl rfl rfl rfl rfl rfl ⟨rfl, rfl, rfl, rfl, rfl⟩ rfl rfl rfl rfl rfl named Tryz.func3 closed
    (of_decide_eq_true (by kernel_rfl)) (by unfold Func.isWrapper; first | (rw [if_pos (by decide +kernel)]; kernel_rfl) | (rw [if_neg (by decide +kernel)]; exact ⟨rfl, rfl⟩))
    (fun os started H enc _ => lifted os started H enc)
theorem proved : Rows.FnExactDefsOKCardSaid :=
  Claim7.holds_tied_plain_at .later [] [.data, .listed, .data, .pinned] true (true, "94beeb9677ee3b3b67c44bb1e1e2cbaf125d0f01c03c31e0bc5a67f695f2047a") false
    said (fun _ h => by cases h) (by kernel_rfl) (fun _ h => by cases h) fnExactDefsOK_row_tie rfl ⟨rfl, rfl⟩ (by kernel_rfl) rfl
    (fun f fn hf hfn => by
      obtain rfl : f = 3 := Option.some.inj ((show Tryz.prog.funcNamed "loop.example/g00787/laws.FnExactDefsOK" = some 3 by kernel_rfl).symm.trans hf) |>.symm
      obtain rfl : fn = Tryz.f3 := (Option.some.inj (Tryz.func3.symm.trans hfn)).symm
      exact ⟨by kernel_rfl, fun j t ht => by
        rw [Tryz.params3] at ht
        have hm : t ∈ [32, 33] := by simpa using Array.mem_of_getElem? ht
        have hall : ([32, 33].all fun u => !Tryz.prog.wantsStandIn u) = true := by kernel_rfl
        exact (show Tryz.prog.wantsStandIn t = false by simpa using List.all_eq_true.1 hall t hm)⟩)
    (by kernel_rfl)
#print axioms proved
end Go.Proofs.YtkmadcdphnhciaaGreatDoor.FnExactDefsOK
