import Derived.Test.YtkmadcdphnhciaaGreatDoorDoA
import Derived.Test.YtkmadcdphnhciaaGreatDoorAbso
import Derived.Test.YtkmadcdphnhciaaGreatDoorAbs6
import Derived.Test.YtkmadcdphnhciaaGreatDoorSfA
import Derived.Test.YtkmadcdphnhciaaGreatDoorRows
import Derived.Test.YtkmadcdphnhciaaGreatDoorTie
import Derived.Test.YtkmadcdphnhciaaGreatDoorCards
import Derived.SevenTiedAt
import Derived.LaidMore
import Derived.LaidLaws
import Derived.Lay
import Derived.Test.YtkmadcdphnhciaaGreatDoorAbs8
/- Machines, definitions, Forths: what the arguments are. -/
set_option linter.unusedVariables false
set_option linter.unusedSimpArgs false
open Go Go.Abs Go.Proofs V1
namespace M6
theorem word_of {d : Nat} {l : List AV} (h : OfT T (d + 2) 129 l) : ∃ r : Wd, l = wdR r := by
  obtain ⟨_, _, rfl, ⟨s, rfl⟩, _, _, rfl, ⟨k, rfl⟩, _, _, rfl, ⟨n, rfl⟩, rfl⟩ := h
  exact ⟨⟨s, k, n⟩, rfl⟩
theorem item_of {d : Nat} {l : List AV} (h : OfT T (d + 2) 156 l) : ∃ r : Itm, l = itR r := by
  obtain ⟨_, _, rfl, ⟨k, rfl⟩, _, _, rfl, ⟨n, rfl⟩, rfl⟩ := h
  exact ⟨⟨k, n⟩, rfl⟩
theorem call_of {d : Nat} {l : List AV} (h : OfT T (d + 2) 143 l) : ∃ r : Cal, l = calR r := by
  obtain ⟨_, _, rfl, ⟨k, rfl⟩, _, _, rfl, ⟨n, rfl⟩, _, _, rfl, ⟨s, rfl⟩, _, _, rfl, ⟨t, rfl⟩, rfl⟩ := h
  exact ⟨⟨k, n, s, t⟩, rfl⟩
theorem deal_of {d : Nat} {l : List AV} (h : OfT T (d + 2) 183 l) : ∃ r : Deal, l = dealR r := by
  obtain ⟨_, _, rfl, ⟨k, rfl⟩, _, _, rfl, ⟨n, rfl⟩, _, _, rfl, ⟨s, rfl⟩, _, _, rfl, ⟨t, rfl⟩, rfl⟩ := h
  exact ⟨⟨k, n, s, t⟩, rfl⟩
theorem host_of {d : Nat} {l : List AV} (h : OfT T (d + 4) 29 l) : ∃ h : Hst, l = hstR h := by
  obtain ⟨_, _, rfl, ⟨r1, rfl, h1⟩, _, _, rfl, ⟨r2, rfl, h2⟩, _, _, rfl, ⟨r3, rfl, h3⟩, _, _, rfl, ⟨tk, rfl⟩, _, _, rfl, ⟨r5, rfl, h5⟩, rfl⟩ := h
  obtain ⟨gr, rfl⟩ := rows_map boolR h1
  obtain ⟨st, rfl⟩ := rows_map intR h2
  obtain ⟨q, rfl⟩ := rows_map intR h3
  obtain ⟨ds, rfl⟩ := rows_map dealR fun row hr => deal_of (d := d) (h5 row hr)
  exact ⟨⟨gr, st, q, tk, ds⟩, rfl⟩
theorem data_of {d : Nat} {l : List AV} (h : OfT T (d + 4) 25 l) : ∃ x : Dat, l = datR x := by
  obtain ⟨_, _, rfl, ⟨r1, rfl, h1⟩, _, _, rfl, ⟨r2, rfl, h2⟩, _, _, rfl, ⟨r3, rfl, h3⟩, _, _, rfl, ⟨he, rfl⟩, _, _, rfl, ⟨ba, rfl⟩, _, _, rfl, ⟨ou, rfl⟩, rfl⟩ := h
  obtain ⟨st, rfl⟩ := rows_map intR h1
  obtain ⟨bk, rfl⟩ := rows_map intR h2
  obtain ⟨ce, rfl⟩ := rows_map intR h3
  exact ⟨⟨st, bk, ce, he, ba, ou⟩, rfl⟩
theorem mch_ofd {d : Nat} {l : List AV} (h : OfT T (d + 5) 32 l) : ∃ m : Mch, l = mchR m := by
  obtain ⟨_, _, rfl, ⟨r1, rfl, h1⟩, _, _, rfl, ⟨r2, rfl, h2⟩, p3, _, rfl, h3, p4, _, rfl, h4, _, _, rfl, ⟨r5, rfl, h5⟩, _, _, rfl, ⟨ip, rfl⟩, _, _, rfl, ⟨fu, rfl⟩, rfl⟩ := h
  obtain ⟨da, rfl⟩ := data_of (d := d) h3
  obtain ⟨ho, rfl⟩ := host_of (d := d) h4
  obtain ⟨ws, rfl⟩ := rows_map wdR fun row hr => word_of (d := d + 1) (h1 row hr)
  obtain ⟨co, rfl⟩ := rows_map intR h2
  obtain ⟨ca, rfl⟩ := rows_map calR fun row hr => call_of (d := d + 1) (h5 row hr)
  exact ⟨⟨ws, co, da, ho, ca, ip, fu⟩, rfl⟩
theorem mch_of {l : List AV} (h : OfT T 10 32 l) : ∃ m : Mch, l = mchR m := mch_ofd (d := 5) h
theorem def_of {d : Nat} {l : List AV} (h : OfT T (d + 4) 84 l) : ∃ r : Df, l = dfR r := by
  obtain ⟨_, _, rfl, ⟨w, rfl⟩, _, _, rfl, ⟨r2, rfl, h2⟩, rfl⟩ := h
  obtain ⟨its, rfl⟩ := rows_map itR fun row hr => item_of (d := d) (h2 row hr)
  exact ⟨⟨w, its⟩, rfl⟩
theorem defs_of {x : AV} (h : OfT T 10 33 [x]) : ∃ ds : List Df, x = roDf ds := by
  obtain ⟨rows, h1, h2⟩ := h
  injection h1 with h1
  obtain ⟨xs, rfl⟩ := rows_map dfR fun row hr => def_of (d := 5) (h2 row hr)
  exact ⟨xs, h1⟩
theorem fth_of {l : List AV} (h : OfT T 10 53 l) : ∃ f : Fth, l = fthR f := by
  obtain ⟨p1, _, rfl, h1, _, _, rfl, ⟨r2, rfl, h2⟩, _, _, rfl, ⟨co, rfl⟩, _, _, rfl, ⟨nm, rfl⟩, _, _, rfl, ⟨r5, rfl, h5⟩, rfl⟩ := h
  obtain ⟨m, rfl⟩ := mch_ofd (d := 4) h1
  obtain ⟨ds, rfl⟩ := rows_map dfR fun row hr => def_of (d := 4) (h2 row hr)
  obtain ⟨its, rfl⟩ := rows_map itR fun row hr => item_of (d := 6) (h5 row hr)
  exact ⟨⟨m, ds, co, nm, its⟩, rfl⟩
end M6

/- SameForth: the law. -/
set_option linter.unusedVariables false
set_option linter.unusedSimpArgs false
set_option maxRecDepth 100000
open Go Go.Abs Go.Proofs V1 H1 K1 K2 K3 K4 I1 I2 I3 I4 I5 I6 I7 I8 I9 I10 I11 M1 M2 M3 M4 M7 Q1 Q2
namespace Q3




set_option maxHeartbeats 40000000 in
theorem law (f g : Fth) : Con Tryz.prog 5 [fthV f, fthV g] (undefs [fthV f, fthV g]) (.bool true) := by
  refine Con.evF 45 T_ok mix Tryz.func5 rfl rfl rfl rfl [.tmp 4] rfl fun ⟨hm0, hm1, _⟩ => ?_
  have lm := fth_facts hm0
  have lg := fth_facts hm1
  have ks := c18 f 1048576 (by omega) (by omega)
  by_cases hn : szFth f 1048576 < 0
  · have hb : decide (szFth f 1048576 < 0) = true := by simpa using hn
    conv => whnf
    iterate 23 (apply rq_s rfl;conv=>whnf)
    (apply lend_s;conv=>whnf)
    iterate 12 (apply rows_s rfl;conv=>whnf)
    (refine call_s (ks ..) ?_;conv=>whnf)
    (refine fac_s (fun hf => ?_);conv=>whnf)
    (apply br_t (by assumption);conv=>whnf)
    (apply rq_s rfl;conv=>whnf)
    (refine sh_s ?_; (rfl))
  have hb : decide (szFth f 1048576 < 0) = false := by simpa using hn
  obtain ⟨l1, sm⟩ := smallF_of (by omega) (by omega) lm (show 0 ≤ szFth f 1048576 by omega)
  generalize szFth f 1048576 = z at ks hb hn l1
  have ks2 := c18 g z (by omega) (by omega)
  by_cases hn2 : szFth g z < 0
  · have hb2 : decide (szFth g z < 0) = true := by simpa using hn2
    conv => whnf
    iterate 23 (apply rq_s rfl;conv=>whnf)
    (apply lend_s;conv=>whnf)
    iterate 12 (apply rows_s rfl;conv=>whnf)
    (refine call_s (ks ..) ?_;conv=>whnf)
    (refine fac_s (fun hf => ?_);conv=>whnf)
    (apply br_f (by assumption);conv=>whnf)
    iterate 21 (apply rq_s rfl;conv=>whnf)
    (apply lend_s;conv=>whnf)
    iterate 12 (apply rows_s rfl;conv=>whnf)
    (refine call_s (ks2 ..) ?_;conv=>whnf)
    (refine fac_s (fun hf => ?_);conv=>whnf)
    (apply br_t (by assumption);conv=>whnf)
    (apply rq_s rfl;conv=>whnf)
    (refine sh_s ?_; (rfl))
  have hb2 : decide (szFth g z < 0) = false := by simpa using hn2
  obtain ⟨l2, sg⟩ := smallF_of (by omega) (by omega) lg (show 0 ≤ szFth g z by omega)
  generalize szFth g z = z2 at ks2 hb2 hn2 l2
  have k1 := c24 f g
  have k2 := c23 f g
  generalize (fthOK f && (fthOK g && decide (f = g))) = r at k1 k2
  conv => whnf
  iterate 23 (apply rq_s rfl;conv=>whnf)
  (apply lend_s;conv=>whnf)
  iterate 12 (apply rows_s rfl;conv=>whnf)
  (refine call_s (ks ..) ?_;conv=>whnf)
  (refine fac_s (fun hf => ?_);conv=>whnf)
  (apply br_f (by assumption);conv=>whnf)
  iterate 21 (apply rq_s rfl;conv=>whnf)
  (apply lend_s;conv=>whnf)
  iterate 12 (apply rows_s rfl;conv=>whnf)
  (refine call_s (ks2 ..) ?_;conv=>whnf)
  (refine fac_s (fun hf => ?_);conv=>whnf)
  (apply br_f (by assumption);conv=>whnf)
  iterate 2 (refine ChkS.mk (by kernel_rfl) ?_;conv=>whnf)
  iterate 20 (apply rq_s rfl;conv=>whnf)
  iterate 12 (apply rows_s rfl;conv=>whnf)
  (refine call_s (c20 f sm ..) ?_;conv=>whnf)
  iterate 2 (refine ChkS.mk (by kernel_rfl) ?_;conv=>whnf)
  iterate 20 (apply rq_s rfl;conv=>whnf)
  iterate 12 (apply rows_s rfl;conv=>whnf)
  (refine call_s (c20 g sg ..) ?_;conv=>whnf)
  (refine ChkS.mk (by kernel_rfl) ?_;conv=>whnf)
  (apply rq_s (by simp only [lnm]; done);conv=>whnf)
  (apply rq_s rfl;conv=>whnf)
  (apply rq_s (by simp only [lnm]; done);conv=>whnf)
  (apply rq_s rfl;conv=>whnf)
  (apply rq_s (by simp only [lnm]; done);conv=>whnf)
  (apply rq_s rfl;conv=>whnf)
  (apply rq_s (by simp only [lnm]; done);conv=>whnf)
  (apply rq_s rfl;conv=>whnf)
  (apply rq_s (by simp only [lnm]; done);conv=>whnf)
  iterate 4 (apply rq_s rfl;conv=>whnf)
  (apply rq_s (by simp only [lnm]; done);conv=>whnf)
  (apply rq_s rfl;conv=>whnf)
  (apply rq_s (by simp only [lnm]; done);conv=>whnf)
  (apply rq_s rfl;conv=>whnf)
  (apply rq_s (by simp only [lnm]; done);conv=>whnf)
  iterate 2 (apply rq_s rfl;conv=>whnf)
  (apply rq_s (by simp only [lnm]; done);conv=>whnf)
  (apply rq_s rfl;conv=>whnf)
  (apply rq_s (by simp only [lnm]; done);conv=>whnf)
  iterate 3 (apply rq_s rfl;conv=>whnf)
  (apply rq_s (by simp only [lnm]; done);conv=>whnf)
  iterate 3 (apply rq_s rfl;conv=>whnf)
  (apply rq_s (by simp only [lnm]; done);conv=>whnf)
  (apply rq_s rfl;conv=>whnf)
  (apply rq_s (by simp only [lnm]; done);conv=>whnf)
  (apply rq_s rfl;conv=>whnf)
  (apply rq_s (by simp only [lnm]; done);conv=>whnf)
  (apply rq_s rfl;conv=>whnf)
  (apply rq_s (by simp only [lnm]; done);conv=>whnf)
  (apply rq_s rfl;conv=>whnf)
  (apply rq_s (by simp only [lnm]; done);conv=>whnf)
  (apply rq_s rfl;conv=>whnf)
  (apply rq_s (by simp only [lnm]; done);conv=>whnf)
  iterate 4 (apply rq_s rfl;conv=>whnf)
  (apply rq_s (by simp only [lnm]; done);conv=>whnf)
  (apply rq_s rfl;conv=>whnf)
  (apply rq_s (by simp only [lnm]; done);conv=>whnf)
  (apply rq_s rfl;conv=>whnf)
  (apply rq_s (by simp only [lnm]; done);conv=>whnf)
  iterate 2 (apply rq_s rfl;conv=>whnf)
  (apply rq_s (by simp only [lnm]; done);conv=>whnf)
  (apply rq_s rfl;conv=>whnf)
  (apply rq_s (by simp only [lnm]; done);conv=>whnf)
  iterate 3 (apply rq_s rfl;conv=>whnf)
  (apply rq_s (by simp only [lnm]; done);conv=>whnf)
  iterate 3 (apply rq_s rfl;conv=>whnf)
  (apply rq_s (by simp only [lnm]; done);conv=>whnf)
  (apply rq_s rfl;conv=>whnf)
  iterate 24 (refine rows_s (by ((refine sub_all ?_; simp [List.length_map]; done))) ?_;conv=>whnf)
  (refine call_s (k2 ..) ?_;conv=>whnf)
  iterate 2 (refine ChkS.mk (by kernel_rfl) ?_;conv=>whnf)
  iterate 38 (refine fac_s (fun hf => ?_);conv=>whnf)
  iterate 20 (apply rq_s rfl;conv=>whnf)
  (apply lend_s;conv=>whnf)
  iterate 12 (apply rows_s rfl;conv=>whnf)
  (refine call_s (c20 f sm ..) ?_;conv=>whnf)
  iterate 19 (refine fac_s (fun hf => ?_);conv=>whnf)
  iterate 20 (apply rq_s rfl;conv=>whnf)
  (apply lend_s;conv=>whnf)
  iterate 12 (apply rows_s rfl;conv=>whnf)
  (refine call_s (c20 g sg ..) ?_;conv=>whnf)
  iterate 19 (refine fac_s (fun hf => ?_);conv=>whnf)
  (apply rq_s (by simp only [lnm]; done);conv=>whnf)
  (apply rq_s rfl;conv=>whnf)
  (apply rq_s (by simp only [lnm]; done);conv=>whnf)
  (apply rq_s rfl;conv=>whnf)
  (apply rq_s (by simp only [lnm]; done);conv=>whnf)
  (apply rq_s rfl;conv=>whnf)
  (apply rq_s (by simp only [lnm]; done);conv=>whnf)
  (apply rq_s rfl;conv=>whnf)
  (apply rq_s (by simp only [lnm]; done);conv=>whnf)
  iterate 4 (apply rq_s rfl;conv=>whnf)
  (apply rq_s (by simp only [lnm]; done);conv=>whnf)
  (apply rq_s rfl;conv=>whnf)
  (apply rq_s (by simp only [lnm]; done);conv=>whnf)
  (apply rq_s rfl;conv=>whnf)
  (apply rq_s (by simp only [lnm]; done);conv=>whnf)
  iterate 2 (apply rq_s rfl;conv=>whnf)
  (apply rq_s (by simp only [lnm]; done);conv=>whnf)
  (apply rq_s rfl;conv=>whnf)
  (apply rq_s (by simp only [lnm]; done);conv=>whnf)
  iterate 3 (apply rq_s rfl;conv=>whnf)
  (apply rq_s (by simp only [lnm]; done);conv=>whnf)
  iterate 3 (apply rq_s rfl;conv=>whnf)
  (apply rq_s (by simp only [lnm]; done);conv=>whnf)
  (apply rq_s rfl;conv=>whnf)
  (apply rq_s (by simp only [lnm]; done);conv=>whnf)
  (apply rq_s rfl;conv=>whnf)
  (apply rq_s (by simp only [lnm]; done);conv=>whnf)
  (apply rq_s rfl;conv=>whnf)
  (apply rq_s (by simp only [lnm]; done);conv=>whnf)
  (apply rq_s rfl;conv=>whnf)
  (apply rq_s (by simp only [lnm]; done);conv=>whnf)
  (apply rq_s rfl;conv=>whnf)
  (apply rq_s (by simp only [lnm]; done);conv=>whnf)
  iterate 4 (apply rq_s rfl;conv=>whnf)
  (apply rq_s (by simp only [lnm]; done);conv=>whnf)
  (apply rq_s rfl;conv=>whnf)
  (apply rq_s (by simp only [lnm]; done);conv=>whnf)
  (apply rq_s rfl;conv=>whnf)
  (apply rq_s (by simp only [lnm]; done);conv=>whnf)
  iterate 2 (apply rq_s rfl;conv=>whnf)
  (apply rq_s (by simp only [lnm]; done);conv=>whnf)
  (apply rq_s rfl;conv=>whnf)
  (apply rq_s (by simp only [lnm]; done);conv=>whnf)
  iterate 3 (apply rq_s rfl;conv=>whnf)
  (apply rq_s (by simp only [lnm]; done);conv=>whnf)
  iterate 3 (apply rq_s rfl;conv=>whnf)
  (apply rq_s (by simp only [lnm]; done);conv=>whnf)
  (apply rq_s rfl;conv=>whnf)
  (apply lend_s;conv=>whnf)
  iterate 24 (refine rows_s (by ((refine sub_all ?_; simp [List.length_map]; done))) ?_;conv=>whnf)
  (refine call_s (k1 ..) ?_;conv=>whnf)
  (focus (apply br_f (by (simp; done));conv=>whnf))
  iterate 3 (refine ChkS.mk (by kernel_rfl) ?_;conv=>whnf)
  iterate 20 (apply rq_s rfl;conv=>whnf)
  iterate 12 (apply rows_s rfl;conv=>whnf)
  (refine call_s (c20 f sm ..) ?_;conv=>whnf)
  (refine ChkS.mk (by kernel_rfl) ?_;conv=>whnf)
  (apply rq_s (by simp only [lnm]; done);conv=>whnf)
  (apply rq_s rfl;conv=>whnf)
  (apply rq_s (by simp only [lnm]; done);conv=>whnf)
  (apply rq_s rfl;conv=>whnf)
  (apply rq_s (by simp only [lnm]; done);conv=>whnf)
  (apply rq_s rfl;conv=>whnf)
  (apply rq_s (by simp only [lnm]; done);conv=>whnf)
  (apply rq_s rfl;conv=>whnf)
  (apply rq_s (by simp only [lnm]; done);conv=>whnf)
  iterate 4 (apply rq_s rfl;conv=>whnf)
  (apply rq_s (by simp only [lnm]; done);conv=>whnf)
  (apply rq_s rfl;conv=>whnf)
  (apply rq_s (by simp only [lnm]; done);conv=>whnf)
  (apply rq_s rfl;conv=>whnf)
  (apply rq_s (by simp only [lnm]; done);conv=>whnf)
  iterate 2 (apply rq_s rfl;conv=>whnf)
  (apply rq_s (by simp only [lnm]; done);conv=>whnf)
  (apply rq_s rfl;conv=>whnf)
  (apply rq_s (by simp only [lnm]; done);conv=>whnf)
  iterate 3 (apply rq_s rfl;conv=>whnf)
  (apply rq_s (by simp only [lnm]; done);conv=>whnf)
  iterate 3 (apply rq_s rfl;conv=>whnf)
  (apply rq_s (by simp only [lnm]; done);conv=>whnf)
  (apply rq_s rfl;conv=>whnf)
  (apply rq_s (by simp only [lnm]; done);conv=>whnf)
  (apply rq_s rfl;conv=>whnf)
  (apply rq_s (by simp only [lnm]; done);conv=>whnf)
  (apply rq_s rfl;conv=>whnf)
  (apply rq_s (by simp only [lnm]; done);conv=>whnf)
  (apply rq_s rfl;conv=>whnf)
  (apply rq_s (by simp only [lnm]; done);conv=>whnf)
  (apply rq_s rfl;conv=>whnf)
  (apply rq_s (by simp only [lnm]; done);conv=>whnf)
  iterate 4 (apply rq_s rfl;conv=>whnf)
  (apply rq_s (by simp only [lnm]; done);conv=>whnf)
  (apply rq_s rfl;conv=>whnf)
  (apply rq_s (by simp only [lnm]; done);conv=>whnf)
  (apply rq_s rfl;conv=>whnf)
  (apply rq_s (by simp only [lnm]; done);conv=>whnf)
  iterate 2 (apply rq_s rfl;conv=>whnf)
  (apply rq_s (by simp only [lnm]; done);conv=>whnf)
  (apply rq_s rfl;conv=>whnf)
  (apply rq_s (by simp only [lnm]; done);conv=>whnf)
  iterate 3 (apply rq_s rfl;conv=>whnf)
  (apply rq_s (by simp only [lnm]; done);conv=>whnf)
  iterate 3 (apply rq_s rfl;conv=>whnf)
  (apply rq_s (by simp only [lnm]; done);conv=>whnf)
  (apply rq_s rfl;conv=>whnf)
  iterate 24 (refine rows_s (by ((refine sub_all ?_; simp [List.length_map]; done))) ?_;conv=>whnf)
  (refine call_s (eqF f ..) ?_;conv=>whnf)
  iterate 2 (refine ChkS.mk (by kernel_rfl) ?_;conv=>whnf)
  iterate 19 (refine fac_s (fun hf => ?_);conv=>whnf)
  (apply br_f rfl;conv=>whnf)
  iterate 3 (refine ChkS.mk (by kernel_rfl) ?_;conv=>whnf)
  iterate 20 (apply rq_s rfl;conv=>whnf)
  iterate 12 (apply rows_s rfl;conv=>whnf)
  (refine call_s (c20 g sg ..) ?_;conv=>whnf)
  (refine ChkS.mk (by kernel_rfl) ?_;conv=>whnf)
  (apply rq_s (by simp only [lnm]; done);conv=>whnf)
  (apply rq_s rfl;conv=>whnf)
  (apply rq_s (by simp only [lnm]; done);conv=>whnf)
  (apply rq_s rfl;conv=>whnf)
  (apply rq_s (by simp only [lnm]; done);conv=>whnf)
  (apply rq_s rfl;conv=>whnf)
  (apply rq_s (by simp only [lnm]; done);conv=>whnf)
  (apply rq_s rfl;conv=>whnf)
  (apply rq_s (by simp only [lnm]; done);conv=>whnf)
  iterate 4 (apply rq_s rfl;conv=>whnf)
  (apply rq_s (by simp only [lnm]; done);conv=>whnf)
  (apply rq_s rfl;conv=>whnf)
  (apply rq_s (by simp only [lnm]; done);conv=>whnf)
  (apply rq_s rfl;conv=>whnf)
  (apply rq_s (by simp only [lnm]; done);conv=>whnf)
  iterate 2 (apply rq_s rfl;conv=>whnf)
  (apply rq_s (by simp only [lnm]; done);conv=>whnf)
  (apply rq_s rfl;conv=>whnf)
  (apply rq_s (by simp only [lnm]; done);conv=>whnf)
  iterate 3 (apply rq_s rfl;conv=>whnf)
  (apply rq_s (by simp only [lnm]; done);conv=>whnf)
  iterate 3 (apply rq_s rfl;conv=>whnf)
  (apply rq_s (by simp only [lnm]; done);conv=>whnf)
  (apply rq_s rfl;conv=>whnf)
  (apply rq_s (by simp only [lnm]; done);conv=>whnf)
  (apply rq_s rfl;conv=>whnf)
  (apply rq_s (by simp only [lnm]; done);conv=>whnf)
  (apply rq_s rfl;conv=>whnf)
  (apply rq_s (by simp only [lnm]; done);conv=>whnf)
  (apply rq_s rfl;conv=>whnf)
  (apply rq_s (by simp only [lnm]; done);conv=>whnf)
  (apply rq_s rfl;conv=>whnf)
  (apply rq_s (by simp only [lnm]; done);conv=>whnf)
  iterate 4 (apply rq_s rfl;conv=>whnf)
  (apply rq_s (by simp only [lnm]; done);conv=>whnf)
  (apply rq_s rfl;conv=>whnf)
  (apply rq_s (by simp only [lnm]; done);conv=>whnf)
  (apply rq_s rfl;conv=>whnf)
  (apply rq_s (by simp only [lnm]; done);conv=>whnf)
  iterate 2 (apply rq_s rfl;conv=>whnf)
  (apply rq_s (by simp only [lnm]; done);conv=>whnf)
  (apply rq_s rfl;conv=>whnf)
  (apply rq_s (by simp only [lnm]; done);conv=>whnf)
  iterate 3 (apply rq_s rfl;conv=>whnf)
  (apply rq_s (by simp only [lnm]; done);conv=>whnf)
  iterate 3 (apply rq_s rfl;conv=>whnf)
  (apply rq_s (by simp only [lnm]; done);conv=>whnf)
  (apply rq_s rfl;conv=>whnf)
  iterate 24 (refine rows_s (by ((refine sub_all ?_; simp [List.length_map]; done))) ?_;conv=>whnf)
  (refine call_s (eqF g ..) ?_;conv=>whnf)
  iterate 2 (refine ChkS.mk (by kernel_rfl) ?_;conv=>whnf)
  iterate 19 (refine fac_s (fun hf => ?_);conv=>whnf)
  (apply br_f rfl;conv=>whnf)
  (apply rq_s rfl;conv=>whnf)
  (refine sh_s ?_; (rfl))
end Q3

/- FnExactSameForth: the law returns true at every input, and its arguments read behind the call as they did. -/
set_option linter.unusedVariables false
set_option linter.unusedSimpArgs false
namespace Go.Proofs.YtkmadcdphnhciaaGreatDoor.FnExactSameForth
open Go.ChangeShapes Go.WideShapes Go.ChangeAt Go.RowKit Go.Joins
open Go.Abs V1 Q3 M6
theorem own : ownKnob Tryz.prog.godebug = none := by kernel_rfl
theorem laidOut : laidOutB Tryz.prog = true := by kernel_rfl
theorem tabs_met {W : World} (h : laidMetH Tryz.prog Rows.fnExactSameForthRow.laid W) : Tabs Tryz.prog W none2 := by
  rw [MakeChecks.laidMetH_plain _ _ _ (by kernel_rfl)] at h
  obtain ⟨ps, hl, _⟩ := h
  have m0 : ("strings.asciiSpace", (Lib.tabData .u8 Lib.asciiSpaceTab : DataW Unit)) ∈ Rows.fnExactSameForthRow.laid := List.mem_of_getElem? (i := 2) (by kernel_rfl)
  have t0 := tab_of_laid (t := 253) (e := 5) (n := 256) (g := 0) (by kernel_rfl) (by kernel_rfl) Tryz.underlying253 Tryz.underlying5 (by kernel_rfl) (by kernel_rfl) hl m0
  intro x hx g hg
  simp only [tabL, List.mem_cons, List.not_mem_nil, or_false] at hx
  subst hx
  exact ⟨tab_cells t0 hg, fun _ k => k⟩
set_option maxRecDepth 100000 in
theorem lifted (os : Os) (started : os.Started) (H : Type) (enc : TypeId × Value → H) :
    ReturnsInHanded {} Tryz.checked os 5 .any (fun w args => (Rows.fnExactSameForthSpec.pre enc Tryz.prog Tryz.f5 [] false w args ∧ laidMetH Tryz.prog Rows.fnExactSameForthRow.laid w) ∧ sizedMet enc Tryz.prog Tryz.f5 (OpenSpec.ofChange Rows.fnExactSameForthSpec) false w args) (Rows.fnExactSameForthSpec.post enc Tryz.prog Tryz.f5 false true false false) := by
  refine returnsInHanded_of_change_and (C := Tryz.checked) (X := fun w _ => laidMetH Tryz.prog Rows.fnExactSameForthRow.laid w) (fun _ _ _ hh h => h.of_heap hh) own started (by kernel_rfl) Tryz.func5
    (ChangeSpec.witness_shaped (enc := enc) (C := Tryz.checked) (os := os) (X := fun w _ => laidMetH Tryz.prog Rows.fnExactSameForthRow.laid w) false (World.laidAll Tryz.prog os Rows.fnExactSameForthRow.laid) #[.agg #[.slice none 0 0, .slice none 0 0, .slice none 0 0, .slice none 0 0, .slice none 0 0, .int .i64 0, .int .i64 0, .string ⟨#[]⟩, .slice none 0 0, .slice none 0 0, .slice none 0 0, .int .i64 0, .slice none 0 0, .slice none 0 0, .int .i64 0, .int .i64 0, .slice none 0 0, .bool false, .string ⟨#[]⟩, .slice none 0 0], .agg #[.slice none 0 0, .slice none 0 0, .slice none 0 0, .slice none 0 0, .slice none 0 0, .int .i64 0, .int .i64 0, .string ⟨#[]⟩, .slice none 0 0, .slice none 0 0, .slice none 0 0, .int .i64 0, .slice none 0 0, .slice none 0 0, .int .i64 0, .int .i64 0, .slice none 0 0, .bool false, .string ⟨#[]⟩, .slice none 0 0]] 8 (World.laidAll_os _ _ _) (World.shaped_of_ZipB (by kernel_rfl) (by kernel_rfl)) (by kernel_rfl) (by kernel_rfl) (by kernel_rfl) (by rw [MakeChecks.laidMetH_plain _ _ _ (by kernel_rfl)]; exact laidMet_laidAll _ (by kernel_rfl) (by kernel_rfl))) ?_
  intro W base args ds gs before hval0 hW _ _ hL _
  have hval : ∀ (j : Nat) t v, Tryz.f5.params[j]? = some t → args[j]? = some v → Value.okWide Tryz.prog W .any base t v := hval0
  have hW' := hW
  obtain ⟨p, q, hA0, hV, rfl, hfz, hnd⟩ := hW
  have hA : DataW.TrodAll enc Tryz.prog W 0 (fun _ => true) true Tryz.f5.params.toList args.toList ds p := hA0
  rw [Tryz.params5] at hA hval
  obtain ⟨v0, vs0, d0, ds0, p0, q0, hargs0, rfl, rfl, h0, r0⟩ := trodAll_cons hA
  obtain ⟨v1, vs1, d1, ds1, p1, q1, hargs1, rfl, rfl, h1, r1⟩ := trodAll_cons r0
  obtain ⟨hnil, rfl, rfl⟩ := trodAll_nil r1
  obtain rfl : args = #[v0, v1] := by
    cases args
    simp_all
  obtain ⟨rfl, rfl⟩ := trodVars_none hV
  have k0 := h0
  have lt0 : ∀ x ∈ p0, x.block < W.heap.size := by obtain ⟨m, hm⟩ := k0; exact DataW.trod_lt m _ _ _ hm
  obtain ⟨l0, o0, a0⟩ := bridge_agg T_ok 9 (t := 53) (by kernel_rfl) rfl rfl (hval 0 53 v0 rfl rfl) h0
  obtain ⟨f0, rfl⟩ := M6.fth_of o0
  have k1 := h1
  have lt1 : ∀ x ∈ p1, x.block < W.heap.size := by obtain ⟨m, hm⟩ := k1; exact DataW.trod_lt m _ _ _ hm
  obtain ⟨l1, o1, a1⟩ := bridge_agg T_ok 9 (t := 53) (by kernel_rfl) rfl rfl (hval 1 53 v1 rfl rfl) h1
  obtain ⟨f1, rfl⟩ := M6.fth_of o1
  clear hA0 hval0
  have hcon := (Q3.law f0 f1).law W (tabs_met hL) [v0, v1] (parts_cons a0 (parts_cons a1 (parts_nil _ _ _)))
  refine hcon.mono fun e W' ⟨he, bel⟩ => ?_
  subst he
  exact ⟨_, rfl, _, _, _, [], _, [], hW', trodAll_mk1 (shut_bool Tryz.underlying4 _), (trodAll_cons_mk (Below.trod laidOut (by kernel_rfl) (of_decide_eq_true (by kernel_rfl)) k0 bel lt0) (trodAll_cons_mk (Below.trod laidOut (by kernel_rfl) (of_decide_eq_true (by kernel_rfl)) k1 bel lt1) trodAll_mk0)), rfl, bel.frame _, fun h => by cases h⟩
theorem kf0 : (Rows.fnExactSameForthRow.wf (OpenSpec.ofChange Rows.fnExactSameForthSpec)) = true := by kernel_rfl
theorem kf1 : (laidOutB Tryz.prog) = true := by kernel_rfl
theorem kf2 : (mapsRowed Tryz.prog) = true := by kernel_rfl
theorem kf3 : (Tryz.f5.params.all (Tryz.prog.readableRec ·)) = true := by kernel_rfl
theorem kf4 : (namedTie Tryz.prog Rows.fnExactSameForthRow.named Rows.fnExactSameForthSpec.vars) = true := by kernel_rfl
theorem kf5 : ((Rows.fnExactSameForthRow.stops == [])) = true := by kernel_rfl
theorem kf6 : ((Tryz.prog.stops == [])) = true := by kernel_rfl
theorem kf7 : ((Rows.fnExactSameForthRow.knobs == [])) = true := by kernel_rfl
theorem kf8 : ((Tryz.prog.stopKnobs == [])) = true := by kernel_rfl
theorem kf9 : ((Rows.fnExactSameForthRow.inPlace == Tryz.prog.inPlace 5)) = true := by kernel_rfl
theorem kf10 : ((Rows.fnExactSameForthRow.unfollowed == Tryz.prog.unfollowed 5)) = true := by kernel_rfl
theorem kf11 : ((Rows.fnExactSameForthRow.recurses == Tryz.prog.recurses 5)) = true := by kernel_rfl
theorem kf12 : ((Rows.fnExactSameForthRow.named == Tryz.prog.varsNamed 5)) = true := by kernel_rfl
theorem kf13 : ((Rows.fnExactSameForthRow.maps == (Tryz.f5.params.toList ++ Rows.fnExactSameForthSpec.plain.varTypes Tryz.prog).any (Tryz.prog.mapsRec ·))) = true := by kernel_rfl
theorem kf14 : ((Rows.fnExactSameForthRow.ifaces == (Tryz.f5.params.toList ++ Rows.fnExactSameForthSpec.plain.varTypes Tryz.prog).any (Tryz.prog.ifacesRec ·))) = true := by kernel_rfl
theorem kf15 : ((Rows.fnExactSameForthRow.mapsOut == Tryz.prog.mapsAmong Tryz.f5.resultTypes.toList)) = true := by kernel_rfl
theorem kf16 : ((Rows.fnExactSameForthRow.loops == (Tryz.f5.params.toList ++ Rows.fnExactSameForthSpec.plain.varTypes Tryz.prog).any (Tryz.prog.loopsFrom ·))) = true := by kernel_rfl
theorem kf17 : ((Rows.fnExactSameForthRow.wideKeys == (Tryz.f5.params.toList ++ Rows.fnExactSameForthSpec.plain.varTypes Tryz.prog ++ Tryz.f5.resultTypes.toList).any (Tryz.prog.wideKeysFrom ·))) = true := by kernel_rfl
theorem kf18 : (Rows.fnExactSameForthSpec.vars.all (Tryz.prog.varReadable ·)) = true := by kernel_rfl
theorem kf19 : (Tryz.f5.resultTypes.all (fun t => Tryz.prog.readableRec t && decide (t < Tryz.prog.types.size))) = true := by kernel_rfl
theorem kf20 : ((Rows.fnExactSameForthRow.ifacesOut == Tryz.f5.resultTypes.toList.any (Tryz.prog.ifacesRec ·))) = true := by kernel_rfl
theorem kf21 : ((Rows.fnExactSameForthRow.loopsOut == Tryz.f5.resultTypes.toList.any (Tryz.prog.loopsFrom ·))) = true := by kernel_rfl
theorem kf22 : ((Rows.fnExactSameForthRow.plainKeys == Tryz.prog.plainKeys)) = true := by kernel_rfl
theorem kf23 : (Rows.fnExactSameForthRow.shortTexts.isNone) = true := by kernel_rfl
theorem kf24 : (Tryz.prog.stopsHeard) = true := by kernel_rfl
theorem kf25 : (Tryz.prog.mayEnter) = true := by kernel_rfl
theorem kf26 : ((Rows.fnExactSameForthRow.lifted == Tryz.prog.liftsFinal)) = true := by kernel_rfl
theorem kf27 : ((Tryz.prog.make == some Rows.fnExactSameForthRow.make)) = true := by kernel_rfl
theorem kf28 : ((Rows.fnExactSameForthRow.kinds == (if Rows.fnExactSameForthRow.domain.isEmpty then [] else Tryz.f5.params.toList.map fun t => match Tryz.prog.underlying t with | some (.int k) => some k | _ => none))) = true := by kernel_rfl
theorem kf29 : ((Rows.fnExactSameForthRow.pinned == Rows.fnExactSameForthRow.pinnedBy)) = true := by kernel_rfl
theorem kf30 : ((Rows.fnExactSameForthRow.veiled == (Tryz.f5.params.toList ++ Rows.fnExactSameForthSpec.plain.varTypes Tryz.prog ++ Tryz.f5.resultTypes.toList).any (Tryz.prog.veiledRec ·))) = true := by kernel_rfl
theorem kf31 : (Rows.fnExactSameForthRow.veiledFits Tryz.prog Tryz.f5.params.toList (Tryz.f5.params.toList ++ Rows.fnExactSameForthSpec.plain.varTypes Tryz.prog ++ Tryz.f5.resultTypes.toList)) = true := by kernel_rfl
theorem and2 {a b : Bool} (h : a = true) (k : b = true) : (a && b) = true := by rw [h, k]; rfl
theorem closed : joinedFacts Tryz.prog 5 Tryz.f5 Rows.fnExactSameForthSpec Rows.fnExactSameForthRow = true := and2 (and2 (and2 (and2 (and2 (and2 (and2 (and2 (and2 (and2 (and2 (and2 (and2 (and2 (and2 (and2 (and2 (and2 (and2 (and2 (and2 (and2 (and2 (and2 (and2 (and2 (and2 (and2 (and2 (and2 (and2 kf0 kf1) kf2) kf3) kf4) kf5) kf6) kf7) kf8) kf9) kf10) kf11) kf12) kf13) kf14) kf15) kf16) kf17) kf18) kf19) kf20) kf21) kf22) kf23) kf24) kf25) kf26) kf27) kf28) kf29) kf30) kf31
theorem named : Tryz.prog.funcNamed "loop.example/g00787/laws.FnExactSameForth" = some 5 := by kernel_rfl
theorem said : Rows.FnExactSameForthSaid :=
  OpenClaim.holds_of_wide 5 Tryz.f5 rfl rfl rfl rfl rfl rfl rfl ⟨rfl, rfl, rfl, rfl, rfl⟩ rfl rfl rfl rfl rfl named Tryz.func5 closed
    (of_decide_eq_true (by kernel_rfl)) (by unfold Func.isWrapper; first | (rw [if_pos (by decide +kernel)]; kernel_rfl) | (rw [if_neg (by decide +kernel)]; exact ⟨rfl, rfl⟩))
    (fun os started H enc _ => lifted os started H enc)
theorem proved : Rows.FnExactSameForthCardSaid :=
  Claim7.holds_tied_plain_at .later [] [.data, .listed, .data, .pinned] true (true, "94beeb9677ee3b3b67c44bb1e1e2cbaf125d0f01c03c31e0bc5a67f695f2047a") false
    said (fun _ h => by cases h) (by kernel_rfl) (fun _ h => by cases h) fnExactSameForth_row_tie rfl ⟨rfl, rfl⟩ (by kernel_rfl) rfl
    (fun f fn hf hfn => by
      obtain rfl : f = 5 := Option.some.inj ((show Tryz.prog.funcNamed "loop.example/g00787/laws.FnExactSameForth" = some 5 by kernel_rfl).symm.trans hf) |>.symm
      obtain rfl : fn = Tryz.f5 := (Option.some.inj (Tryz.func5.symm.trans hfn)).symm
      exact ⟨by kernel_rfl, fun j t ht => by
        rw [Tryz.params5] at ht
        have hm : t ∈ [53, 53] := by simpa using Array.mem_of_getElem? ht
        have hall : ([53, 53].all fun u => !Tryz.prog.wantsStandIn u) = true := by kernel_rfl
        exact (show Tryz.prog.wantsStandIn t = false by simpa using List.all_eq_true.1 hall t hm)⟩)
    (by kernel_rfl)
#print axioms proved
end Go.Proofs.YtkmadcdphnhciaaGreatDoor.FnExactSameForth
