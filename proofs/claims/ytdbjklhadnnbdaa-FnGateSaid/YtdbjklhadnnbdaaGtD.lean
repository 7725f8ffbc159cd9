import Derived.Test.YtdbjklhadnnbdaaGtV
import Derived.Test.YtdbjklhadnnbdaaAbsd
import Derived.Test.YtdbjklhadnnbdaaAbse
import Derived.Test.YtdbjklhadnnbdaaGtA
/- The reference's source of data: contracts. -/
set_option linter.unusedVariables false
set_option linter.unusedSimpArgs false
set_option maxRecDepth 100000
open Go Go.Abs Go.Proofs V1
namespace S1

def byteR (c : UInt8) : List AV := [.int .u8 c.toNat]
abbrev z8 : List AV := [.int .u8 0]
def roU (d : List UInt8) : AV := .ro z8 (d.map byteR)
def srcC (d : List UInt8) (a m : Int) : List AV := [roU d, .int .i64 a, .int .i64 m]
theorem c45 (d : List UInt8) : Con Try.prog 45 [roU d] (undefs [roU d]) (.obj (srcC d 0 ((d.length : Int).tmod 1000))) := by
  refine Con.ev 9 T_ok mix Try.func45 rfl rfl rfl rfl [.tmp 2] rfl ?_
  conv => whnf
  iterate 3 (refine rq_s (by (rfl)) ?_; conv => whnf)
  (refine sh_s ?_; ((simp [srcC, roU])))
def byteF (d : List UInt8) (a m : Int) : Int × Int :=
  if a + 1 ≤ d.length then (((d.getD a.toNat 0).toNat : Int), (m * 31 + (d.getD a.toNat 0).toNat + 7).tmod 2147483648) else if 3000 < a + 1 then (0, m)
  else (((((m * 1103515245 + 12345).tmod 2147483648).tdiv 65536).tmod 256), (m * 1103515245 + 12345).tmod 2147483648)

theorem c117 (d : List UInt8) (a m : Int) (h1 : 0 ≤ a) (h2 : a ≤ 1000000000000) (h3 : 0 ≤ m) (h4 : m < 2147483648) :
    Con Try.prog 117 [.obj (srcC d a m)] [.obj (srcC d (a + 1) (byteF d a m).2)] (.int .i64 (byteF d a m).1) := by
  have w0 : IntKind.i64.wrap (a + 1) = a + 1 := wrap64 (by omega) (by omega)
  have w1 : IntKind.i64.wrap (a + 1 - 1) = a := (wrap64 (by omega) (by omega)).trans (by omega)
  have w2 : IntKind.i64.wrap (m * 31) = m * 31 := wrap64 (by omega) (by omega)
  have w3 : IntKind.i64.wrap (m * 1103515245) = m * 1103515245 := wrap64 (by omega) (by omega)
  have w4 : IntKind.i64.wrap (m * 1103515245 + 12345) = m * 1103515245 + 12345 := wrap64 (by omega) (by omega)
  have hrow : ∀ z, a + 1 ≤ d.length → rowA (d.map byteR) a.toNat z = byteR (d.getD a.toNat 0) := fun z h => row_map byteR _ _ _ 0 (by omega)
  by_cases c1 : a + 1 ≤ d.length
  · have hrow : ∀ z, rowA (d.map byteR) (IntKind.i64.wrap (IntKind.i64.wrap (a + 1) - 1)).toNat z = byteR (d.getD a.toNat 0) := fun z => by
      rw [w0, w1]; exact hrow z c1
    have e : byteF d a m = (((d.getD a.toNat 0).toNat : Int), (m * 31 + (d.getD a.toNat 0).toNat + 7).tmod 2147483648) := by rw [byteF, if_pos c1]
    rw [e]
    generalize d.getD a.toNat 0 = c at *
    have hc : (c.toNat : Int) < 256 := by have := c.toNat_lt; omega
    have w5 : IntKind.i64.wrap (m * 31 + c.toNat) = m * 31 + c.toNat := wrap64 (by omega) (by omega)
    have w6 : IntKind.i64.wrap (m * 31 + c.toNat + 7) = m * 31 + c.toNat + 7 := wrap64 (by omega) (by omega)
    have w7 : IntKind.i64.wrap (c.toNat : Int) = c.toNat := wrap64 (by omega) (by omega)
    have hb : decide (IntKind.i64.wrap (a + 1) ≤ ((d.map byteR).length : Int)) = true := by rw [w0]; simp; omega
    refine Con.evP 76 [500000] rfl T_ok mix Try.func117 rfl rfl rfl rfl [.tmp 2] rfl ?_
    conv => whnf
    iterate 2 (refine rq_s (by (rfl)) ?_; conv => whnf)
    iterate 3 (refine ChkS.mk (by kernel_rfl) ?_; conv => whnf)
    (refine rq_s (by (rfl)) ?_; conv => whnf)
    iterate 4 (refine ChkS.mk (by kernel_rfl) ?_; conv => whnf)
    (refine rq_s (by (rfl)) ?_; conv => whnf)
    iterate 4 (refine ChkS.mk (by kernel_rfl) ?_; conv => whnf)
    (refine br_t (by assumption) ?_; conv => whnf)
    iterate 4 (refine ChkS.mk (by kernel_rfl) ?_; conv => whnf)
    (refine rq_s (by (rfl)) ?_; conv => whnf)
    iterate 5 (refine ChkS.mk (by kernel_rfl) ?_; conv => whnf)
    (refine rq_s (by (rfl)) ?_; conv => whnf)
    iterate 4 (refine ChkS.mk (by kernel_rfl) ?_; conv => whnf)
    (refine rq_s (by (rfl)) ?_; conv => whnf)
    iterate 3 (refine ChkS.mk (by kernel_rfl) ?_; conv => whnf)
    iterate 2 (refine rq_s (by (((first | (simp only [w0, w1, decide_eq_true_eq]; omega) | (refine and_s rfl ?_; simp only [w0, w1, List.length_map, decide_eq_true_eq]; omega))))) ?_; conv => whnf)
    (refine ChkS.mk (by kernel_rfl) ?_; conv => whnf)
    (refine row_s (by (exact hrow _)) ?_; conv => whnf)
    iterate 4 (refine ChkS.mk (by kernel_rfl) ?_; conv => whnf)
    (refine rq_s (by (rfl)) ?_; conv => whnf)
    iterate 2 (refine ChkS.mk (by kernel_rfl) ?_; conv => whnf)
    (refine rq_s (by (rfl)) ?_; conv => whnf)
    iterate 5 (refine ChkS.mk (by kernel_rfl) ?_; conv => whnf)
    (refine rq_s (by (rfl)) ?_; conv => whnf)
    iterate 4 (refine ChkS.mk (by kernel_rfl) ?_; conv => whnf)
    (refine rq_s (by (rfl)) ?_; conv => whnf)
    iterate 3 (refine ChkS.mk (by kernel_rfl) ?_; conv => whnf)
    iterate 2 (refine rq_s (by (((first | (simp only [w0, w1, decide_eq_true_eq]; omega) | (refine and_s rfl ?_; simp only [w0, w1, List.length_map, decide_eq_true_eq]; omega))))) ?_; conv => whnf)
    (refine ChkS.mk (by kernel_rfl) ?_; conv => whnf)
    (refine row_s (by (exact hrow _)) ?_; conv => whnf)
    iterate 3 (refine ChkS.mk (by kernel_rfl) ?_; conv => whnf)
    (refine rq_s (by (rfl)) ?_; conv => whnf)
    (refine aftp_s (by ((simp [srcC, roU, w0, w2, w5, w6, w7]))) ?_; conv => whnf)
    (refine rows_s (by (rfl)) ?_; conv => whnf)
    (refine aftp_s (by ((simp [srcC, roU, w0, w2, w5, w6, w7]))) ?_; conv => whnf)
    exact True.intro
  · have hb : decide (IntKind.i64.wrap (a + 1) ≤ ((d.map byteR).length : Int)) = false := by rw [w0]; simp; omega
    by_cases c2 : 3000 < a + 1
    · have hb2 : decide (IntKind.i64.wrap (a + 1) > 3000) = true := by rw [w0]; simpa using c2
      have e : byteF d a m = (0, m) := by rw [byteF, if_neg c1, if_pos c2]
      rw [e]
      refine Con.evP 76 [500000] rfl T_ok mix Try.func117 rfl rfl rfl rfl [.tmp 2] rfl ?_
      conv => whnf
      iterate 2 (refine rq_s (by (rfl)) ?_; conv => whnf)
      iterate 3 (refine ChkS.mk (by kernel_rfl) ?_; conv => whnf)
      (refine rq_s (by (rfl)) ?_; conv => whnf)
      iterate 4 (refine ChkS.mk (by kernel_rfl) ?_; conv => whnf)
      (refine rq_s (by (rfl)) ?_; conv => whnf)
      iterate 4 (refine ChkS.mk (by kernel_rfl) ?_; conv => whnf)
      (refine br_f (by assumption) ?_; conv => whnf)
      (refine rq_s (by (rfl)) ?_; conv => whnf)
      (refine br_t (by assumption) ?_; conv => whnf)
      (refine rq_s (by (rfl)) ?_; conv => whnf)
      (refine aftp_s (by rfl) ?_; conv => whnf)
      (refine rows_s (by (rfl)) ?_; conv => whnf)
      (refine aftp_s (by ((simp [srcC, roU, w0]))) ?_; conv => whnf)
      exact True.intro
    · have hb2 : decide (IntKind.i64.wrap (a + 1) > 3000) = false := by rw [w0]; simpa using c2
      have e : byteF d a m = (((((m * 1103515245 + 12345).tmod 2147483648).tdiv 65536).tmod 256), (m * 1103515245 + 12345).tmod 2147483648) := by rw [byteF, if_neg c1, if_neg c2]
      have w8 : IntKind.i64.wrap (((m * 1103515245 + 12345).tmod 2147483648).tdiv 65536) = ((m * 1103515245 + 12345).tmod 2147483648).tdiv 65536 := by
        have : 0 ≤ (m * 1103515245 + 12345).tmod 2147483648 := Int.tmod_nonneg _ (by omega)
        have : (m * 1103515245 + 12345).tmod 2147483648 < 2147483648 := Int.tmod_lt_of_pos _ (by omega)
        rw [Int.tdiv_eq_ediv_of_nonneg (by omega)]
        exact wrap64 (by omega) (by omega)
      rw [e]
      refine Con.evP 76 [500000] rfl T_ok mix Try.func117 rfl rfl rfl rfl [.tmp 2] rfl ?_
      conv => whnf
      iterate 2 (refine rq_s (by (rfl)) ?_; conv => whnf)
      iterate 3 (refine ChkS.mk (by kernel_rfl) ?_; conv => whnf)
      (refine rq_s (by (rfl)) ?_; conv => whnf)
      iterate 4 (refine ChkS.mk (by kernel_rfl) ?_; conv => whnf)
      (refine rq_s (by (rfl)) ?_; conv => whnf)
      iterate 4 (refine ChkS.mk (by kernel_rfl) ?_; conv => whnf)
      (refine br_f (by assumption) ?_; conv => whnf)
      (refine rq_s (by (rfl)) ?_; conv => whnf)
      (refine br_f (by assumption) ?_; conv => whnf)
      iterate 7 (refine rq_s (by (rfl)) ?_; conv => whnf)
      (refine aftp_s (by ((simp [srcC, roU, w0, w3, w4, w8]))) ?_; conv => whnf)
      (refine rows_s (by (rfl)) ?_; conv => whnf)
      (refine aftp_s (by ((simp [srcC, roU, w0, w3, w4, w8]))) ?_; conv => whnf)
      exact True.intro
theorem byteF_r {d : List UInt8} {a m : Int} (h3 : 0 ≤ m) (h4 : m < 2147483648) : (0 ≤ (byteF d a m).1 ∧ (byteF d a m).1 < 256) ∧ 0 ≤ (byteF d a m).2 ∧ (byteF d a m).2 < 2147483648 := by
  unfold byteF
  split
  · have := (d.getD a.toNat 0).toNat_lt
    exact ⟨by simp only; omega, Int.tmod_nonneg _ (by omega), Int.tmod_lt_of_pos _ (by omega)⟩
  · split
    · exact ⟨by simp, by simp only; omega⟩
    · refine ⟨⟨?_, Int.tmod_lt_of_pos _ (by omega)⟩, Int.tmod_nonneg _ (by omega), Int.tmod_lt_of_pos _ (by omega)⟩
      have : 0 ≤ (m * 1103515245 + 12345).tmod 2147483648 := Int.tmod_nonneg _ (by omega)
      refine Int.tmod_nonneg _ ?_
      rw [Int.tdiv_eq_ediv_of_nonneg this]
      omega
def m1 (d : List UInt8) (a m : Int) : Int := (byteF d a m).2
def nextF (d : List UInt8) (a m n : Int) : Int × Int × Int :=
  if n ≤ 1 then (0, a, m) else if n ≤ 256 then ((byteF d a m).1.tmod n, a + 1, (byteF d a m).2)
  else (((byteF d a m).1 * 65536 + (byteF d (a + 1) (byteF d a m).2).1 * 256 + (byteF d (a + 2) (byteF d (a + 1) (byteF d a m).2).2).1).tmod n, a + 3, (byteF d (a + 2) (byteF d (a + 1) (byteF d a m).2).2).2)

theorem c93 (d : List UInt8) (a m n : Int) (h1 : 0 ≤ a) (h2 : a ≤ 100000000000) (h3 : 0 ≤ m) (h4 : m < 2147483648) :
    Con Try.prog 93 [.obj (srcC d a m), .int .i64 n] [.obj (srcC d (nextF d a m n).2.1 (nextF d a m n).2.2), .undef] (.int .i64 (nextF d a m n).1) := by
  have k1 := c117 d a m h1 (by omega) h3 h4
  have r1 := byteF_r (d := d) (a := a) h3 h4
  have k2 := c117 d (a + 1) (byteF d a m).2 (by omega) (by omega) r1.2.1 r1.2.2
  have r2 := byteF_r (d := d) (a := a + 1) r1.2.1 r1.2.2
  have k3 := c117 d (a + 2) (byteF d (a + 1) (byteF d a m).2).2 (by omega) (by omega) r2.2.1 r2.2.2
  have r3 := byteF_r (d := d) (a := a + 2) r2.2.1 r2.2.2
  rw [show a + 1 + 1 = a + 2 by omega] at k2
  rw [show a + 2 + 1 = a + 3 by omega] at k3
  by_cases c1 : n ≤ 1
  · have hb : decide (n ≤ 1) = true := by simpa using c1
    rw [nextF, if_pos c1]
    refine Con.evP 31 [500000] rfl T_ok mix Try.func93 rfl rfl rfl rfl [.tmp 4] rfl ?_
    conv => whnf
    (refine br_t (by assumption) ?_; conv => whnf)
    (refine rq_s (by (rfl)) ?_; conv => whnf)
    (refine aftp_s (by rfl) ?_; conv => whnf)
    (refine rows_s (by (rfl)) ?_; conv => whnf)
    (refine aftp_s (by rfl) ?_; conv => whnf)
    exact True.intro
  · have hb : decide (n ≤ 1) = false := by simpa using c1
    by_cases c2 : n ≤ 256
    · have hb2 : decide (n ≤ 256) = true := by simpa using c2
      rw [nextF, if_neg c1, if_pos c2]
      generalize byteF d a m = p at *
      refine Con.evP 31 [500000] rfl T_ok mix Try.func93 rfl rfl rfl rfl [.tmp 4] rfl ?_
      conv => whnf
      (refine br_f (by assumption) ?_; conv => whnf)
      (refine br_t (by assumption) ?_; conv => whnf)
      (refine handp_s 117 [some 3] ?_; conv => whnf)
      (refine rq_s (by (rfl)) ?_; conv => whnf)
      (focus (apply callpe_s (f := 117); (· repeat' (first | (refine sub_all ?_; simp [List.length_map]; done) | exact sub_map _ _ _ _ | apply cons_eq | apply obj_eq | apply agg_eq | apply own_eq | apply ro_eq | apply rp_eq | apply fnc_eq | rfl)); refine callp_s (f := 117) rfl (k1 ..) ?_; conv => whnf))
      (refine rq_s (by ((simp; omega))) ?_; conv => whnf)
      (refine fac_s (fun hf => ?_); conv => whnf)
      (refine rq_s (by (rfl)) ?_; conv => whnf)
      (refine aftp_s (by rfl) ?_; conv => whnf)
      (refine rows_s (by (rfl)) ?_; conv => whnf)
      (refine aftp_s (by rfl) ?_; conv => whnf)
      exact True.intro
    · have hb2 : decide (n ≤ 256) = false := by simpa using c2
      rw [nextF, if_neg c1, if_neg c2]
      generalize byteF d a m = p at *
      generalize byteF d (a + 1) p.2 = q at *
      generalize byteF d (a + 2) q.2 = r at *
      obtain ⟨v1, m1⟩ := p
      obtain ⟨v2, m2⟩ := q
      obtain ⟨v3, m3⟩ := r
      simp only at r1 r2 r3 k1 k2 k3
      have w1 : IntKind.i64.wrap (v1 * 65536) = v1 * 65536 := wrap64 (by omega) (by omega)
      have w2 : IntKind.i64.wrap (v2 * 256) = v2 * 256 := wrap64 (by omega) (by omega)
      have w3 : IntKind.i64.wrap (v1 * 65536 + v2 * 256) = v1 * 65536 + v2 * 256 := wrap64 (by omega) (by omega)
      have w4 : IntKind.i64.wrap (v1 * 65536 + v2 * 256 + v3) = v1 * 65536 + v2 * 256 + v3 := wrap64 (by omega) (by omega)
      refine Con.evP 31 [500000] rfl T_ok mix Try.func93 rfl rfl rfl rfl [.tmp 4] rfl ?_
      conv => whnf
      iterate 2 (refine br_f (by assumption) ?_; conv => whnf)
      (refine handp_s 117 [some 3] ?_; conv => whnf)
      (refine rq_s (by (rfl)) ?_; conv => whnf)
      (focus (apply callpe_s (f := 117); (· repeat' (first | (refine sub_all ?_; simp [List.length_map]; done) | exact sub_map _ _ _ _ | apply cons_eq | apply obj_eq | apply agg_eq | apply own_eq | apply ro_eq | apply rp_eq | apply fnc_eq | rfl)); refine callp_s (f := 117) rfl (k1 ..) ?_; conv => whnf))
      (refine fac_s (fun hf => ?_); conv => whnf)
      (refine handp_s 117 [some 3] ?_; conv => whnf)
      (refine rq_s (by (rfl)) ?_; conv => whnf)
      (focus (apply callpe_s (f := 117); (· repeat' (first | (refine sub_all ?_; simp [List.length_map]; done) | exact sub_map _ _ _ _ | apply cons_eq | apply obj_eq | apply agg_eq | apply own_eq | apply ro_eq | apply rp_eq | apply fnc_eq | rfl)); refine callp_s (f := 117) rfl (k2 ..) ?_; conv => whnf))
      (refine fac_s (fun hf => ?_); conv => whnf)
      (refine handp_s 117 [some 3] ?_; conv => whnf)
      (refine rq_s (by (rfl)) ?_; conv => whnf)
      (focus (apply callpe_s (f := 117); (· repeat' (first | (refine sub_all ?_; simp [List.length_map]; done) | exact sub_map _ _ _ _ | apply cons_eq | apply obj_eq | apply agg_eq | apply own_eq | apply ro_eq | apply rp_eq | apply fnc_eq | rfl)); refine callp_s (f := 117) rfl (k3 ..) ?_; conv => whnf))
      (refine fac_s (fun hf => ?_); conv => whnf)
      (refine rq_s (by ((simp; omega))) ?_; conv => whnf)
      (refine rq_s (by (rfl)) ?_; conv => whnf)
      (refine aftp_s (by ((simp [srcC, roU, w1, w2, w3, w4]))) ?_; conv => whnf)
      (refine rows_s (by (rfl)) ?_; conv => whnf)
      (refine aftp_s (by rfl) ?_; conv => whnf)
      exact True.intro
theorem nextF_r {d : List UInt8} {a m n : Int} (h1 : 0 ≤ a) (h3 : 0 ≤ m) (h4 : m < 2147483648) : (0 ≤ (nextF d a m n).1 ∧ ((nextF d a m n).1 < n ∨ (nextF d a m n).1 = 0)) ∧ (a ≤ (nextF d a m n).2.1 ∧ (nextF d a m n).2.1 ≤ a + 3) ∧ 0 ≤ (nextF d a m n).2.2 ∧ (nextF d a m n).2.2 < 2147483648 := by
  have r1 := byteF_r (d := d) (a := a) h3 h4
  have r2 := byteF_r (d := d) (a := a + 1) r1.2.1 r1.2.2
  have r3 := byteF_r (d := d) (a := a + 2) r2.2.1 r2.2.2
  unfold nextF
  split
  · exact ⟨⟨by simp, .inr rfl⟩, ⟨by simp, by simp only; omega⟩, h3, h4⟩
  · split
    · exact ⟨⟨Int.tmod_nonneg _ r1.1.1, .inl (Int.tmod_lt_of_pos _ (by omega))⟩, ⟨by simp only; omega, by simp only; omega⟩, r1.2⟩
    · exact ⟨⟨Int.tmod_nonneg _ (by omega), .inl (Int.tmod_lt_of_pos _ (by omega))⟩, ⟨by simp only; omega, by simp only; omega⟩, r3.2⟩

theorem c91 (d : List UInt8) (a m n : Int) (h1 : 0 ≤ a) (h2 : a ≤ 100000000000) (h3 : 0 ≤ m) (h4 : m < 2147483648) :
    Con Try.prog 91 [.obj (srcC d a m), .int .i64 n] [.obj (srcC d (nextF d a m n).2.1 (nextF d a m n).2.2), .undef] (.bool ((nextF d a m n).1 == IntKind.i64.wrap (n - 1))) := by
  have k1 := c93 d a m n h1 h2 h3 h4
  refine Con.evP 11 [500000] rfl T_ok mix Try.func91 rfl rfl rfl rfl [.tmp 4] rfl ?_
  conv => whnf
  (refine handp_s 93 [some 3, none] ?_; conv => whnf)
  iterate 2 (refine rq_s (by (rfl)) ?_; conv => whnf)
  (focus (apply callpe_s (f := 93); (· repeat' (first | (refine sub_all ?_; simp [List.length_map]; done) | exact sub_map _ _ _ _ | apply cons_eq | apply obj_eq | apply agg_eq | apply own_eq | apply ro_eq | apply rp_eq | apply fnc_eq | rfl)); refine callp_s (f := 93) rfl (k1 ..) ?_; conv => whnf))
  (refine fac_s (fun hf => ?_); conv => whnf)
  (refine rq_s (by (rfl)) ?_; conv => whnf)
  (refine aftp_s (by rfl) ?_; conv => whnf)
  (refine rows_s (by (rfl)) ?_; conv => whnf)
  (refine aftp_s (by rfl) ?_; conv => whnf)
  exact True.intro
end S1

/- The reference's source of data, 2: contracts. -/
set_option linter.unusedVariables false
set_option linter.unusedSimpArgs false
set_option maxRecDepth 100000
open Go Go.Abs Go.Proofs V1 S1
namespace S2

def wrapF (n : Int) : Int := IntKind.i64.wrap (IntKind.i32.wrap (IntKind.u32.wrap (IntKind.u64.wrap n)))
theorem c116 (n : Int) : Con Try.prog 116 [.int .i64 n] (undefs [.int .i64 n]) (.int .i64 (wrapF n)) := by
  refine Con.ev 8 T_ok mix Try.func116 rfl rfl rfl rfl [.tmp 2] rfl ?_
  conv => whnf
  (refine rq_s (by (rfl)) ?_; conv => whnf)
  (refine sh_s ?_; (rfl))
theorem wrapF_r (n : Int) : -2147483648 ≤ wrapF n ∧ wrapF n ≤ 2147483647 := by
  have h : -2147483648 ≤ IntKind.i32.wrap (IntKind.u32.wrap (IntKind.u64.wrap n)) ∧ IntKind.i32.wrap (IntKind.u32.wrap (IntKind.u64.wrap n)) ≤ 2147483647 := by
    generalize IntKind.u32.wrap (IntKind.u64.wrap n) = k
    simp [IntKind.wrap, IntKind.signed, IntKind.bits]
    omega
  unfold wrapF
  rw [wrap64 (by omega) (by omega)]
  exact h

structure SrcOk (a m lim : Int) : Prop where
  h1 : 0 ≤ a
  h2 : a ≤ lim
  h3 : 0 ≤ m
  h4 : m < 2147483648
theorem cell_ex (d : List UInt8) (a m : Int) (h : SrcOk a m 10000000000) : ∃ v a' m', Con Try.prog 61 [.obj (srcC d a m)] [.obj (srcC d a' m')] (.int .i64 v) ∧ cell v = true ∧ a ≤ a' ∧ SrcOk a' m' (a + 20) := by
  obtain ⟨h1, h2, h3, h4⟩ := h
  have k0 := c93 d a m 8 h1 (by omega) h3 h4
  have r0 := nextF_r (d := d) (n := 8) h1 h3 h4
  generalize nextF d a m 8 = p at *
  obtain ⟨r, a1, m1⟩ := p
  simp only at k0 r0
  by_cases c0 : r = 0
  · have hb : (r == 0) = true := by simpa using c0
    have k1 := c93 d a1 m1 3 (by omega) (by omega) r0.2.2.1 r0.2.2.2
    have r1 := nextF_r (d := d) (n := 3) (a := a1) (by omega) r0.2.2.1 r0.2.2.2
    generalize nextF d a1 m1 3 = p at *
    obtain ⟨v, a2, m2⟩ := p
    simp only at k1 r1
    have w : IntKind.i64.wrap (2147483647 - v) = 2147483647 - v := wrap64 (by omega) (by omega)
    refine ⟨2147483647 - v, a2, m2, ?_, by simp [cell, inR]; omega, by omega, by omega, by omega, r1.2.2.1, r1.2.2.2⟩
    refine Con.evP 39 [500000] rfl T_ok mix Try.func61 rfl rfl rfl rfl [.tmp 2] rfl ?_
    conv => whnf
    (refine handp_s 93 [some 3, none] ?_; conv => whnf)
    iterate 2 (refine rq_s (by (rfl)) ?_; conv => whnf)
    (focus (apply callpe_s (f := 93); (· repeat' (first | (refine sub_all ?_; simp [List.length_map]; done) | exact sub_map _ _ _ _ | apply cons_eq | apply obj_eq | apply agg_eq | apply own_eq | apply ro_eq | apply rp_eq | apply fnc_eq | rfl)); refine callp_s (f := 93) rfl (k0 ..) ?_; conv => whnf))
    (refine fac_s (fun hf => ?_); conv => whnf)
    (refine br_t (by assumption) ?_; conv => whnf)
    (refine handp_s 93 [some 3, none] ?_; conv => whnf)
    iterate 2 (refine rq_s (by (rfl)) ?_; conv => whnf)
    (focus (apply callpe_s (f := 93); (· repeat' (first | (refine sub_all ?_; simp [List.length_map]; done) | exact sub_map _ _ _ _ | apply cons_eq | apply obj_eq | apply agg_eq | apply own_eq | apply ro_eq | apply rp_eq | apply fnc_eq | rfl)); refine callp_s (f := 93) rfl (k1 ..) ?_; conv => whnf))
    (refine fac_s (fun hf => ?_); conv => whnf)
    (refine rq_s (by (rfl)) ?_; conv => whnf)
    (refine aftp_s (by ((simp [srcC, roU, w]))) ?_; conv => whnf)
    (refine rows_s (by (rfl)) ?_; conv => whnf)
    (refine aftp_s (by rfl) ?_; conv => whnf)
    exact True.intro
  · have hb : (r == 0) = false := by simpa using c0
    by_cases c1 : r = 1
    · have hb1 : (r == 1) = true := by simpa using c1
      have k1 := c93 d a1 m1 3 (by omega) (by omega) r0.2.2.1 r0.2.2.2
      have r1 := nextF_r (d := d) (n := 3) (a := a1) (by omega) r0.2.2.1 r0.2.2.2
      generalize nextF d a1 m1 3 = p at *
      obtain ⟨v, a2, m2⟩ := p
      simp only at k1 r1
      have w : IntKind.i64.wrap (-2147483648 + v) = -2147483648 + v := wrap64 (by omega) (by omega)
      refine ⟨-2147483648 + v, a2, m2, ?_, by simp [cell, inR]; omega, by omega, by omega, by omega, r1.2.2.1, r1.2.2.2⟩
      refine Con.evP 39 [500000] rfl T_ok mix Try.func61 rfl rfl rfl rfl [.tmp 2] rfl ?_
      conv => whnf
      (refine handp_s 93 [some 3, none] ?_; conv => whnf)
      iterate 2 (refine rq_s (by (rfl)) ?_; conv => whnf)
      (focus (apply callpe_s (f := 93); (· repeat' (first | (refine sub_all ?_; simp [List.length_map]; done) | exact sub_map _ _ _ _ | apply cons_eq | apply obj_eq | apply agg_eq | apply own_eq | apply ro_eq | apply rp_eq | apply fnc_eq | rfl)); refine callp_s (f := 93) rfl (k0 ..) ?_; conv => whnf))
      (refine fac_s (fun hf => ?_); conv => whnf)
      (refine br_f (by assumption) ?_; conv => whnf)
      (refine br_t (by assumption) ?_; conv => whnf)
      (refine handp_s 93 [some 3, none] ?_; conv => whnf)
      iterate 2 (refine rq_s (by (rfl)) ?_; conv => whnf)
      (focus (apply callpe_s (f := 93); (· repeat' (first | (refine sub_all ?_; simp [List.length_map]; done) | exact sub_map _ _ _ _ | apply cons_eq | apply obj_eq | apply agg_eq | apply own_eq | apply ro_eq | apply rp_eq | apply fnc_eq | rfl)); refine callp_s (f := 93) rfl (k1 ..) ?_; conv => whnf))
      (refine fac_s (fun hf => ?_); conv => whnf)
      (refine rq_s (by (rfl)) ?_; conv => whnf)
      (refine aftp_s (by ((simp [srcC, roU, w]))) ?_; conv => whnf)
      (refine rows_s (by (rfl)) ?_; conv => whnf)
      (refine aftp_s (by rfl) ?_; conv => whnf)
      exact True.intro
    have hb1 : (r == 1) = false := by simpa using c1
    by_cases c2 : r = 2
    · have hb2 : (r == 2) = true := by simpa using c2
      have k1 := c117 d a1 m1 (by omega) (by omega) r0.2.2.1 r0.2.2.2
      have r1 := byteF_r (d := d) (a := a1) r0.2.2.1 r0.2.2.2
      generalize byteF d a1 m1 = p at *
      obtain ⟨v1, n1⟩ := p
      simp only at k1 r1
      have k2 := c117 d (a1 + 1) n1 (by omega) (by omega) r1.2.1 r1.2.2
      have r2 := byteF_r (d := d) (a := a1 + 1) r1.2.1 r1.2.2
      generalize byteF d (a1 + 1) n1 = p at *
      obtain ⟨v2, n2⟩ := p
      simp only at k2 r2
      have k3 := c117 d (a1 + 1 + 1) n2 (by omega) (by omega) r2.2.1 r2.2.2
      have r3 := byteF_r (d := d) (a := a1 + 1 + 1) r2.2.1 r2.2.2
      generalize byteF d (a1 + 1 + 1) n2 = p at *
      obtain ⟨v3, n3⟩ := p
      simp only at k3 r3
      have k4 := c117 d (a1 + 1 + 1 + 1) n3 (by omega) (by omega) r3.2.1 r3.2.2
      have r4 := byteF_r (d := d) (a := a1 + 1 + 1 + 1) r3.2.1 r3.2.2
      generalize byteF d (a1 + 1 + 1 + 1) n3 = p at *
      obtain ⟨v4, n4⟩ := p
      simp only at k4 r4
      refine ⟨_, a1 + 1 + 1 + 1 + 1, n4, ?_, by have := wrapF_r (IntKind.i64.wrap (IntKind.i64.wrap (IntKind.i64.wrap (IntKind.i64.wrap (v1 * 16777216) + IntKind.i64.wrap (v2 * 65536)) + IntKind.i64.wrap (v3 * 256)) + v4)); simpa [cell, inR] using this, by omega, by omega, by omega, r4.2.1, r4.2.2⟩
      refine Con.evP 39 [500000] rfl T_ok mix Try.func61 rfl rfl rfl rfl [.tmp 2] rfl ?_
      conv => whnf
      (refine handp_s 93 [some 3, none] ?_; conv => whnf)
      iterate 2 (refine rq_s (by (rfl)) ?_; conv => whnf)
      (focus (apply callpe_s (f := 93); (· repeat' (first | (refine sub_all ?_; simp [List.length_map]; done) | exact sub_map _ _ _ _ | apply cons_eq | apply obj_eq | apply agg_eq | apply own_eq | apply ro_eq | apply rp_eq | apply fnc_eq | rfl)); refine callp_s (f := 93) rfl (k0 ..) ?_; conv => whnf))
      (refine fac_s (fun hf => ?_); conv => whnf)
      iterate 2 (refine br_f (by assumption) ?_; conv => whnf)
      (refine br_t (by assumption) ?_; conv => whnf)
      (refine handp_s 117 [some 3] ?_; conv => whnf)
      (refine rq_s (by (rfl)) ?_; conv => whnf)
      (focus (apply callpe_s (f := 117); (· repeat' (first | (refine sub_all ?_; simp [List.length_map]; done) | exact sub_map _ _ _ _ | apply cons_eq | apply obj_eq | apply agg_eq | apply own_eq | apply ro_eq | apply rp_eq | apply fnc_eq | rfl)); refine callp_s (f := 117) rfl (k1 ..) ?_; conv => whnf))
      (refine handp_s 117 [some 3] ?_; conv => whnf)
      (refine rq_s (by (rfl)) ?_; conv => whnf)
      (focus (apply callpe_s (f := 117); (· repeat' (first | (refine sub_all ?_; simp [List.length_map]; done) | exact sub_map _ _ _ _ | apply cons_eq | apply obj_eq | apply agg_eq | apply own_eq | apply ro_eq | apply rp_eq | apply fnc_eq | rfl)); refine callp_s (f := 117) rfl (k2 ..) ?_; conv => whnf))
      (refine handp_s 117 [some 3] ?_; conv => whnf)
      (refine rq_s (by (rfl)) ?_; conv => whnf)
      (focus (apply callpe_s (f := 117); (· repeat' (first | (refine sub_all ?_; simp [List.length_map]; done) | exact sub_map _ _ _ _ | apply cons_eq | apply obj_eq | apply agg_eq | apply own_eq | apply ro_eq | apply rp_eq | apply fnc_eq | rfl)); refine callp_s (f := 117) rfl (k3 ..) ?_; conv => whnf))
      (refine handp_s 117 [some 3] ?_; conv => whnf)
      (refine rq_s (by (rfl)) ?_; conv => whnf)
      (focus (apply callpe_s (f := 117); (· repeat' (first | (refine sub_all ?_; simp [List.length_map]; done) | exact sub_map _ _ _ _ | apply cons_eq | apply obj_eq | apply agg_eq | apply own_eq | apply ro_eq | apply rp_eq | apply fnc_eq | rfl)); refine callp_s (f := 117) rfl (k4 ..) ?_; conv => whnf))
      (refine rq_s (by (rfl)) ?_; conv => whnf)
      (refine lend_s ?_; conv => whnf)
      (refine call_s (c116 ..) ?_; conv => whnf)
      iterate 5 (refine fac_s (fun hf => ?_); conv => whnf)
      (refine rq_s (by (rfl)) ?_; conv => whnf)
      (refine aftp_s (by rfl) ?_; conv => whnf)
      (refine rows_s (by (rfl)) ?_; conv => whnf)
      (refine aftp_s (by rfl) ?_; conv => whnf)
      exact True.intro
    have hb2 : (r == 2) = false := by simpa using c2
    have k1 := c93 d a1 m1 40 (by omega) (by omega) r0.2.2.1 r0.2.2.2
    have r1 := nextF_r (d := d) (n := 40) (a := a1) (by omega) r0.2.2.1 r0.2.2.2
    generalize nextF d a1 m1 40 = p at *
    obtain ⟨v, a2, m2⟩ := p
    simp only at k1 r1
    by_cases c3 : r = 3
    · have hb3 : (r == 3) = true := by simpa using c3
      have w : IntKind.i64.wrap (0 - v) = 0 - v := wrap64 (by omega) (by omega)
      refine ⟨0 - v, a2, m2, ?_, by simp [cell, inR]; omega, by omega, by omega, by omega, r1.2.2.1, r1.2.2.2⟩
      refine Con.evP 39 [500000] rfl T_ok mix Try.func61 rfl rfl rfl rfl [.tmp 2] rfl ?_
      conv => whnf
      (refine handp_s 93 [some 3, none] ?_; conv => whnf)
      iterate 2 (refine rq_s (by (rfl)) ?_; conv => whnf)
      (focus (apply callpe_s (f := 93); (· repeat' (first | (refine sub_all ?_; simp [List.length_map]; done) | exact sub_map _ _ _ _ | apply cons_eq | apply obj_eq | apply agg_eq | apply own_eq | apply ro_eq | apply rp_eq | apply fnc_eq | rfl)); refine callp_s (f := 93) rfl (k0 ..) ?_; conv => whnf))
      (refine fac_s (fun hf => ?_); conv => whnf)
      iterate 3 (refine br_f (by assumption) ?_; conv => whnf)
      (refine br_t (by assumption) ?_; conv => whnf)
      (refine handp_s 93 [some 3, none] ?_; conv => whnf)
      iterate 2 (refine rq_s (by (rfl)) ?_; conv => whnf)
      (focus (apply callpe_s (f := 93); (· repeat' (first | (refine sub_all ?_; simp [List.length_map]; done) | exact sub_map _ _ _ _ | apply cons_eq | apply obj_eq | apply agg_eq | apply own_eq | apply ro_eq | apply rp_eq | apply fnc_eq | rfl)); refine callp_s (f := 93) rfl (k1 ..) ?_; conv => whnf))
      (refine fac_s (fun hf => ?_); conv => whnf)
      (refine rq_s (by (rfl)) ?_; conv => whnf)
      (refine aftp_s (by ((rw [w]))) ?_; conv => whnf)
      (refine rows_s (by (rfl)) ?_; conv => whnf)
      (refine aftp_s (by rfl) ?_; conv => whnf)
      exact True.intro
    have hb3 : (r == 3) = false := by simpa using c3
    refine ⟨v, a2, m2, ?_, by simp [cell, inR]; omega, by omega, by omega, by omega, r1.2.2.1, r1.2.2.2⟩
    refine Con.evP 39 [500000] rfl T_ok mix Try.func61 rfl rfl rfl rfl [.tmp 2] rfl ?_
    conv => whnf
    (refine handp_s 93 [some 3, none] ?_; conv => whnf)
    iterate 2 (refine rq_s (by (rfl)) ?_; conv => whnf)
    (focus (apply callpe_s (f := 93); (· repeat' (first | (refine sub_all ?_; simp [List.length_map]; done) | exact sub_map _ _ _ _ | apply cons_eq | apply obj_eq | apply agg_eq | apply own_eq | apply ro_eq | apply rp_eq | apply fnc_eq | rfl)); refine callp_s (f := 93) rfl (k0 ..) ?_; conv => whnf))
    (refine fac_s (fun hf => ?_); conv => whnf)
    iterate 4 (refine br_f (by assumption) ?_; conv => whnf)
    (refine handp_s 93 [some 3, none] ?_; conv => whnf)
    iterate 2 (refine rq_s (by (rfl)) ?_; conv => whnf)
    (focus (apply callpe_s (f := 93); (· repeat' (first | (refine sub_all ?_; simp [List.length_map]; done) | exact sub_map _ _ _ _ | apply cons_eq | apply obj_eq | apply agg_eq | apply own_eq | apply ro_eq | apply rp_eq | apply fnc_eq | rfl)); refine callp_s (f := 93) rfl (k1 ..) ?_; conv => whnf))
    (refine fac_s (fun hf => ?_); conv => whnf)
    (refine rq_s (by (rfl)) ?_; conv => whnf)
    (refine aftp_s (by rfl) ?_; conv => whnf)
    (refine rows_s (by (rfl)) ?_; conv => whnf)
    (refine aftp_s (by rfl) ?_; conv => whnf)
    exact True.intro
end S2

/- The reference's source of data, 3: addresses, flat items; contracts. -/
set_option linter.unusedVariables false
set_option linter.unusedSimpArgs false
set_option maxRecDepth 100000
open Go Go.Abs Go.Proofs V1 H1 S1 S2
namespace S3


theorem sle {a m L L' : Int} (h : SrcOk a m L) (hl : L ≤ L') : SrcOk a m L' := ⟨h.1, by have := h.2; omega, h.3, h.4⟩
theorem nx (d : List UInt8) {a m L : Int} (n : Int) (h : SrcOk a m L) (hl : L ≤ 10000000000) : ∃ v a' m', Con Try.prog 93 [.obj (srcC d a m), .int .i64 n] [.obj (srcC d a' m'), .undef] (.int .i64 v) ∧ 0 ≤ v ∧ (v < n ∨ v = 0) ∧ SrcOk a' m' (L + 3) := by
  obtain ⟨h1, h2, h3, h4⟩ := h
  have r := nextF_r (d := d) (n := n) h1 h3 h4
  exact ⟨_, _, _, c93 d a m n h1 (by omega) h3 h4, r.1.1, r.1.2, by omega, by omega, r.2.2.1, r.2.2.2⟩
theorem ch (d : List UInt8) {a m L : Int} (n : Int) (h : SrcOk a m L) (hl : L ≤ 10000000000) : ∃ (b : Bool) (a' m' : Int), Con Try.prog 91 [.obj (srcC d a m), .int .i64 n] [.obj (srcC d a' m'), .undef] (.bool b) ∧ SrcOk a' m' (L + 3) := by
  obtain ⟨h1, h2, h3, h4⟩ := h
  have r := nextF_r (d := d) (n := n) h1 h3 h4
  exact ⟨_, _, _, c91 d a m n h1 (by omega) h3 h4, by omega, by omega, r.2.2.1, r.2.2.2⟩
theorem ce (d : List UInt8) {a m L : Int} (h : SrcOk a m L) (hl : L ≤ 10000000000) : ∃ v a' m', Con Try.prog 61 [.obj (srcC d a m)] [.obj (srcC d a' m')] (.int .i64 v) ∧ cell v = true ∧ SrcOk a' m' (L + 20) := by
  obtain ⟨v, a', m', h1, h2, h3, h4⟩ := cell_ex d a m (sle h hl)
  exact ⟨v, a', m', h1, h2, sle h4 (by have := h.2; omega)⟩
theorem ad (d : List UInt8) {a m L : Int} (h : SrcOk a m L) (hl : L ≤ 10000000000 - 40) : ∃ v a' m', Con Try.prog 162 [.obj (srcC d a m)] [.obj (srcC d a' m')] (.int .i64 v) ∧ cell v = true ∧ SrcOk a' m' (L + 29) := by
  obtain ⟨v1, a1, m1, k1, p1, q1, h1⟩ := nx d 8 h (by omega)
  obtain ⟨v2, a2, m2, k2, p2, q2, h2⟩ := nx d 130 h1 (by omega)
  obtain ⟨v3, a3, m3, k3, p3, h3⟩ := ce d h2 (by omega)
  obtain ⟨v4, a4, m4, k4, p4, q4, h4⟩ := nx d 4 h3 (by omega)
  have w1 : IntKind.i64.wrap (4 * v1) = 4 * v1 := wrap64 (by omega) (by omega)
  have w2 : IntKind.i64.wrap (4096 + 4 * v1) = 4096 + 4 * v1 := wrap64 (by omega) (by omega)
  have w3 : IntKind.i64.wrap (4096 + v2) = 4096 + v2 := wrap64 (by omega) (by omega)
  have hv : v4 = 0 ∨ v4 = 1 ∨ v4 = 2 ∨ v4 = 3 := by omega
  rcases hv with rfl | rfl | rfl | rfl
  · refine ⟨4096 + 4 * v1, a4, m4, ?_, by simp [cell, inR]; omega, sle h4 (by omega)⟩
    refine Con.evP 17 [500000] rfl T_ok mix Try.func162 rfl rfl rfl rfl [.tmp 2] rfl ?_
    conv => whnf
    (refine handp_s 93 [some 3, none] ?_; conv => whnf)
    iterate 2 (refine rq_s (by (rfl)) ?_; conv => whnf)
    (focus (apply callpe_s (f := 93); (· repeat' (first | (refine sub_all ?_; simp [List.length_map]; done) | exact sub_map _ _ _ _ | apply cons_eq | apply obj_eq | apply agg_eq | apply own_eq | apply ro_eq | apply rp_eq | apply fnc_eq | rfl)); refine callp_s (f := 93) rfl (k1 ..) ?_; conv => whnf))
    (refine handp_s 93 [some 3, none] ?_; conv => whnf)
    iterate 2 (refine rq_s (by (rfl)) ?_; conv => whnf)
    (focus (apply callpe_s (f := 93); (· repeat' (first | (refine sub_all ?_; simp [List.length_map]; done) | exact sub_map _ _ _ _ | apply cons_eq | apply obj_eq | apply agg_eq | apply own_eq | apply ro_eq | apply rp_eq | apply fnc_eq | rfl)); refine callp_s (f := 93) rfl (k2 ..) ?_; conv => whnf))
    (refine handp_s 61 [some 3] ?_; conv => whnf)
    (refine rq_s (by (rfl)) ?_; conv => whnf)
    (focus (apply callpe_s (f := 61); (· repeat' (first | (refine sub_all ?_; simp [List.length_map]; done) | exact sub_map _ _ _ _ | apply cons_eq | apply obj_eq | apply agg_eq | apply own_eq | apply ro_eq | apply rp_eq | apply fnc_eq | rfl)); refine callp_s (f := 61) rfl (k3 ..) ?_; conv => whnf))
    (refine rq_s (by (rfl)) ?_; conv => whnf)
    (refine handp_s 93 [some 3, none] ?_; conv => whnf)
    iterate 2 (refine rq_s (by (rfl)) ?_; conv => whnf)
    (focus (apply callpe_s (f := 93); (· repeat' (first | (refine sub_all ?_; simp [List.length_map]; done) | exact sub_map _ _ _ _ | apply cons_eq | apply obj_eq | apply agg_eq | apply own_eq | apply ro_eq | apply rp_eq | apply fnc_eq | rfl)); refine callp_s (f := 93) rfl (k4 ..) ?_; conv => whnf))
    (refine rq_s (by (rfl)) ?_; conv => whnf)
    (refine rq_s (by ((simp only [decide_eq_true_eq, List.length_map]; done))) ?_; conv => whnf)
    (refine rq_s (by (rfl)) ?_; conv => whnf)
    (refine row_s (by (rfl)) ?_; conv => whnf)
    iterate 4 (refine fac_s (fun hf => ?_); conv => whnf)
    (refine rq_s (by (rfl)) ?_; conv => whnf)
    (refine aftp_s (by ((rw [w1, w2]))) ?_; conv => whnf)
    (refine rows_s (by (rfl)) ?_; conv => whnf)
    (refine aftp_s (by rfl) ?_; conv => whnf)
    exact True.intro
  · refine ⟨4096 + v2, a4, m4, ?_, by simp [cell, inR]; omega, sle h4 (by omega)⟩
    refine Con.evP 17 [500000] rfl T_ok mix Try.func162 rfl rfl rfl rfl [.tmp 2] rfl ?_
    conv => whnf
    (refine handp_s 93 [some 3, none] ?_; conv => whnf)
    iterate 2 (refine rq_s (by (rfl)) ?_; conv => whnf)
    (focus (apply callpe_s (f := 93); (· repeat' (first | (refine sub_all ?_; simp [List.length_map]; done) | exact sub_map _ _ _ _ | apply cons_eq | apply obj_eq | apply agg_eq | apply own_eq | apply ro_eq | apply rp_eq | apply fnc_eq | rfl)); refine callp_s (f := 93) rfl (k1 ..) ?_; conv => whnf))
    (refine handp_s 93 [some 3, none] ?_; conv => whnf)
    iterate 2 (refine rq_s (by (rfl)) ?_; conv => whnf)
    (focus (apply callpe_s (f := 93); (· repeat' (first | (refine sub_all ?_; simp [List.length_map]; done) | exact sub_map _ _ _ _ | apply cons_eq | apply obj_eq | apply agg_eq | apply own_eq | apply ro_eq | apply rp_eq | apply fnc_eq | rfl)); refine callp_s (f := 93) rfl (k2 ..) ?_; conv => whnf))
    (refine handp_s 61 [some 3] ?_; conv => whnf)
    (refine rq_s (by (rfl)) ?_; conv => whnf)
    (focus (apply callpe_s (f := 61); (· repeat' (first | (refine sub_all ?_; simp [List.length_map]; done) | exact sub_map _ _ _ _ | apply cons_eq | apply obj_eq | apply agg_eq | apply own_eq | apply ro_eq | apply rp_eq | apply fnc_eq | rfl)); refine callp_s (f := 61) rfl (k3 ..) ?_; conv => whnf))
    (refine rq_s (by (rfl)) ?_; conv => whnf)
    (refine handp_s 93 [some 3, none] ?_; conv => whnf)
    iterate 2 (refine rq_s (by (rfl)) ?_; conv => whnf)
    (focus (apply callpe_s (f := 93); (· repeat' (first | (refine sub_all ?_; simp [List.length_map]; done) | exact sub_map _ _ _ _ | apply cons_eq | apply obj_eq | apply agg_eq | apply own_eq | apply ro_eq | apply rp_eq | apply fnc_eq | rfl)); refine callp_s (f := 93) rfl (k4 ..) ?_; conv => whnf))
    (refine rq_s (by (rfl)) ?_; conv => whnf)
    (refine rq_s (by ((simp only [decide_eq_true_eq, List.length_map]; done))) ?_; conv => whnf)
    (refine rq_s (by (rfl)) ?_; conv => whnf)
    (refine row_s (by (rfl)) ?_; conv => whnf)
    iterate 4 (refine fac_s (fun hf => ?_); conv => whnf)
    (refine rq_s (by (rfl)) ?_; conv => whnf)
    (refine aftp_s (by ((rw [w3]))) ?_; conv => whnf)
    (refine rows_s (by (rfl)) ?_; conv => whnf)
    (refine aftp_s (by rfl) ?_; conv => whnf)
    exact True.intro
  · refine ⟨4092, a4, m4, ?_, by simp [cell, inR], sle h4 (by omega)⟩
    refine Con.evP 17 [500000] rfl T_ok mix Try.func162 rfl rfl rfl rfl [.tmp 2] rfl ?_
    conv => whnf
    (refine handp_s 93 [some 3, none] ?_; conv => whnf)
    iterate 2 (refine rq_s (by (rfl)) ?_; conv => whnf)
    (focus (apply callpe_s (f := 93); (· repeat' (first | (refine sub_all ?_; simp [List.length_map]; done) | exact sub_map _ _ _ _ | apply cons_eq | apply obj_eq | apply agg_eq | apply own_eq | apply ro_eq | apply rp_eq | apply fnc_eq | rfl)); refine callp_s (f := 93) rfl (k1 ..) ?_; conv => whnf))
    (refine handp_s 93 [some 3, none] ?_; conv => whnf)
    iterate 2 (refine rq_s (by (rfl)) ?_; conv => whnf)
    (focus (apply callpe_s (f := 93); (· repeat' (first | (refine sub_all ?_; simp [List.length_map]; done) | exact sub_map _ _ _ _ | apply cons_eq | apply obj_eq | apply agg_eq | apply own_eq | apply ro_eq | apply rp_eq | apply fnc_eq | rfl)); refine callp_s (f := 93) rfl (k2 ..) ?_; conv => whnf))
    (refine handp_s 61 [some 3] ?_; conv => whnf)
    (refine rq_s (by (rfl)) ?_; conv => whnf)
    (focus (apply callpe_s (f := 61); (· repeat' (first | (refine sub_all ?_; simp [List.length_map]; done) | exact sub_map _ _ _ _ | apply cons_eq | apply obj_eq | apply agg_eq | apply own_eq | apply ro_eq | apply rp_eq | apply fnc_eq | rfl)); refine callp_s (f := 61) rfl (k3 ..) ?_; conv => whnf))
    (refine rq_s (by (rfl)) ?_; conv => whnf)
    (refine handp_s 93 [some 3, none] ?_; conv => whnf)
    iterate 2 (refine rq_s (by (rfl)) ?_; conv => whnf)
    (focus (apply callpe_s (f := 93); (· repeat' (first | (refine sub_all ?_; simp [List.length_map]; done) | exact sub_map _ _ _ _ | apply cons_eq | apply obj_eq | apply agg_eq | apply own_eq | apply ro_eq | apply rp_eq | apply fnc_eq | rfl)); refine callp_s (f := 93) rfl (k4 ..) ?_; conv => whnf))
    (refine rq_s (by (rfl)) ?_; conv => whnf)
    (refine rq_s (by ((simp only [decide_eq_true_eq, List.length_map]; done))) ?_; conv => whnf)
    (refine rq_s (by (rfl)) ?_; conv => whnf)
    (refine row_s (by (rfl)) ?_; conv => whnf)
    iterate 4 (refine fac_s (fun hf => ?_); conv => whnf)
    (refine rq_s (by (rfl)) ?_; conv => whnf)
    (refine aftp_s (by rfl) ?_; conv => whnf)
    (refine rows_s (by (rfl)) ?_; conv => whnf)
    (refine aftp_s (by rfl) ?_; conv => whnf)
    exact True.intro
  · refine ⟨v3, a4, m4, ?_, p3, sle h4 (by omega)⟩
    refine Con.evP 17 [500000] rfl T_ok mix Try.func162 rfl rfl rfl rfl [.tmp 2] rfl ?_
    conv => whnf
    (refine handp_s 93 [some 3, none] ?_; conv => whnf)
    iterate 2 (refine rq_s (by (rfl)) ?_; conv => whnf)
    (focus (apply callpe_s (f := 93); (· repeat' (first | (refine sub_all ?_; simp [List.length_map]; done) | exact sub_map _ _ _ _ | apply cons_eq | apply obj_eq | apply agg_eq | apply own_eq | apply ro_eq | apply rp_eq | apply fnc_eq | rfl)); refine callp_s (f := 93) rfl (k1 ..) ?_; conv => whnf))
    (refine handp_s 93 [some 3, none] ?_; conv => whnf)
    iterate 2 (refine rq_s (by (rfl)) ?_; conv => whnf)
    (focus (apply callpe_s (f := 93); (· repeat' (first | (refine sub_all ?_; simp [List.length_map]; done) | exact sub_map _ _ _ _ | apply cons_eq | apply obj_eq | apply agg_eq | apply own_eq | apply ro_eq | apply rp_eq | apply fnc_eq | rfl)); refine callp_s (f := 93) rfl (k2 ..) ?_; conv => whnf))
    (refine handp_s 61 [some 3] ?_; conv => whnf)
    (refine rq_s (by (rfl)) ?_; conv => whnf)
    (focus (apply callpe_s (f := 61); (· repeat' (first | (refine sub_all ?_; simp [List.length_map]; done) | exact sub_map _ _ _ _ | apply cons_eq | apply obj_eq | apply agg_eq | apply own_eq | apply ro_eq | apply rp_eq | apply fnc_eq | rfl)); refine callp_s (f := 61) rfl (k3 ..) ?_; conv => whnf))
    (refine rq_s (by (rfl)) ?_; conv => whnf)
    (refine handp_s 93 [some 3, none] ?_; conv => whnf)
    iterate 2 (refine rq_s (by (rfl)) ?_; conv => whnf)
    (focus (apply callpe_s (f := 93); (· repeat' (first | (refine sub_all ?_; simp [List.length_map]; done) | exact sub_map _ _ _ _ | apply cons_eq | apply obj_eq | apply agg_eq | apply own_eq | apply ro_eq | apply rp_eq | apply fnc_eq | rfl)); refine callp_s (f := 93) rfl (k4 ..) ?_; conv => whnf))
    (refine rq_s (by (rfl)) ?_; conv => whnf)
    (refine rq_s (by ((simp only [decide_eq_true_eq, List.length_map]; done))) ?_; conv => whnf)
    (refine rq_s (by (rfl)) ?_; conv => whnf)
    (refine row_s (by (rfl)) ?_; conv => whnf)
    iterate 4 (refine fac_s (fun hf => ?_); conv => whnf)
    (refine rq_s (by (rfl)) ?_; conv => whnf)
    (refine aftp_s (by rfl) ?_; conv => whnf)
    (refine rows_s (by (rfl)) ?_; conv => whnf)
    (refine aftp_s (by rfl) ?_; conv => whnf)
    exact True.intro
end S3
