import Derived.Test.YtkmadcdphnhciaaGreatDoorDoA
import Derived.Test.YtkmadcdphnhciaaGreatDoorAbso
import Derived.Test.YtkmadcdphnhciaaGreatDoorDoB
/- Machines: sizes, copies, comparisons; contracts. -/
set_option linter.unusedVariables false
set_option linter.unusedSimpArgs false
set_option maxRecDepth 100000
open Go Go.Abs Go.Proofs V1 H1 K1 K2 K3 K4
namespace M1


theorem c97 (x : Wd) (l : Int) (h0 : 0 ≤ l) (h1 : l ≤ 1048576) (hx : x.nm.length ≤ maxLn) : Con Tryz.prog 97 [wdV x, .int .i64 l] (undefs [wdV x, .int .i64 l]) (.int .i64 (szX x l)) := by
  unfold maxLn at hx
  have w : IntKind.i64.wrap (l - x.nm.length) = l - x.nm.length := wrap64 (by omega) (by omega)
  by_cases hn : l - x.nm.length < 0
  · have hb : decide (IntKind.i64.wrap (l - x.nm.length) < 0) = true := by rw [w]; simpa using hn
    rw [szX, if_pos hn]
    refine Con.ev 13 T_ok mix Tryz.func97 rfl rfl rfl rfl [.tmp 4] rfl ?_
    conv => whnf
    iterate 2 (apply rq_s rfl;conv=>whnf)
    (apply br_t (by assumption);conv=>whnf)
    (apply rq_s rfl;conv=>whnf)
    (refine sh_s ?_; (rfl))
  · have hb : decide (IntKind.i64.wrap (l - x.nm.length) < 0) = false := by rw [w]; simpa using hn
    rw [szX, if_neg hn]
    refine Con.ev 13 T_ok mix Tryz.func97 rfl rfl rfl rfl [.tmp 4] rfl ?_
    conv => whnf
    iterate 2 (apply rq_s rfl;conv=>whnf)
    (apply br_f (by assumption);conv=>whnf)
    (apply rq_s rfl;conv=>whnf)
    (refine sh_s ?_; ((rw [w])))

theorem c41 (xs : List Wd) (s : Int) (s0 : 0 ≤ s) (s1 : s ≤ 1048576) : Con Tryz.prog 41 [roW xs, .int .i64 s] (undefs [roW xs, .int .i64 s]) (.int .i64 (szWs xs s)) := by
  refine Con.evF 27 T_ok mix Tryz.func41 rfl rfl rfl rfl [.tmp 4] rfl fun ⟨hf0, _⟩ => ?_
  have hnm : ∀ i, i < xs.length → (xs.getD i default).nm.length ≤ maxLn := fun i hi => by
    have h1 : ∀ row ∈ xs.map wdR, ∀ x ∈ row, x.facts 0 := (hf0 1).2
    have e : xs.getD i default = xs[i] := by simp [hi]
    have h2 := h1 (wdR xs[i]) (List.mem_map.2 ⟨_, List.getElem_mem hi, rfl⟩) (.str xs[i].nm) (by simp [wdR])
    rw [e]; exact h2
  have hx := facts_len hf0
  have w0 : IntKind.i64.wrap (s - ((xs.map wdR).length : Int)) = s - xs.length := by rw [List.length_map]; exact wrap64 (by omega) (by omega)
  by_cases hn : s - xs.length < 0
  · have hb : decide (IntKind.i64.wrap (s - ((xs.map wdR).length : Int)) < 0) = true := by rw [w0]; simpa using hn
    rw [szWs, if_pos hn]
    conv => whnf
    (apply br_t (by assumption);conv=>whnf)
    (apply rq_s rfl;conv=>whnf)
    (refine sh_s ?_; (rfl))
  · have hb : decide (IntKind.i64.wrap (s - ((xs.map wdR).length : Int)) < 0) = false := by rw [w0]; simpa using hn
    rw [szWs, if_neg hn]
    conv => whnf
    (apply br_f (by assumption);conv=>whnf)
    rotate_left
    refine LoopG.rounds (α := Nat × Int) T_ok mix [0, 1, 5] [] (fun a => [(0, roW xs), (1, .int .i64 a.2), (5, .int .i64 a.1)]) (fun _ => []) (fun a => a.1 ≤ xs.length ∧ (0 ≤ a.2 ∧ a.2 ≤ 1048576) ∧ szWL (xs.drop a.1) a.2 = szWL xs (s - xs.length)) (fun a => xs.length - a.1) ?_ ?_
    · conv => whnf
      exact head_s (0, s - xs.length) ⟨by simp, ⟨by simp only; omega, by simp only; omega⟩, by simp⟩ (by rw [w0]; rfl) rfl
    · rintro ⟨i, l⟩ ⟨h1, h2, h3⟩ - -
      simp only at h1 h2 h3
      by_cases hi : i = xs.length
      · subst hi
        have hb2 : decide ((xs.length : Int) < ((xs.map wdR).length : Int)) = false := by simp
        rw [List.drop_length] at h3
        conv => whnf
        (focus (apply br_f (by (simp; done));conv=>whnf))
        (apply rq_s rfl;conv=>whnf)
        (refine sh_s ?_; ((rw [← h3]; rfl)))
      · have hi2 : i < xs.length := by omega
        have hb2 : decide ((i : Int) < ((xs.map wdR).length : Int)) = true := by simp; omega
        have k1 := c97 (xs.getD i default) l h2.1 h2.2 (hnm i hi2)
        rw [szWL_next hi2] at h3
        have hle : szX (xs.getD i default) l ≤ 1048576 := by unfold szX; split <;> omega
        by_cases hneg : szX (xs.getD i default) l < 0
        · have hb3 : decide (szX (xs.getD i default) l < 0) = true := by simpa using hneg
          rw [if_pos hneg] at h3
          conv => whnf
          (apply br_t (by assumption);conv=>whnf)
          (apply rq_s rfl;conv=>whnf)
          (refine rq_s (by refine and_s rfl ?_; simp only [lnm]; omega) ?_;conv=>whnf)
          (refine row_s (by ((try simp only [Int.toNat_natCast]); exact row_map wdR _ _ _ default (by first | omega | (simp; omega)))) ?_;conv=>whnf)
          iterate 4 (apply rq_s rfl;conv=>whnf)
          (apply lend_s;conv=>whnf)
          (refine call_s (k1 ..) ?_;conv=>whnf)
          (refine fac_s (fun hf => ?_);conv=>whnf)
          (apply br_t (by assumption);conv=>whnf)
          (apply rq_s rfl;conv=>whnf)
          (refine sh_s ?_; ((rw [← h3])))
        · have hb3 : decide (szX (xs.getD i default) l < 0) = false := by simpa using hneg
          rw [if_neg hneg] at h3
          conv => whnf
          (apply br_t (by assumption);conv=>whnf)
          (apply rq_s rfl;conv=>whnf)
          (refine rq_s (by refine and_s rfl ?_; simp only [lnm]; omega) ?_;conv=>whnf)
          (refine row_s (by ((try simp only [Int.toNat_natCast]); exact row_map wdR _ _ _ default (by first | omega | (simp; omega)))) ?_;conv=>whnf)
          iterate 4 (apply rq_s rfl;conv=>whnf)
          (apply lend_s;conv=>whnf)
          (refine call_s (k1 ..) ?_;conv=>whnf)
          (refine fac_s (fun hf => ?_);conv=>whnf)
          (apply br_f (by assumption);conv=>whnf)
          rotate_left
          exact head_s (i + 1, szX (xs.getD i default) l) ⟨⟨by simp only; omega, ⟨by simp only; omega, hle⟩, h3⟩, by simp only; omega⟩ (by rw [wrap64 (by omega) (by omega)]; rfl) rfl


def szMch (m : Mch) (l : Int) : Int := szC (szWs m.ws l) fun l => szC (szN m.co.length l) fun l => szC (szData m.da l) fun l => szC (szHost m.ho l) fun l => szC (szN m.ca.length l) id
theorem c10 (m : Mch) (l : Int) (h0 : 0 ≤ l) (h1 : l ≤ 1048576) : Con Tryz.prog 10 [mchV m, .int .i64 l] (undefs [mchV m, .int .i64 l]) (.int .i64 (szMch m l)) := by
  refine Con.ev 36 T_ok mix Tryz.func10 rfl rfl rfl rfl [.tmp 4] rfl ?_
  conv => whnf
  iterate 4 (apply rq_s rfl;conv=>whnf)
  (apply lend_s;conv=>whnf)
  (apply rows_s rfl;conv=>whnf)
  (refine call_s (c41 m.ws l h0 h1 ..) ?_;conv=>whnf)
  (refine fac_s (fun hf => ?_);conv=>whnf)
  (refine br_s ?_ ?_ <;> intro hb <;> (try simp only [cln] at hb) <;> conv=>whnf)
  (apply rq_s rfl;conv=>whnf)
  (focus (refine sh_s ?_; (first | (simp_all [szMch, szC]; done) | (simp_all [szMch, szC]; omega))))
  iterate 3 (apply rq_s rfl;conv=>whnf)
  (apply lend_s;conv=>whnf)
  (apply rows_s rfl;conv=>whnf)
  (refine call_s (c42 ..) ?_;conv=>whnf)
  (refine fac_s (fun hf => ?_);conv=>whnf)
  (refine br_s ?_ ?_ <;> intro hb <;> (try simp only [cln] at hb) <;> conv=>whnf)
  (apply rq_s rfl;conv=>whnf)
  (focus (refine sh_s ?_; (first | (simp_all [szMch, szC]; done) | (simp_all [szMch, szC]; omega))))
  iterate 8 (apply rq_s rfl;conv=>whnf)
  (apply lend_s;conv=>whnf)
  iterate 3 (apply rows_s rfl;conv=>whnf)
  (refine call_s (c43 m.da ..) ?_;conv=>whnf)
  (refine fac_s (fun hf => ?_);conv=>whnf)
  (refine br_s ?_ ?_ <;> intro hb <;> (try simp only [cln] at hb) <;> conv=>whnf)
  (apply rq_s rfl;conv=>whnf)
  (focus (refine sh_s ?_; (first | (simp_all [szMch, szC]; done) | (simp_all [szMch, szC]; omega))))
  iterate 7 (apply rq_s rfl;conv=>whnf)
  (apply lend_s;conv=>whnf)
  iterate 4 (apply rows_s rfl;conv=>whnf)
  (refine call_s (c44 m.ho ..) ?_;conv=>whnf)
  (refine fac_s (fun hf => ?_);conv=>whnf)
  (refine br_s ?_ ?_ <;> intro hb <;> (try simp only [cln] at hb) <;> conv=>whnf)
  (apply rq_s rfl;conv=>whnf)
  (focus (refine sh_s ?_; (first | (simp_all [szMch, szC]; done) | (simp_all [szMch, szC]; omega))))
  iterate 3 (apply rq_s rfl;conv=>whnf)
  (apply lend_s;conv=>whnf)
  (apply rows_s rfl;conv=>whnf)
  (refine call_s (c45 ..) ?_;conv=>whnf)
  (refine fac_s (fun hf => ?_);conv=>whnf)
  (refine br_s ?_ ?_ <;> intro hb <;> (try simp only [cln] at hb) <;> conv=>whnf)
  (apply rq_s rfl;conv=>whnf)
  (focus (refine sh_s ?_; (first | (simp_all [szMch, szC]; done) | (simp_all [szMch, szC]; omega))))
  (apply rq_s rfl;conv=>whnf)
  (focus (refine sh_s ?_; (first | (simp_all [szMch, szC]; done) | (simp_all [szMch, szC]; omega))))
def smallM (m : Mch) : Prop := m.ws.length ≤ 1048576 ∧ m.co.length ≤ 1048576 ∧ smallData m.da ∧ smallHost m.ho ∧ m.ca.length ≤ 1048576
theorem smallM_of {m : Mch} {l : Int} (h1 : 0 ≤ l) (h2 : l ≤ 1048576) (hl : MchLen m) (e : 0 ≤ szMch m l) : szMch m l ≤ l ∧ smallM m := by
  unfold szMch at e ⊢
  obtain ⟨a0, e, q0⟩ := szC_step e
  have k0 := szWs_le h1 h2 a0
  obtain ⟨a1, e, q1⟩ := szC_step e
  have k1 := szN_le (by omega) (by omega) hl.co a1
  obtain ⟨a2, e, q2⟩ := szC_step e
  have k2 := smallData_of (by omega) (by omega) hl.st hl.bk hl.ce hl.ou a2
  obtain ⟨a3, e, q3⟩ := szC_step e
  have k3 := smallHost_of (by omega) (by omega) hl.gr hl.hs hl.q hl.ds a3
  obtain ⟨a4, e, q4⟩ := szC_step e
  have k4 := szN_le (by omega) (by omega) hl.ca a4
  try simp only [id] at *
  refine ⟨by rw [q0, q1, q2, q3, q4]; (try simp only [id]); omega, k0.2, k1.2, k2.2, k3.2, k4.2⟩
theorem c13 (m : Mch) (hs : smallM m) : Con Tryz.prog 13 [mchV m] (undefs [mchV m]) (mchO m) := by
  refine Con.ev 31 T_ok mix Tryz.func13 rfl rfl rfl rfl [.cell 2 44] rfl ?_
  conv => whnf
  iterate 3 (apply rq_s rfl;conv=>whnf)
  (apply lend_s;conv=>whnf)
  (apply rows_s rfl;conv=>whnf)
  (refine call_s (c49 _ hs.1) ?_;conv=>whnf)
  (apply rq_s rfl;conv=>whnf)
  (refine fac_s (fun hf => ?_);conv=>whnf)
  iterate 2 (apply rq_s rfl;conv=>whnf)
  (apply lend_s;conv=>whnf)
  (apply rows_s rfl;conv=>whnf)
  (refine call_s (c50 _ hs.2.1) ?_;conv=>whnf)
  (apply rq_s rfl;conv=>whnf)
  (refine fac_s (fun hf => ?_);conv=>whnf)
  iterate 7 (apply rq_s rfl;conv=>whnf)
  (apply lend_s;conv=>whnf)
  iterate 3 (apply rows_s rfl;conv=>whnf)
  (refine call_s (c51 m.da hs.2.2.1 ..) ?_;conv=>whnf)
  (apply rq_s rfl;conv=>whnf)
  iterate 6 (refine fac_s (fun hf => ?_);conv=>whnf)
  iterate 6 (apply rq_s rfl;conv=>whnf)
  (apply lend_s;conv=>whnf)
  iterate 4 (apply rows_s rfl;conv=>whnf)
  (refine call_s (c52 m.ho hs.2.2.2.1 ..) ?_;conv=>whnf)
  (apply rq_s rfl;conv=>whnf)
  iterate 5 (refine fac_s (fun hf => ?_);conv=>whnf)
  iterate 2 (apply rq_s rfl;conv=>whnf)
  (apply lend_s;conv=>whnf)
  (apply rows_s rfl;conv=>whnf)
  (refine call_s (c53 _ hs.2.2.2.2) ?_;conv=>whnf)
  (apply rq_s rfl;conv=>whnf)
  (refine fac_s (fun hf => ?_);conv=>whnf)
  iterate 5 (apply rq_s rfl;conv=>whnf)
  (apply rq_s (by simp only [lnm, mkS_len, ownI, ownB, ownD, ownW, ownT, ownC, ownS]; done);conv=>whnf)
  (apply rq_s rfl;conv=>whnf)
  (apply rq_s (by simp only [lnm, mkS_len, ownI, ownB, ownD, ownW, ownT, ownC, ownS]; done);conv=>whnf)
  (apply rq_s rfl;conv=>whnf)
  (apply rq_s (by simp only [lnm, mkS_len, ownI, ownB, ownD, ownW, ownT, ownC, ownS]; done);conv=>whnf)
  (apply rq_s rfl;conv=>whnf)
  (apply rq_s (by simp only [lnm, mkS_len, ownI, ownB, ownD, ownW, ownT, ownC, ownS]; done);conv=>whnf)
  (apply rq_s rfl;conv=>whnf)
  (apply rq_s (by simp only [lnm, mkS_len, ownI, ownB, ownD, ownW, ownT, ownC, ownS]; done);conv=>whnf)
  iterate 4 (apply rq_s rfl;conv=>whnf)
  (apply rq_s (by simp only [lnm, mkS_len, ownI, ownB, ownD, ownW, ownT, ownC, ownS]; done);conv=>whnf)
  (apply rq_s rfl;conv=>whnf)
  (apply rq_s (by simp only [lnm, mkS_len, ownI, ownB, ownD, ownW, ownT, ownC, ownS]; done);conv=>whnf)
  (apply rq_s rfl;conv=>whnf)
  (apply rq_s (by simp only [lnm, mkS_len, ownI, ownB, ownD, ownW, ownT, ownC, ownS]; done);conv=>whnf)
  iterate 2 (apply rq_s rfl;conv=>whnf)
  (apply rq_s (by simp only [lnm, mkS_len, ownI, ownB, ownD, ownW, ownT, ownC, ownS]; done);conv=>whnf)
  (apply rq_s rfl;conv=>whnf)
  (apply rq_s (by simp only [lnm, mkS_len, ownI, ownB, ownD, ownW, ownT, ownC, ownS]; done);conv=>whnf)
  iterate 3 (apply rq_s rfl;conv=>whnf)
  iterate 10 (refine rows_s (by ((refine sub_all ?_; simp [List.length_map, mkS_len, ownI, ownB, ownD, ownW, ownT, ownC, ownS]; done))) ?_;conv=>whnf)
  (refine sh_s ?_; (rfl))
theorem eqM (m : Mch) : Con Tryz.prog 16 [mchV m, mchV m] (undefs [mchV m, mchV m]) (.bool true) := by
  have e1 : Con Tryz.prog 60 [roW m.ws, roW m.ws] (undefs [roW m.ws, roW m.ws]) (.bool true) := by simpa using c60 m.ws m.ws
  have e2 : Con Tryz.prog 38 [roI m.co, roI m.co] (undefs [roI m.co, roI m.co]) (.bool true) := by simpa using c38 m.co m.co
  have e3 : Con Tryz.prog 61 [datV m.da, datV m.da] (undefs [datV m.da, datV m.da]) (.bool true) := by simpa using c61 m.da m.da
  have e4 : Con Tryz.prog 62 [hstV m.ho, hstV m.ho] (undefs [hstV m.ho, hstV m.ho]) (.bool true) := by simpa using c62 m.ho m.ho
  have e5 : Con Tryz.prog 63 [roC m.ca, roC m.ca] (undefs [roC m.ca, roC m.ca]) (.bool true) := by simpa using c63 m.ca m.ca
  refine Con.ev 45 T_ok mix Tryz.func16 rfl rfl rfl rfl [.tmp 4] rfl ?_
  conv => whnf
  iterate 6 (apply rq_s rfl;conv=>whnf)
  (apply lend_s;conv=>whnf)
  iterate 2 (apply rows_s rfl;conv=>whnf)
  (refine call_s (e1 ..) ?_;conv=>whnf)
  (apply br_f rfl;conv=>whnf)
  iterate 4 (apply rq_s rfl;conv=>whnf)
  (apply lend_s;conv=>whnf)
  iterate 2 (apply rows_s rfl;conv=>whnf)
  (refine call_s (e2 ..) ?_;conv=>whnf)
  (apply br_f rfl;conv=>whnf)
  iterate 14 (apply rq_s rfl;conv=>whnf)
  (apply lend_s;conv=>whnf)
  iterate 6 (apply rows_s rfl;conv=>whnf)
  (refine call_s (e3 ..) ?_;conv=>whnf)
  (apply br_f rfl;conv=>whnf)
  iterate 12 (apply rq_s rfl;conv=>whnf)
  (apply lend_s;conv=>whnf)
  iterate 8 (apply rows_s rfl;conv=>whnf)
  (refine call_s (e4 ..) ?_;conv=>whnf)
  (apply br_f rfl;conv=>whnf)
  iterate 4 (apply rq_s rfl;conv=>whnf)
  (apply lend_s;conv=>whnf)
  iterate 2 (apply rows_s rfl;conv=>whnf)
  (refine call_s (e5 ..) ?_;conv=>whnf)
  (apply br_f rfl;conv=>whnf)
  iterate 2 (apply rq_s rfl;conv=>whnf)
  (focus (apply br_f (by (simp; done));conv=>whnf))
  iterate 2 (apply rq_s rfl;conv=>whnf)
  (focus (apply br_f (by (simp; done));conv=>whnf))
  (apply rq_s rfl;conv=>whnf)
  (refine sh_s ?_; (rfl))
theorem c46 (x : Df) (l : Int) (h0 : 0 ≤ l) (h1 : l ≤ 1048576) (hx : x.its.length ≤ maxLn) : Con Tryz.prog 46 [dfV x, .int .i64 l] (undefs [dfV x, .int .i64 l]) (.int .i64 (szY x.its.length l)) := by
  have k1 := c65 x.its l
  rw [szN_szY h0 h1 hx] at k1
  by_cases hn : szY x.its.length l < 0
  · have hb : decide (szY x.its.length l < 0) = true := by simpa using hn
    have e : szY x.its.length l = -1 := by
      unfold szY at hn ⊢
      by_cases hq : l - (x.its.length : Int) < 0
      · rw [if_pos hq]
      · rw [if_neg hq] at hn; omega
    rw [e] at k1 hb ⊢
    refine Con.ev 12 T_ok mix Tryz.func46 rfl rfl rfl rfl [.tmp 4] rfl ?_
    conv => whnf
    iterate 4 (apply rq_s rfl;conv=>whnf)
    (apply lend_s;conv=>whnf)
    (apply rows_s rfl;conv=>whnf)
    (refine call_s (k1 ..) ?_;conv=>whnf)
    (refine fac_s (fun hf => ?_);conv=>whnf)
    (apply br_t rfl;conv=>whnf)
    (apply rq_s rfl;conv=>whnf)
    (refine sh_s ?_; (rfl))
  · have hb : decide (szY x.its.length l < 0) = false := by simpa using hn
    refine Con.ev 12 T_ok mix Tryz.func46 rfl rfl rfl rfl [.tmp 4] rfl ?_
    conv => whnf
    iterate 4 (apply rq_s rfl;conv=>whnf)
    (apply lend_s;conv=>whnf)
    (apply rows_s rfl;conv=>whnf)
    (refine call_s (k1 ..) ?_;conv=>whnf)
    (refine fac_s (fun hf => ?_);conv=>whnf)
    (apply br_f (by assumption);conv=>whnf)
    (apply rq_s rfl;conv=>whnf)
    (refine sh_s ?_; (rfl))

theorem c11 (xs : List Df) (s : Int) (s0 : 0 ≤ s) (s1 : s ≤ 1048576) : Con Tryz.prog 11 [roDf xs, .int .i64 s] (undefs [roDf xs, .int .i64 s]) (.int .i64 (szDs xs s)) := by
  refine Con.evF 27 T_ok mix Tryz.func11 rfl rfl rfl rfl [.tmp 4] rfl fun ⟨hf0, _⟩ => ?_
  have hnm : ∀ i, i < xs.length → (xs.getD i default).its.length ≤ maxLn := fun i hi => by
    have h1 : ∀ row ∈ xs.map dfR, ∀ x ∈ row, x.facts 1 := (hf0 2).2
    have e : xs.getD i default = xs[i] := by simp [hi]
    have h2 : (roT xs[i].its).facts 1 := h1 (dfR xs[i]) (List.mem_map.2 ⟨_, List.getElem_mem hi, rfl⟩) (roT xs[i].its) (by simp [dfR])
    have h3 : (xs[i].its.map itR).length ≤ maxLn := h2.1
    rw [List.length_map] at h3
    rw [e]; exact h3
  have hx := facts_len hf0
  have w0 : IntKind.i64.wrap (s - ((xs.map dfR).length : Int)) = s - xs.length := by rw [List.length_map]; exact wrap64 (by omega) (by omega)
  by_cases hn : s - xs.length < 0
  · have hb : decide (IntKind.i64.wrap (s - ((xs.map dfR).length : Int)) < 0) = true := by rw [w0]; simpa using hn
    rw [szDs, if_pos hn]
    conv => whnf
    (apply br_t (by assumption);conv=>whnf)
    (apply rq_s rfl;conv=>whnf)
    (refine sh_s ?_; (rfl))
  · have hb : decide (IntKind.i64.wrap (s - ((xs.map dfR).length : Int)) < 0) = false := by rw [w0]; simpa using hn
    rw [szDs, if_neg hn]
    conv => whnf
    (apply br_f (by assumption);conv=>whnf)
    rotate_left
    refine LoopG.rounds (α := Nat × Int) T_ok mix [0, 1, 5] [] (fun a => [(0, roDf xs), (1, .int .i64 a.2), (5, .int .i64 a.1)]) (fun _ => []) (fun a => a.1 ≤ xs.length ∧ (0 ≤ a.2 ∧ a.2 ≤ 1048576) ∧ szDL (xs.drop a.1) a.2 = szDL xs (s - xs.length)) (fun a => xs.length - a.1) ?_ ?_
    · conv => whnf
      exact head_s (0, s - xs.length) ⟨by simp, ⟨by simp only; omega, by simp only; omega⟩, by simp⟩ (by rw [w0]; rfl) rfl
    · rintro ⟨i, l⟩ ⟨h1, h2, h3⟩ - -
      simp only at h1 h2 h3
      by_cases hi : i = xs.length
      · subst hi
        have hb2 : decide ((xs.length : Int) < ((xs.map dfR).length : Int)) = false := by simp
        rw [List.drop_length] at h3
        conv => whnf
        (focus (apply br_f (by (simp; done));conv=>whnf))
        (apply rq_s rfl;conv=>whnf)
        (refine sh_s ?_; ((rw [← h3]; rfl)))
      · have hi2 : i < xs.length := by omega
        have hb2 : decide ((i : Int) < ((xs.map dfR).length : Int)) = true := by simp; omega
        have k1 := c46 (xs.getD i default) l h2.1 h2.2 (hnm i hi2)
        rw [szDL_next hi2] at h3
        have hle : szY (xs.getD i default).its.length l ≤ 1048576 := by unfold szY; split <;> omega
        by_cases hneg : szY (xs.getD i default).its.length l < 0
        · have hb3 : decide (szY (xs.getD i default).its.length l < 0) = true := by simpa using hneg
          rw [if_pos hneg] at h3
          conv => whnf
          (apply br_t (by assumption);conv=>whnf)
          (apply rq_s rfl;conv=>whnf)
          (refine rq_s (by refine and_s rfl ?_; simp only [lnm]; omega) ?_;conv=>whnf)
          (refine row_s (by ((try simp only [Int.toNat_natCast]); exact row_map dfR _ _ _ default (by first | omega | (simp; omega)))) ?_;conv=>whnf)
          iterate 3 (apply rq_s rfl;conv=>whnf)
          (apply lend_s;conv=>whnf)
          (apply rows_s rfl;conv=>whnf)
          (refine call_s (k1 ..) ?_;conv=>whnf)
          (refine fac_s (fun hf => ?_);conv=>whnf)
          (apply br_t (by assumption);conv=>whnf)
          (apply rq_s rfl;conv=>whnf)
          (refine sh_s ?_; ((rw [← h3])))
        · have hb3 : decide (szY (xs.getD i default).its.length l < 0) = false := by simpa using hneg
          rw [if_neg hneg] at h3
          conv => whnf
          (apply br_t (by assumption);conv=>whnf)
          (apply rq_s rfl;conv=>whnf)
          (refine rq_s (by refine and_s rfl ?_; simp only [lnm]; omega) ?_;conv=>whnf)
          (refine row_s (by ((try simp only [Int.toNat_natCast]); exact row_map dfR _ _ _ default (by first | omega | (simp; omega)))) ?_;conv=>whnf)
          iterate 3 (apply rq_s rfl;conv=>whnf)
          (apply lend_s;conv=>whnf)
          (apply rows_s rfl;conv=>whnf)
          (refine call_s (k1 ..) ?_;conv=>whnf)
          (refine fac_s (fun hf => ?_);conv=>whnf)
          (apply br_f (by assumption);conv=>whnf)
          rotate_left
          exact head_s (i + 1, szY (xs.getD i default).its.length l) ⟨⟨by simp only; omega, ⟨by simp only; omega, hle⟩, h3⟩, by simp only; omega⟩ (by rw [wrap64 (by omega) (by omega)]; rfl) rfl

theorem c54 (d : Df) (h : d.its.length ≤ 1048576) : Con Tryz.prog 54 [dfV d] (undefs [dfV d]) (dfV d) := by
  refine Con.ev 12 T_ok mix Tryz.func54 rfl rfl rfl rfl [.cell 2 92] rfl ?_
  conv => whnf
  iterate 5 (apply rq_s rfl;conv=>whnf)
  (apply lend_s;conv=>whnf)
  (apply rows_s rfl;conv=>whnf)
  (refine call_s (c67 _ h) ?_;conv=>whnf)
  (apply rq_s rfl;conv=>whnf)
  (refine fac_s (fun hf => ?_);conv=>whnf)
  iterate 2 (apply rq_s rfl;conv=>whnf)
  (apply rq_s (by simp only [lnm, mkS_len, ownI, ownB, ownD, ownW, ownT, ownC, ownS]; done);conv=>whnf)
  (apply rq_s rfl;conv=>whnf)
  (refine rows_s (by ((refine sub_all ?_; simp [List.length_map, mkS_len, ownI, ownB, ownD, ownW, ownT, ownC, ownS]; done))) ?_;conv=>whnf)
  rotate_left
  exact ⟨Sh.agg ⟨Sh.refl _, Sh.own_ro (by decide) _ _, trivial⟩⟩

theorem c14 (rs : List Df) (h : rs.length ≤ 1048576) (hr : ∀ r ∈ rs, r.its.length ≤ 1048576) : Con Tryz.prog 14 [roDf rs] (undefs [roDf rs]) (ownDf rs) := by
  refine Con.ev 23 T_ok mix Tryz.func14 rfl rfl rfl rfl [.tmp 2] rfl ?_
  conv => whnf
  iterate 2 (apply rq_s rfl;conv=>whnf)
  (apply rq_s (by (((simp [maxBytes, AV.plain]; omega))));conv=>whnf)
  rotate_left
  refine LoopG.rounds (α := Nat) T_ok mix [0, 3, 4] [(7, 7)] (fun i => [(0, roDf rs), (3, .ref 7 0 rs.length), (4, .int .i64 i)]) (fun i => [(7, .live ⟨true, 1, zDf, cpyR dfR zDf rs i⟩)]) (fun i => i ≤ rs.length) (fun i => rs.length - i) ?_ ?_
  · conv => whnf
    exact head_s 0 (by simp) (by simp [roDf]) (by simp [cpyR_zero, zDf])
  · intro i h1 _ _
    conv => whnf
    (refine br_s ?_ ?_ <;> intro hb <;> (try simp only [cln] at hb) <;> conv=>whnf)
    (apply rq_s rfl;conv=>whnf)
    (refine rq_s (by refine and_s rfl ?_; simp only [lnm]; omega) ?_;conv=>whnf)
    (refine row_s (by ((try simp only [Int.toNat_natCast]); exact row_map dfR _ _ _ default (by first | omega | (simp; omega)))) ?_;conv=>whnf)
    iterate 2 (apply rq_s rfl;conv=>whnf)
    (apply lend_s;conv=>whnf)
    (apply rows_s rfl;conv=>whnf)
    rotate_left
    (apply rq_s (by simp only [lnm, mkS_len, ownI, ownB, ownD, ownW, ownT, ownC, ownS]; done);conv=>whnf)
    (apply rq_s rfl;conv=>whnf)
    (apply rows_s rfl;conv=>whnf)
    rotate_left
    · have hi : i < rs.length := hb
      have := hr (rs.getD i default) (by simp [hi])
      (refine call_s (c54 _ this) ?_;conv=>whnf)
      (apply rq_s rfl;conv=>whnf)
      (apply rq_s (by simp only [lnm, mkS_len, ownI, ownB, ownD, ownW, ownT, ownC, ownS]; done);conv=>whnf)
      (refine rq_s (by refine and_s rfl ?_; simp only [lnm]; omega) ?_;conv=>whnf)
      (apply rows_s rfl;conv=>whnf)
      iterate 2 (refine fac_s (fun hf => ?_);conv=>whnf)
      rotate_left
      refine head_s (i + 1) ⟨by omega, by omega⟩ (by rw [wrap64 (by omega) (by omega)]; rfl) (congrArg (fun r => [(7, MB.live ⟨true, 1, zDf, r⟩)]) ?_)
      simp only [Nat.zero_add, Int.toNat_natCast]
      exact cpyR_next default hi rfl rfl
    · obtain rfl : i = rs.length := by omega
      (refine sh_s ?_; (simp [subA, cpyR_all, List.take_of_length_le, zDf, ownDf]))
theorem eqDf (d : Df) : Con Tryz.prog 64 [dfV d, dfV d] (undefs [dfV d, dfV d]) (.bool true) := by
  have e1 : Con Tryz.prog 74 [roT d.its, roT d.its] (undefs [roT d.its, roT d.its]) (.bool true) := by simpa using c74 d.its d.its
  refine Con.ev 16 T_ok mix Tryz.func64 rfl rfl rfl rfl [.tmp 4] rfl ?_
  conv => whnf
  iterate 4 (apply rq_s rfl;conv=>whnf)
  (focus (apply br_f (by (simp; done));conv=>whnf))
  iterate 4 (apply rq_s rfl;conv=>whnf)
  (apply lend_s;conv=>whnf)
  iterate 2 (apply rows_s rfl;conv=>whnf)
  (refine call_s (e1 ..) ?_;conv=>whnf)
  (apply br_f rfl;conv=>whnf)
  (apply rq_s rfl;conv=>whnf)
  (refine sh_s ?_; (rfl))
theorem eqDs (xs : List Df) : Con Tryz.prog 17 [roDf xs, roDf xs] (undefs [roDf xs, roDf xs]) (.bool true) := by
  refine Con.evF 27 T_ok mix Tryz.func17 rfl rfl rfl rfl [.tmp 4] rfl fun ⟨hx, _⟩ => ?_
  have hx := facts_len hx
  conv => whnf
  (focus (apply br_f (by (simp; done));conv=>whnf))
  rotate_left
  refine LoopG.rounds (α := Nat) T_ok mix [0, 1, 5] [] (fun i => [(0, roDf xs), (1, roDf xs), (5, .int .i64 i)]) (fun _ => []) (fun i => i ≤ xs.length) (fun i => xs.length - i) ?_ ?_
  · conv => whnf
    exact head_s 0 (by simp) rfl rfl
  · intro i h1 _ _
    conv => whnf
    (refine br_s ?_ ?_ <;> intro hb <;> (try simp only [cln] at hb) <;> conv=>whnf)
    iterate 3 (refine ChkS.mk (by kernel_rfl) ?_;conv=>whnf)
    (apply rq_s rfl;conv=>whnf)
    (refine rq_s (by refine and_s rfl ?_; simp only [lnm]; omega) ?_;conv=>whnf)
    (refine ChkS.mk (by kernel_rfl) ?_;conv=>whnf)
    (refine row_s (by ((try simp only [Int.toNat_natCast]); exact row_map dfR _ _ _ default (by first | omega | (simp; omega)))) ?_;conv=>whnf)
    iterate 3 (refine ChkS.mk (by kernel_rfl) ?_;conv=>whnf)
    (apply rq_s rfl;conv=>whnf)
    (refine rq_s (by refine and_s rfl ?_; simp only [lnm]; omega) ?_;conv=>whnf)
    (refine ChkS.mk (by kernel_rfl) ?_;conv=>whnf)
    (refine row_s (by ((try simp only [Int.toNat_natCast]); exact row_map dfR _ _ _ default (by first | omega | (simp; omega)))) ?_;conv=>whnf)
    (refine ChkS.mk (by kernel_rfl) ?_;conv=>whnf)
    iterate 4 (apply rq_s rfl;conv=>whnf)
    iterate 2 (apply rows_s rfl;conv=>whnf)
    (refine call_s (eqDf ..) ?_;conv=>whnf)
    iterate 2 (refine ChkS.mk (by kernel_rfl) ?_;conv=>whnf)
    (apply br_f rfl;conv=>whnf)
    rotate_left
    (apply rq_s rfl;conv=>whnf)
    rotate_left
    · exact head_s (i + 1) ⟨by omega, by omega⟩ (by rw [wrap64 (by omega) (by omega)]; rfl) rfl
    · exact sh_s rfl
end M1

/- Machines: what is valid; contracts. -/
set_option linter.unusedVariables false
set_option linter.unusedSimpArgs false
set_option maxRecDepth 100000
open Go Go.Abs Go.Proofs V1 H1 K1 K2 K3 K4 M1
namespace M2


theorem last_eq {cs : List Cal} (h : 0 < cs.length) : lastOK cs = !(cs.getD ((cs.length : Int) - 1).toNat default).ca := by
  have e : ((cs.length : Int) - 1).toNat = cs.length - 1 := by omega
  have h0 : decide (cs.length = 0) = false := decide_eq_false (by omega)
  rw [e, lastOK, h0, Bool.false_or]
theorem last_0 {cs : List Cal} (h : cs.length = 0) : lastOK cs = true := by simp [lastOK, h]
theorem callsAt_end {n : Nat} {fl : Int} {cs : List Cal} : callsAt n fl (cs.drop cs.length) = true := by rw [List.drop_length]; rfl
theorem c55 (m : Mch) : Con Tryz.prog 55 [mchV m] (undefs [mchV m]) (.bool (mchOK m)) := by
  refine Con.evF 103 T_ok mix Tryz.func55 rfl rfl rfl rfl [.tmp 2] rfl fun ⟨hx, _⟩ => ?_
  have hl := (mch_facts hx).ca
  have e1 : ((m.co.length : Int) ≤ 400) = (m.co.length ≤ 400) := propext ⟨fun _ => by omega, fun _ => by omega⟩
  conv => whnf
  iterate 3 (apply rq_s rfl;conv=>whnf)
  (apply lend_s;conv=>whnf)
  (apply rows_s rfl;conv=>whnf)
  (refine call_s (c110 ..) ?_;conv=>whnf)
  (refine br_s ?_ ?_ <;> intro hb <;> (try simp only [cln] at hb) <;> conv=>whnf)
  iterate 30 (apply br_t rfl;conv=>whnf)
  (apply rq_s rfl;conv=>whnf)
  (focus (refine sh_s ?_; (first | (simp_all [mchOK, callsOK]; done) | (simp_all [mchOK, callsOK]; omega))))
  (apply rq_s rfl;conv=>whnf)
  iterate 2 (apply br_f rfl;conv=>whnf)
  iterate 2 (apply rq_s rfl;conv=>whnf)
  (apply lend_s;conv=>whnf)
  (apply rows_s rfl;conv=>whnf)
  (refine call_s (c111 ..) ?_;conv=>whnf)
  (apply br_f rfl;conv=>whnf)
  (refine br_s ?_ ?_ <;> intro hb <;> (try simp only [cln] at hb) <;> conv=>whnf)
  iterate 25 (apply br_t rfl;conv=>whnf)
  (apply rq_s rfl;conv=>whnf)
  (focus (refine sh_s ?_; (first | (simp_all [mchOK, callsOK]; done) | (simp_all [mchOK, callsOK]; omega))))
  (apply rq_s rfl;conv=>whnf)
  iterate 2 (apply br_f rfl;conv=>whnf)
  iterate 6 (apply rq_s rfl;conv=>whnf)
  (apply lend_s;conv=>whnf)
  iterate 3 (apply rows_s rfl;conv=>whnf)
  (refine call_s (c112 m.da ..) ?_;conv=>whnf)
  (apply br_f rfl;conv=>whnf)
  (refine br_s ?_ ?_ <;> intro hb <;> (try simp only [cln] at hb) <;> conv=>whnf)
  iterate 20 (apply br_t rfl;conv=>whnf)
  (apply rq_s rfl;conv=>whnf)
  (focus (refine sh_s ?_; (first | (simp_all [mchOK, callsOK]; done) | (simp_all [mchOK, callsOK]; omega))))
  (apply rq_s rfl;conv=>whnf)
  iterate 2 (apply br_f rfl;conv=>whnf)
  iterate 5 (apply rq_s rfl;conv=>whnf)
  (apply lend_s;conv=>whnf)
  iterate 4 (apply rows_s rfl;conv=>whnf)
  (refine call_s (c113 m.ho ..) ?_;conv=>whnf)
  (apply br_f rfl;conv=>whnf)
  (refine br_s ?_ ?_ <;> intro hb <;> (try simp only [cln] at hb) <;> conv=>whnf)
  iterate 15 (apply br_t rfl;conv=>whnf)
  (apply rq_s rfl;conv=>whnf)
  (focus (refine sh_s ?_; (first | (simp_all [mchOK, callsOK]; done) | (simp_all [mchOK, callsOK]; omega))))
  (apply rq_s rfl;conv=>whnf)
  iterate 3 (apply br_f rfl;conv=>whnf)
  (refine br_s ?_ ?_ <;> intro hb <;> (try simp only [cln] at hb) <;> conv=>whnf)
  iterate 10 (apply br_t rfl;conv=>whnf)
  (apply rq_s rfl;conv=>whnf)
  (focus (refine sh_s ?_; (first | (simp_all [mchOK, callsOK]; done) | (simp_all [mchOK, callsOK]; omega))))
  (apply rq_s rfl;conv=>whnf)
  iterate 2 (apply br_f rfl;conv=>whnf)
  iterate 3 (apply rq_s rfl;conv=>whnf)
  (apply lend_s;conv=>whnf)
  (refine call_s (c57 ..) ?_;conv=>whnf)
  (apply br_f rfl;conv=>whnf)
  (refine br_s ?_ ?_ <;> intro hb <;> (try simp only [cln] at hb) <;> conv=>whnf)
  iterate 5 (apply br_t rfl;conv=>whnf)
  (apply rq_s rfl;conv=>whnf)
  (focus (refine sh_s ?_; (first | (simp_all [mchOK, callsOK]; done) | (simp_all [mchOK, callsOK]; omega))))
  (apply rq_s rfl;conv=>whnf)
  iterate 2 (apply br_f rfl;conv=>whnf)
  iterate 3 (apply rq_s rfl;conv=>whnf)
  (apply lend_s;conv=>whnf)
  (refine call_s (c57 ..) ?_;conv=>whnf)
  (apply br_f rfl;conv=>whnf)
  (refine br_s ?_ ?_ <;> intro hb <;> (try simp only [cln] at hb) <;> conv=>whnf)
  (apply rq_s rfl;conv=>whnf)
  (focus (refine sh_s ?_; (first | (simp_all [mchOK, callsOK]; done) | (simp_all [mchOK, callsOK]; omega))))
  (apply rq_s rfl;conv=>whnf)
  rotate_left
  have h16 : m.ca.length ≤ 16 := by omega
  have fin : mchOK m = (callsAt m.da.bk.length 0 m.ca && lastOK m.ca) := by simp_all [mchOK, callsOK]
  rw [fin]
  refine LoopG.rounds (α := Nat × Int) T_ok mix [1, 3, 47, 48, 49] [(1, 1)] (fun a => [(1, .ptr 1 0 0), (3, .int .i64 a.2), (47, roC m.ca), (48, .int .i64 m.ca.length), (49, .int .i64 a.1)]) (fun _ => [(1, .live ⟨false, 0, mchR m, [mchR m]⟩)]) (fun a => a.1 ≤ m.ca.length ∧ callsAt m.da.bk.length a.2 (m.ca.drop a.1) = callsAt m.da.bk.length 0 m.ca) (fun a => m.ca.length - a.1) ?_ ?_
  · conv => whnf
    exact head_s (0, 0) ⟨by simp, by simp⟩ (by simp [roC]) rfl
  · rintro ⟨i, fl⟩ ⟨h1, h2⟩ - -
    simp only at h1 h2 ⊢
    conv => whnf
    (refine br_s ?_ ?_ <;> intro hb <;> (try simp only [cln] at hb) <;> conv=>whnf)
    (apply rq_s rfl;conv=>whnf)
    (refine rq_s (by refine and_s rfl ?_; simp only [lnm]; omega) ?_;conv=>whnf)
    (refine row_s (by ((try simp only [Int.toNat_natCast]); exact row_map calR _ _ _ default (by first | omega | (simp; omega)))) ?_;conv=>whnf)
    iterate 4 (apply rq_s rfl;conv=>whnf)
    (apply lend_s;conv=>whnf)
    (refine call_s (c57 ..) ?_;conv=>whnf)
    (refine br_s ?_ ?_ <;> intro hb <;> (try simp only [cln] at hb) <;> conv=>whnf)
    iterate 21 (apply br_t rfl;conv=>whnf)
    (apply rq_s rfl;conv=>whnf)
    rotate_left
    (apply rq_s rfl;conv=>whnf)
    iterate 3 (apply br_f rfl;conv=>whnf)
    (apply rq_s rfl;conv=>whnf)
    (apply br_f rfl;conv=>whnf)
    (apply rq_s rfl;conv=>whnf)
    iterate 3 (apply br_f rfl;conv=>whnf)
    iterate 3 (apply rq_s rfl;conv=>whnf)
    (apply lend_s;conv=>whnf)
    (refine call_s (c57 ..) ?_;conv=>whnf)
    (apply br_f rfl;conv=>whnf)
    (refine br_s ?_ ?_ <;> intro hb <;> (try simp only [cln] at hb) <;> conv=>whnf)
    iterate 11 (apply br_t rfl;conv=>whnf)
    (apply rq_s rfl;conv=>whnf)
    rotate_left
    (apply rq_s rfl;conv=>whnf)
    iterate 2 (apply br_f rfl;conv=>whnf)
    iterate 3 (apply rq_s rfl;conv=>whnf)
    (apply lend_s;conv=>whnf)
    (refine call_s (c57 ..) ?_;conv=>whnf)
    (apply br_f rfl;conv=>whnf)
    (refine br_s ?_ ?_ <;> intro hb <;> (try simp only [cln] at hb) <;> conv=>whnf)
    iterate 6 (apply br_t rfl;conv=>whnf)
    (apply rq_s rfl;conv=>whnf)
    rotate_left
    (apply rq_s rfl;conv=>whnf)
    iterate 3 (apply br_f rfl;conv=>whnf)
    (refine br_s ?_ ?_ <;> intro hb <;> (try simp only [cln] at hb) <;> conv=>whnf)
    (apply rq_s rfl;conv=>whnf)
    iterate 2 (apply br_t rfl;conv=>whnf)
    (apply br_f rfl;conv=>whnf)
    (refine br_s ?_ ?_ <;> intro hb <;> (try simp only [cln] at hb) <;> conv=>whnf)
    (apply rq_s rfl;conv=>whnf)
    rotate_left
    (apply rq_s rfl;conv=>whnf)
    rotate_left
    iterate 5 (apply br_f rfl;conv=>whnf)
    (apply rq_s rfl;conv=>whnf)
    rotate_left
    (apply rq_s rfl;conv=>whnf)
    (refine br_s ?_ ?_ <;> intro hb <;> (try simp only [cln] at hb) <;> conv=>whnf)
    iterate 10 (apply br_t rfl;conv=>whnf)
    (apply rq_s rfl;conv=>whnf)
    rotate_left
    (apply rq_s rfl;conv=>whnf)
    iterate 2 (apply br_f rfl;conv=>whnf)
    (apply rq_s rfl;conv=>whnf)
    iterate 4 (apply br_f rfl;conv=>whnf)
    iterate 2 (apply rq_s (by (((simp only [List.length_map]; rw [wrap64 (by omega) (by omega)]; simp; omega))));conv=>whnf)
    (apply br_f rfl;conv=>whnf)
    (apply rq_s rfl;conv=>whnf)
    (apply br_f rfl;conv=>whnf)
    (refine row_s (by ((simp only [List.length_map]; rewrite [wrap64 (by omega) (by omega)]; exact row_map calR _ _ _ default (by omega)))) ?_;conv=>whnf)
    (apply br_f rfl;conv=>whnf)
    (apply rq_s rfl;conv=>whnf)
    rotate_left
    all_goals (try (have hi : i < m.ca.length := (by assumption)))
    all_goals (try (rw [callsAt_next hi] at h2))
    all_goals (first
      | (refine sh_s ?_; rw [← h2]; simp_all [callOK]; done)
      | (refine head_s (i + 1, (m.ca.getD i default).fl) ⟨⟨by simp only; omega, by rw [← h2]; simp_all [callOK, show inR 0 0 31 = true from rfl]⟩, by simp only; omega⟩ (by rw [wrap64 (by omega) (by omega)]; rfl) rfl)
      | skip)
    · obtain rfl : i = m.ca.length := by omega
      rw [callsAt_end] at h2
      exact sh_s (by rw [← h2, last_0 (by omega)]; rfl)
    · obtain rfl : i = m.ca.length := by omega
      rw [callsAt_end] at h2
      exact sh_s (by rw [← h2, last_eq (by omega), Bool.true_and]; rfl)
theorem c104 (m : Mch) : Con Tryz.prog 104 [mchV m] (undefs [mchV m]) (.bool (callsOK m.da.bk.length m.ca)) := by
  refine Con.evF 75 T_ok mix Tryz.func104 rfl rfl rfl rfl [.tmp 2] rfl fun ⟨hx, _⟩ => ?_
  have hl := (mch_facts hx).ca
  conv => whnf
  iterate 2 (apply rq_s rfl;conv=>whnf)
  (refine br_s ?_ ?_ <;> intro hb <;> (try simp only [cln] at hb) <;> conv=>whnf)
  (apply rq_s rfl;conv=>whnf)
  iterate 2 (rotate_left)
  · have h16 : ¬ m.ca.length ≤ 16 := by omega
    exact sh_s (by simp [callsOK, h16])
  have h16 : m.ca.length ≤ 16 := by omega
  have fin : callsOK m.da.bk.length m.ca = (callsAt m.da.bk.length 0 m.ca && lastOK m.ca) := by simp [callsOK, h16]
  rw [fin]
  refine LoopG.rounds (α := Nat × Int) T_ok mix [1, 3, 4] [(1, 1)] (fun a => [(1, .ptr 1 0 0), (3, .int .i64 a.2), (4, .int .i64 a.1)]) (fun _ => [(1, .live ⟨false, 0, mchR m, [mchR m]⟩)]) (fun a => a.1 ≤ m.ca.length ∧ callsAt m.da.bk.length a.2 (m.ca.drop a.1) = callsAt m.da.bk.length 0 m.ca) (fun a => m.ca.length - a.1) ?_ ?_
  · conv => whnf
    exact head_s (0, 0) ⟨by simp, by simp⟩ rfl rfl
  · rintro ⟨i, fl⟩ ⟨h1, h2⟩ - -
    simp only at h1 h2 ⊢
    conv => whnf
    (apply rq_s rfl;conv=>whnf)
    (refine br_s ?_ ?_ <;> intro hb <;> (try simp only [cln] at hb) <;> conv=>whnf)
    iterate 2 (apply rq_s rfl;conv=>whnf)
    (refine rq_s (by refine and_s rfl ?_; simp only [lnm]; omega) ?_;conv=>whnf)
    (refine row_s (by ((try simp only [Int.toNat_natCast]); exact row_map calR _ _ _ default (by first | omega | (simp; omega)))) ?_;conv=>whnf)
    iterate 4 (apply rq_s rfl;conv=>whnf)
    (apply lend_s;conv=>whnf)
    (refine call_s (c79 ..) ?_;conv=>whnf)
    (refine br_s ?_ ?_ <;> intro hb <;> (try simp only [cln] at hb) <;> conv=>whnf)
    iterate 21 (apply br_t rfl;conv=>whnf)
    (apply rq_s rfl;conv=>whnf)
    rotate_left
    (apply rq_s rfl;conv=>whnf)
    iterate 3 (apply br_f rfl;conv=>whnf)
    (apply rq_s rfl;conv=>whnf)
    (apply br_f rfl;conv=>whnf)
    (apply rq_s rfl;conv=>whnf)
    iterate 3 (apply br_f rfl;conv=>whnf)
    iterate 3 (apply rq_s rfl;conv=>whnf)
    (apply lend_s;conv=>whnf)
    (refine call_s (c79 ..) ?_;conv=>whnf)
    (apply br_f rfl;conv=>whnf)
    (refine br_s ?_ ?_ <;> intro hb <;> (try simp only [cln] at hb) <;> conv=>whnf)
    iterate 11 (apply br_t rfl;conv=>whnf)
    (apply rq_s rfl;conv=>whnf)
    rotate_left
    (apply rq_s rfl;conv=>whnf)
    iterate 2 (apply br_f rfl;conv=>whnf)
    (refine br_s ?_ ?_ <;> intro hb <;> (try simp only [cln] at hb) <;> conv=>whnf)
    (apply rq_s rfl;conv=>whnf)
    iterate 2 (apply br_t rfl;conv=>whnf)
    iterate 3 (apply rq_s rfl;conv=>whnf)
    (apply lend_s;conv=>whnf)
    (refine call_s (c79 ..) ?_;conv=>whnf)
    (apply br_t rfl;conv=>whnf)
    (apply br_f rfl;conv=>whnf)
    (refine br_s ?_ ?_ <;> intro hb <;> (try simp only [cln] at hb) <;> conv=>whnf)
    iterate 6 (apply br_t rfl;conv=>whnf)
    (apply rq_s rfl;conv=>whnf)
    rotate_left
    (apply rq_s rfl;conv=>whnf)
    iterate 3 (apply br_f rfl;conv=>whnf)
    (refine br_s ?_ ?_ <;> intro hb <;> (try simp only [cln] at hb) <;> conv=>whnf)
    (apply rq_s rfl;conv=>whnf)
    iterate 2 (apply br_t rfl;conv=>whnf)
    (apply br_f rfl;conv=>whnf)
    (refine br_s ?_ ?_ <;> intro hb <;> (try simp only [cln] at hb) <;> conv=>whnf)
    (apply rq_s rfl;conv=>whnf)
    rotate_left
    (apply rq_s rfl;conv=>whnf)
    rotate_left
    iterate 5 (apply br_f rfl;conv=>whnf)
    (apply rq_s rfl;conv=>whnf)
    rotate_left
    iterate 6 (apply br_f rfl;conv=>whnf)
    (apply rq_s rfl;conv=>whnf)
    iterate 3 (apply br_f rfl;conv=>whnf)
    (refine br_s ?_ ?_ <;> intro hb <;> (try simp only [cln] at hb) <;> conv=>whnf)
    (apply rq_s rfl;conv=>whnf)
    iterate 2 (apply br_t rfl;conv=>whnf)
    (apply br_f rfl;conv=>whnf)
    (refine br_s ?_ ?_ <;> intro hb <;> (try simp only [cln] at hb) <;> conv=>whnf)
    (apply rq_s rfl;conv=>whnf)
    rotate_left
    (apply rq_s rfl;conv=>whnf)
    rotate_left
    iterate 5 (apply br_f rfl;conv=>whnf)
    (apply rq_s rfl;conv=>whnf)
    rotate_left
    (apply rq_s rfl;conv=>whnf)
    (refine br_s ?_ ?_ <;> intro hb <;> (try simp only [cln] at hb) <;> conv=>whnf)
    iterate 10 (apply br_t rfl;conv=>whnf)
    (apply rq_s rfl;conv=>whnf)
    rotate_left
    (apply rq_s rfl;conv=>whnf)
    iterate 2 (apply br_f rfl;conv=>whnf)
    (apply rq_s rfl;conv=>whnf)
    iterate 4 (apply br_f rfl;conv=>whnf)
    iterate 2 (apply rq_s (by (((simp only [List.length_map]; rw [wrap64 (by omega) (by omega)]; simp; omega))));conv=>whnf)
    (apply br_f rfl;conv=>whnf)
    (apply rq_s rfl;conv=>whnf)
    (apply br_f rfl;conv=>whnf)
    (refine row_s (by ((simp only [List.length_map]; rewrite [wrap64 (by omega) (by omega)]; exact row_map calR _ _ _ default (by omega)))) ?_;conv=>whnf)
    (apply br_f rfl;conv=>whnf)
    (apply rq_s rfl;conv=>whnf)
    rotate_left
    all_goals (try (have hi : i < m.ca.length := (by assumption)))
    all_goals (try (rw [callsAt_next hi] at h2))
    all_goals (first
      | (refine sh_s ?_; rw [← h2]; simp_all [callOK]; done)
      | (refine head_s (i + 1, (m.ca.getD i default).fl) ⟨⟨by simp only; omega, by rw [← h2]; simp_all [callOK, show inR 0 0 31 = true from rfl]⟩, by simp only; omega⟩ (by rw [wrap64 (by omega) (by omega)]; rfl) rfl)
      | skip)
    · obtain rfl : i = m.ca.length := by omega
      rw [callsAt_end] at h2
      exact sh_s (by rw [← h2, last_0 (by omega)]; rfl)
    · obtain rfl : i = m.ca.length := by omega
      rw [callsAt_end] at h2
      exact sh_s (by rw [← h2, last_eq (by omega), Bool.true_and]; rfl)
theorem c47 (m : Mch) : Con Tryz.prog 47 [mchV m] (undefs [mchV m]) (.bool (mchOK m)) := by
  have e1 : ((m.co.length : Int) ≤ 400) = (m.co.length ≤ 400) := propext ⟨fun _ => by omega, fun _ => by omega⟩
  refine Con.ev 41 T_ok mix Tryz.func47 rfl rfl rfl rfl [.tmp 2] rfl ?_
  conv => whnf
  iterate 3 (apply rq_s rfl;conv=>whnf)
  (apply lend_s;conv=>whnf)
  (apply rows_s rfl;conv=>whnf)
  (refine call_s (c100 ..) ?_;conv=>whnf)
  (refine br_s ?_ ?_ <;> intro hb <;> (try simp only [cln] at hb) <;> conv=>whnf)
  (apply rq_s rfl;conv=>whnf)
  iterate 3 (apply br_t rfl;conv=>whnf)
  (refine br_s ?_ ?_ <;> intro hb <;> (try simp only [cln] at hb) <;> conv=>whnf)
  (apply rq_s rfl;conv=>whnf)
  iterate 2 (apply br_t rfl;conv=>whnf)
  (apply rq_s rfl;conv=>whnf)
  (apply lend_s;conv=>whnf)
  (apply rows_s rfl;conv=>whnf)
  (refine call_s (c101 ..) ?_;conv=>whnf)
  (refine br_s ?_ ?_ <;> intro hb <;> (try simp only [cln] at hb) <;> conv=>whnf)
  (apply rq_s rfl;conv=>whnf)
  iterate 2 (apply br_t rfl;conv=>whnf)
  iterate 6 (apply rq_s rfl;conv=>whnf)
  (apply lend_s;conv=>whnf)
  iterate 3 (apply rows_s rfl;conv=>whnf)
  (refine call_s (c102 m.da ..) ?_;conv=>whnf)
  (refine br_s ?_ ?_ <;> intro hb <;> (try simp only [cln] at hb) <;> conv=>whnf)
  (apply rq_s rfl;conv=>whnf)
  iterate 2 (apply br_t rfl;conv=>whnf)
  iterate 5 (apply rq_s rfl;conv=>whnf)
  (apply lend_s;conv=>whnf)
  iterate 4 (apply rows_s rfl;conv=>whnf)
  (refine call_s (c103 m.ho ..) ?_;conv=>whnf)
  (refine br_s ?_ ?_ <;> intro hb <;> (try simp only [cln] at hb) <;> conv=>whnf)
  (apply br_t rfl;conv=>whnf)
  iterate 16 (apply rq_s rfl;conv=>whnf)
  (apply lend_s;conv=>whnf)
  iterate 10 (apply rows_s rfl;conv=>whnf)
  (refine call_s (c104 m ..) ?_;conv=>whnf)
  (refine br_s ?_ ?_ <;> intro hb <;> (try simp only [cln] at hb) <;> conv=>whnf)
  (apply rq_s rfl;conv=>whnf)
  iterate 2 (apply br_t rfl;conv=>whnf)
  iterate 3 (apply rq_s rfl;conv=>whnf)
  (apply lend_s;conv=>whnf)
  (refine call_s (c79 ..) ?_;conv=>whnf)
  (refine br_s ?_ ?_ <;> intro hb <;> (try simp only [cln] at hb) <;> conv=>whnf)
  (apply rq_s rfl;conv=>whnf)
  iterate 2 (apply br_t rfl;conv=>whnf)
  iterate 3 (apply rq_s rfl;conv=>whnf)
  (apply lend_s;conv=>whnf)
  (refine call_s (c79 ..) ?_;conv=>whnf)
  (apply rq_s rfl;conv=>whnf)
  (focus (refine sh_s ?_; (first | (simp_all [mchOK]; done) | (simp_all [mchOK]; omega))))
  iterate 3 (apply br_f rfl;conv=>whnf)
  (apply rq_s rfl;conv=>whnf)
  (focus (refine sh_s ?_; (first | (simp_all [mchOK]; done) | (simp_all [mchOK]; omega))))
  iterate 7 (apply br_f rfl;conv=>whnf)
  (apply rq_s rfl;conv=>whnf)
  (focus (refine sh_s ?_; (first | (simp_all [mchOK]; done) | (simp_all [mchOK]; omega))))
  iterate 10 (apply br_f rfl;conv=>whnf)
  (apply rq_s rfl;conv=>whnf)
  (focus (refine sh_s ?_; (first | (simp_all [mchOK]; done) | (simp_all [mchOK]; omega))))
  iterate 14 (apply br_f rfl;conv=>whnf)
  (apply rq_s rfl;conv=>whnf)
  (focus (refine sh_s ?_; (first | (simp_all [mchOK]; done) | (simp_all [mchOK]; omega))))
  iterate 18 (apply br_f rfl;conv=>whnf)
  (apply rq_s rfl;conv=>whnf)
  (focus (refine sh_s ?_; (first | (simp_all [mchOK]; done) | (simp_all [mchOK]; omega))))
  iterate 22 (apply br_f rfl;conv=>whnf)
  (apply rq_s rfl;conv=>whnf)
  (focus (refine sh_s ?_; (first | (simp_all [mchOK]; done) | (simp_all [mchOK]; omega))))
  iterate 27 (apply br_f rfl;conv=>whnf)
  (apply rq_s rfl;conv=>whnf)
  (focus (refine sh_s ?_; (first | (simp_all [mchOK]; done) | (simp_all [mchOK]; omega))))
end M2

/- Definitions: what is valid, by the program; contracts. -/
set_option linter.unusedVariables false
set_option linter.unusedSimpArgs false
set_option maxRecDepth 100000
open Go Go.Abs Go.Proofs V1 H1 K1 K2 K3 K4 I1 I2 I3 I4 I5 I6 I7 M1 M2
namespace M3

def longT (rs : List Df) : Bool := decide (4096 < rs.length)
theorem c115 (rs : List Df) : Con Tryz.prog 115 [roDf rs] (undefs [roDf rs]) (.bool (longT rs)) := by
  refine Con.ev 6 T_ok mix Tryz.func115 rfl rfl rfl rfl [.tmp 2] rfl ?_
  conv => whnf
  (apply rq_s rfl;conv=>whnf)
  (refine sh_s ?_; ((simp [longT]; omega)))
def rrT (rs : List Df) : List AV := [roDf rs]
def roRRT (rss : List (List Df)) : AV := .ro [.emp] (rss.map rrT)

theorem c180 (rss : List (List Df)) : Con Tryz.prog 180 [roRRT rss, .fn 115 []] (undefs [roRRT rss, .fn 115 []]) (.int .i64 (findI longT rss)) := by
  refine Con.evF 19 T_ok mix Tryz.func180 rfl rfl rfl rfl [.tmp 4] rfl fun ⟨hx, _⟩ => ?_
  have hx := facts_len hx
  conv => whnf
  rotate_left
  refine LoopG.rounds (α := Nat) T_ok mix [0, 1, 7, 8] [] (fun i => [(0, roRRT rss), (1, .fn 115 []), (7, .int .i64 rss.length), (8, .int .i64 i)]) (fun _ => []) (fun i => i ≤ rss.length ∧ ∀ j, j < i → longT (rss.getD j default) = false) (fun i => rss.length - i) ?_ ?_
  · conv => whnf
    exact head_s 0 ⟨by simp, fun j hj => by omega⟩ (by simp [roRRT]) rfl
  · rintro i ⟨h1, h2⟩ - -
    conv => whnf
    (refine br_s ?_ ?_ <;> intro hb <;> (try simp only [cln] at hb) <;> conv=>whnf)
    (apply rq_s rfl;conv=>whnf)
    (refine rq_s (by refine and_s rfl ?_; simp only [lnm]; omega) ?_;conv=>whnf)
    (refine row_s (by ((try simp only [Int.toNat_natCast]); exact row_map rrT _ _ _ default (by first | omega | (simp; omega)))) ?_;conv=>whnf)
    (apply rq_s rfl;conv=>whnf)
    (apply lend_s;conv=>whnf)
    (apply rows_s rfl;conv=>whnf)
    (refine call_s (c115 ..) ?_;conv=>whnf)
    (refine br_s ?_ ?_ <;> intro hb <;> (try simp only [cln] at hb) <;> conv=>whnf)
    (apply rq_s rfl;conv=>whnf)
    iterate 2 (rotate_left)
    (apply rq_s rfl;conv=>whnf)
    rotate_left
    · refine sh_s ?_
      rw [findI_hit default (by assumption) hb h2]
    · refine head_s (i + 1) ⟨⟨by omega, fun j hj => ?_⟩, by omega⟩ (by rw [wrap64 (by omega) (by omega)]; rfl) rfl
      by_cases hji : j = i
      · subst hji; exact hb
      · exact h2 j (by omega)
    · refine sh_s ?_
      rw [findI_none default fun j hj => h2 j (by omega)]
theorem c114 (rss : List (List Df)) : Con Tryz.prog 114 [roRRT rss, .fn 115 []] (undefs [roRRT rss, .fn 115 []]) (.bool (rss.any longT)) := by
  refine Con.ev 9 T_ok mix Tryz.func114 rfl rfl rfl rfl [.tmp 4] rfl ?_
  conv => whnf
  iterate 2 (apply rq_s rfl;conv=>whnf)
  (apply lend_s;conv=>whnf)
  (apply rows_s rfl;conv=>whnf)
  (refine call_s (c180 ..) ?_;conv=>whnf)
  (refine fac_s (fun hf => ?_);conv=>whnf)
  (apply rq_s rfl;conv=>whnf)
  (refine sh_s ?_; ((rw [← findI_any])))
theorem c56 (rs : List Df) : Con Tryz.prog 56 [.ro [.emp] [[roDf rs]]] (undefs [.ro [.emp] [[roDf rs]]]) (.bool (decide (4096 < rs.length))) := by
  have e : (.bool (decide (4096 < rs.length)) : AV) = .bool ([rs].any longT) := by simp [longT]
  rw [e]
  show Con Tryz.prog 56 [roRRT [rs]] (undefs [roRRT [rs]]) _
  refine Con.ev 5 T_ok mix Tryz.func56 rfl rfl rfl rfl [.tmp 2] rfl ?_
  conv => whnf
  iterate 2 (apply rq_s rfl;conv=>whnf)
  (apply lend_s;conv=>whnf)
  (apply rows_s rfl;conv=>whnf)
  (refine call_s (c114 ..) ?_;conv=>whnf)
  (apply rq_s rfl;conv=>whnf)
  (refine sh_s ?_; (rfl))

theorem c59 (xs ys : List Int) : Con Tryz.prog 59 [roI xs, roI ys] (undefs [roI xs, roI ys]) (.bool (decide (xs = ys))) := by
  refine Con.evF 26 T_ok mix Tryz.func59 rfl rfl rfl rfl [.tmp 4] rfl fun ⟨hx, _⟩ => ?_
  have hx : xs.length ≤ 9223372036854775807 := facts_len (f := intR) hx
  conv => whnf
  (refine br_s ?_ ?_ <;> intro hb <;> (try simp only [cln] at hb) <;> conv=>whnf)
  (apply rq_s rfl;conv=>whnf)
  iterate 2 (rotate_left)
  · refine sh_s ?_
    have : xs ≠ ys := fun e => hb (by rw [e])
    simp [this]
  · refine LoopG.rounds (α := Nat) T_ok mix [0, 1, 12, 13] [] (fun i => [(0, roI xs), (1, roI ys), (12, .int .i64 xs.length), (13, .int .i64 i)]) (fun _ => []) (fun i => i ≤ xs.length ∧ xs.take i = ys.take i) (fun i => xs.length - i) ?_ ?_
    · conv => whnf
      exact head_s 0 ⟨by simp, by simp⟩ (by simp [roI]) rfl
    · rintro i ⟨h1, h2⟩ - -
      conv => whnf
      (refine br_s ?_ ?_ <;> intro hb <;> (try simp only [cln] at hb) <;> conv=>whnf)
      iterate 3 (refine ChkS.mk (by kernel_rfl) ?_;conv=>whnf)
      (apply rq_s rfl;conv=>whnf)
      (refine rq_s (by refine and_s rfl ?_; simp only [lnm]; omega) ?_;conv=>whnf)
      (refine ChkS.mk (by kernel_rfl) ?_;conv=>whnf)
      (refine row_s (by ((try simp only [Int.toNat_natCast]); exact row_map intR _ _ _ default (by first | omega | (simp; omega)))) ?_;conv=>whnf)
      iterate 3 (refine ChkS.mk (by kernel_rfl) ?_;conv=>whnf)
      (apply rq_s rfl;conv=>whnf)
      (refine rq_s (by refine and_s rfl ?_; simp only [lnm]; omega) ?_;conv=>whnf)
      (refine ChkS.mk (by kernel_rfl) ?_;conv=>whnf)
      (refine row_s (by ((try simp only [Int.toNat_natCast]); exact row_map intR _ _ _ default (by first | omega | (simp; omega)))) ?_;conv=>whnf)
      iterate 2 (refine ChkS.mk (by kernel_rfl) ?_;conv=>whnf)
      (refine br_s ?_ ?_ <;> intro hb <;> (try simp only [cln] at hb) <;> conv=>whnf)
      (apply rq_s rfl;conv=>whnf)
      iterate 2 (rotate_left)
      (apply rq_s rfl;conv=>whnf)
      rotate_left
      · refine sh_s ?_
        have : xs ≠ ys := fun e => by rw [e] at hb; simp at hb
        simp [this]
      · exact head_s (i + 1) ⟨⟨by omega, take_next default h2 (by omega) (by omega) hb⟩, by omega⟩ (by rw [wrap64 (by omega) (by omega)]; rfl) rfl
      · refine sh_s ?_
        simp [take_done h2 (by omega) (by omega)]
theorem row_prev {ds : List Df} {j : Nat} {z : List AV} (h0 : 0 < j) (h1 : j ≤ ds.length) (hl : ds.length ≤ 9223372036854775807) : rowA (ds.map dfR) (IntKind.i64.wrap ((j : Int) - 1)).toNat z = dfR (ds.getD (j - 1) default) := by
  rw [wrap64 (by omega) (by omega), show ((j : Int) - 1).toNat = j - 1 by omega]
  exact row_map dfR _ _ _ default (by omega)
theorem col_20 {ws : List Wd} (h : dictOK ws = true) : colons ws ≤ 20 := by
  have h1 := colons_le (ws.drop 83)
  have h2 := (dict_take h).2.2
  rw [dict_col h]
  rw [List.length_drop] at h1
  omega
theorem defOK_w {m : Mch} {d : Df} (h : inR d.w 1 m.ws.length = false) : defOK m d = false := by
  have : inR d.w 84 m.ws.length = false := by
    have := inR_f h
    simp [inR]; omega
  rw [defOK, this]; simp
theorem defOK_k {m : Mch} {d : Df} (h : (wordAt m.ws d.w).k ≠ 6) : defOK m d = false := by simp [defOK, h]
theorem mch_400 {m : Mch} (h : mchOK m = true) : m.co.length ≤ 400 := by simp [mchOK] at h; omega
theorem mch_dict {m : Mch} (h : mchOK m = true) : dictOK m.ws = true := by simp [mchOK] at h; simp [h]
theorem codeAt_len {co : List Int} {a : Int} {code : List Int} (h : a + code.length > co.length) : codeAt co a code = false := by
  have : decide (a + (code.length : Int) ≤ co.length) = false := decide_eq_false (by omega)
  rw [codeAt, this, Bool.false_and]
theorem ci_cases (m : Mch) (d : Df) (hm : mchOK m = true) (h1 : inR d.w 1 m.ws.length = true) (hk : (wordAt m.ws d.w).k = 6) :
    ((ciF d.its (wordAt m.ws d.w).v d.w).2 ≠ 0 ∧ defOK m d = false) ∨
    (∃ code : List Int, ciF d.its (wordAt m.ws d.w).v d.w = (code, 0) ∧ code.length ≤ 400 ∧ (0 ≤ (wordAt m.ws d.w).v ∧ (wordAt m.ws d.w).v ≤ 399) ∧ defOK m d = codeAt m.co (wordAt m.ws d.w).v code) := by
  have hd := mch_dict hm
  have h4 := mch_400 hm
  have hr := inR_t h1
  obtain ⟨h84, hv1, hv2⟩ := dict_low hd hr.1 hr.2 hk
  have h103 := (dict_take hd).2.2
  have r1 : inR (wordAt m.ws d.w).v 0 400 = true := by simp [inR]; omega
  have r2 : inR d.w 1 103 = true := by simp [inR]; omega
  by_cases ha : askF d.its = 0
  rotate_left
  · exact .inl ⟨by rw [ci_ask ha]; exact ha, by simp [defOK, ha]⟩
  by_cases hc : (chkF d.its).2 = 0
  rotate_left
  · exact .inl ⟨by rw [ci_chk ha hc]; exact hc, by simp [defOK, hc]⟩
  have hlen := compF_len (at' := (wordAt m.ws d.w).v) (self := d.w) (askF_0 ha).2
  by_cases hs : (wordAt m.ws d.w).v + sizeF d.its > 400
  · refine .inl ⟨by rw [ci_f ha hc r1 r2 hs]; decide, ?_⟩
    have := codeAt_len (co := m.co) (a := (wordAt m.ws d.w).v) (code := compF d.its (wordAt m.ws d.w).v d.w) (by omega)
    simp [defOK, this]
  · refine .inr ⟨_, ci_0 ha hc r1 r2 hs, by omega, ⟨hv1, hv2⟩, ?_⟩
    simp [defOK, ha, hc, h84, hk]
theorem row_word {ws : List Wd} {w : Int} {z : List AV} (h : inR w 1 ws.length = true) (hl : ws.length ≤ 9223372036854775807) : rowA (ws.map wdR) (IntKind.i64.wrap (w - 1)).toNat z = wdR (wordAt ws w) := by
  have := inR_t h
  rw [wrap64 (by omega) (by omega)]
  exact row_map wdR _ _ _ default (by omega)



def pw (ds : List Df) (i : Nat) : Int := if i = 0 then 0 else (ds.getD (i - 1) default).w
set_option maxHeartbeats 4000000 in
theorem c15 (m : Mch) (ds : List Df) : Con Tryz.prog 15 [mchV m, roDf ds] (undefs [mchV m, roDf ds]) (.bool (dmOK m ds)) := by
  refine Con.evF 121 T_ok mix Tryz.func15 rfl rfl rfl rfl [.tmp 4] rfl fun ⟨hx, hy, _⟩ => ?_
  have hl := (mch_facts hx).ws
  have hl2 := facts_len hy
  conv => whnf
  iterate 17 (apply rq_s rfl;conv=>whnf)
  (apply lend_s;conv=>whnf)
  iterate 10 (apply rows_s rfl;conv=>whnf)
  (refine call_s (c55 m ..) ?_;conv=>whnf)
  (refine br_s ?_ ?_ <;> intro hb <;> (try simp only [cln] at hb) <;> conv=>whnf)
  iterate 4 (apply br_t rfl;conv=>whnf)
  (apply rq_s rfl;conv=>whnf)
  rotate_left
  (apply br_f rfl;conv=>whnf)
  (apply rq_s rfl;conv=>whnf)
  (apply br_f rfl;conv=>whnf)
  (apply rq_s (by simp only [lnm]; done);conv=>whnf)
  (apply rq_s rfl;conv=>whnf)
  (apply lend_s;conv=>whnf)
  (refine rows_s (by ((refine sub_all ?_; simp [List.length_map]; done))) ?_;conv=>whnf)
  (refine call_s (c56 ds ..) ?_;conv=>whnf)
  (refine br_s ?_ ?_ <;> intro hb <;> (try simp only [cln] at hb) <;> conv=>whnf)
  (apply rq_s rfl;conv=>whnf)
  rotate_left
  (apply rq_s rfl;conv=>whnf)
  rotate_left
  · exact sh_s (by simp [dmOK, hb])
  · have h20 : ¬ ds.length ≤ 20 := by omega
    exact sh_s (by simp [dmOK, defsOK, h20])
  rename_i hm
  refine LoopG.rounds (α := Nat) T_ok mix [1, 2, 5, 22, 23, 24] [(2, 2)] (fun i => [(1, roDf ds), (2, .ptr 2 0 0), (5, .int .i64 (colons (m.ws.take i))), (22, roW m.ws), (23, .int .i64 m.ws.length), (24, .int .i64 i)]) (fun _ => [(2, .live ⟨false, 0, mchR m, [mchR m]⟩)]) (fun i => i ≤ m.ws.length) (fun i => m.ws.length - i) ?_ ?_
  · conv => whnf
    exact head_s 0 (by simp) (by simp [roW, roDf, colons]) rfl
  · intro i hi _ _
    have hc := colons_le (m.ws.take i)
    rw [List.length_take] at hc
    conv => whnf
    (refine br_s ?_ ?_ <;> intro hb <;> (try simp only [cln] at hb) <;> conv=>whnf)
    (apply rq_s rfl;conv=>whnf)
    (refine rq_s (by refine and_s rfl ?_; simp only [lnm]; omega) ?_;conv=>whnf)
    (refine row_s (by ((try simp only [Int.toNat_natCast]); exact row_map wdR _ _ _ default (by first | omega | (simp; omega)))) ?_;conv=>whnf)
    (apply rq_s rfl;conv=>whnf)
    (refine br_s ?_ ?_ <;> intro hb <;> (try simp only [cln] at hb) <;> conv=>whnf)
    iterate 3 (rotate_left)
    · exact head_s (i + 1) ⟨by omega, by omega⟩ (by simp only [colons_take (by assumption), if_pos hb]; rw [wrap64 (n := (colons (m.ws.take i) : Int) + 1) (by omega) (by omega), wrap64 (n := (i : Int) + 1) (by omega) (by omega)]; rfl) rfl
    · exact head_s (i + 1) ⟨by omega, by omega⟩ (by simp only [colons_take (by assumption), if_neg hb, Nat.add_zero]; rw [wrap64 (n := (i : Int) + 1) (by omega) (by omega)]; rfl) rfl
    obtain rfl : i = m.ws.length := by omega
    refine LoopG.rounds (α := Nat) T_ok mix [1, 2, 5, 34, 35, 36] [(2, 2)] (fun j => [(1, roDf ds), (2, .ptr 2 0 0), (5, .int .i64 (colons (m.ws.take m.ws.length))), (34, roDf ds), (35, .int .i64 ds.length), (36, .int .i64 j)]) (fun _ => [(2, .live ⟨false, 0, mchR m, [mchR m]⟩)]) (fun j => j ≤ ds.length ∧ defsAt m (pw ds j) (ds.drop j) = defsAt m 0 ds) (fun j => ds.length - j) ?_ ?_
    · conv => whnf
      exact head_s 0 ⟨by simp, by simp [pw]⟩ (by simp [roDf]) rfl
    · rintro j ⟨h1, h2⟩ - -
      by_cases hj : j < ds.length
      rotate_left
      · obtain rfl : j = ds.length := by omega
        have e0 : defsAt m 0 ds = true := by rw [← h2, List.drop_length]; rfl
        conv => whnf
        (focus (apply br_f (by (simp; done));conv=>whnf))
        (apply rq_s rfl;conv=>whnf)
        rotate_left
        rw [List.take_length]
        have ec : ((colons m.ws : Int) == (ds.length : Int)) = decide (colons m.ws = ds.length) := by rw [Bool.eq_iff_iff]; simp; omega
        have h20 : decide (colons m.ws = ds.length) = (decide (ds.length ≤ 20) && decide (colons m.ws = ds.length)) := by
          have := col_20 (mch_dict hm)
          by_cases hc : colons m.ws = ds.length
          · have : ds.length ≤ 20 := by omega
            simp [this]
          · simp [hc]
        exact sh_s (by rw [List.length_map, ec, h20]; simp [dmOK, defsOK, hm, e0])
      have gj : decide ((j : Int) < (ds.length : Int)) = true := decide_eq_true (by omega)
      rw [defsAt_next hj] at h2
      have res : dmOK m ds = (decide (ds.length ≤ 20) && (defOK m (ds.getD j default) && decide (pw ds j < (ds.getD j default).w) && defsAt m (ds.getD j default).w (ds.drop (j + 1))) && decide (colons m.ws = ds.length)) := by rw [h2]; simp [dmOK, defsOK, hm]
      have hpw : pw ds (j + 1) = (ds.getD j default).w := by simp [pw]
      rcases (show (j = 0 ∧ decide ((j : Int) > 0) = false) ∨ (0 < j ∧ decide ((j : Int) > 0) = true ∧ decide ((ds.getD (j - 1) default).w ≥ (ds.getD j default).w) = false) ∨ (0 < j ∧ decide ((j : Int) > 0) = true ∧ decide ((ds.getD (j - 1) default).w ≥ (ds.getD j default).w) = true) from by
        rcases Nat.eq_zero_or_pos j with h0 | h0
        · exact .inl ⟨h0, decide_eq_false (by omega)⟩
        · by_cases hw : (ds.getD (j - 1) default).w ≥ (ds.getD j default).w
          · exact .inr (.inr ⟨h0, decide_eq_true (by omega), decide_eq_true hw⟩)
          · exact .inr (.inl ⟨h0, decide_eq_true (by omega), decide_eq_false hw⟩)) with ⟨h0, g0⟩ | ⟨h0, g0, g1⟩ | ⟨h0, g0, g1⟩
      rotate_left 2
      · conv => whnf
        (apply br_t (by assumption);conv=>whnf)
        (apply rq_s rfl;conv=>whnf)
        (refine rq_s (by refine and_s rfl ?_; simp only [lnm]; omega) ?_;conv=>whnf)
        (refine row_s (by ((try simp only [Int.toNat_natCast]); exact row_map dfR _ _ _ default (by first | omega | (simp; omega)))) ?_;conv=>whnf)
        iterate 4 (refine ChkS.mk (by kernel_rfl) ?_;conv=>whnf)
        (apply br_t (by simp only [g0, g1, bbs, reduceIte]; done);conv=>whnf)
        (refine ChkS.mk (by kernel_rfl) ?_;conv=>whnf)
        (apply br_t (by simp only [g0, g1, bbs, reduceIte]; done);conv=>whnf)
        (refine ChkS.mk (by kernel_rfl) ?_;conv=>whnf)
        (apply br_t (by simp only [g0, g1, bbs, reduceIte]; done);conv=>whnf)
        (refine ChkS.mk (by kernel_rfl) ?_;conv=>whnf)
        (apply br_t (by simp only [g0, g1, bbs, reduceIte]; done);conv=>whnf)
        iterate 2 (apply rq_s (by ((((try simp only [List.length_map]); rw [wrap64 (by omega) (by omega)]; simp; omega))));conv=>whnf)
        (refine ChkS.mk (by kernel_rfl) ?_;conv=>whnf)
        (apply br_t (by simp only [g0, g1, bbs, reduceIte]; done);conv=>whnf)
        (apply rq_s rfl;conv=>whnf)
        (refine ChkS.mk (by kernel_rfl) ?_;conv=>whnf)
        (apply br_t (by simp only [g0, g1, bbs, reduceIte]; done);conv=>whnf)
        (refine row_s (by (exact row_prev (by assumption) (by omega) (by omega))) ?_;conv=>whnf)
        (refine ChkS.mk (by kernel_rfl) ?_;conv=>whnf)
        (apply br_t (by simp only [g0, g1, bbs, reduceIte]; done);conv=>whnf)
        (apply rq_s rfl;conv=>whnf)
        (refine ChkS.mk (by kernel_rfl) ?_;conv=>whnf)
        (apply br_t (by simp only [g0, g1, bbs, reduceIte]; done);conv=>whnf)
        (refine ChkS.mk (by kernel_rfl) ?_;conv=>whnf)
        (apply br_t (by simp only [g0, g1, bbs, reduceIte]; done);conv=>whnf)
        iterate 3 (refine ChkS.mk (by kernel_rfl) ?_;conv=>whnf)
        (apply br_t (by simp only [g0, g1, bbs, reduceIte]; done);conv=>whnf)
        (refine ChkS.mk (by kernel_rfl) ?_;conv=>whnf)
        (apply br_t (by simp only [g0, g1, bbs, reduceIte]; done);conv=>whnf)
        (refine ChkS.mk (by kernel_rfl) ?_;conv=>whnf)
        (apply br_t (by simp only [g0, g1, bbs, reduceIte]; done);conv=>whnf)
        (refine ChkS.mk (by kernel_rfl) ?_;conv=>whnf)
        (apply br_t (by simp only [g0, g1, bbs, reduceIte]; done);conv=>whnf)
        (refine ChkS.mk (by kernel_rfl) ?_;conv=>whnf)
        (apply br_t (by simp only [g0, g1, bbs, reduceIte]; done);conv=>whnf)
        (refine ChkS.mk (by kernel_rfl) ?_;conv=>whnf)
        (apply br_t (by simp only [g0, g1, bbs, reduceIte]; done);conv=>whnf)
        (refine ChkS.mk (by kernel_rfl) ?_;conv=>whnf)
        (apply br_t (by simp only [g0, g1, bbs, reduceIte]; done);conv=>whnf)
        (refine ChkS.mk (by kernel_rfl) ?_;conv=>whnf)
        (apply br_t (by simp only [g0, g1, bbs, reduceIte]; done);conv=>whnf)
        iterate 2 (refine ChkS.mk (by kernel_rfl) ?_;conv=>whnf)
        (apply br_t rfl;conv=>whnf)
        (refine ChkS.mk (by kernel_rfl) ?_;conv=>whnf)
        (apply br_t rfl;conv=>whnf)
        (refine ChkS.mk (by kernel_rfl) ?_;conv=>whnf)
        (apply br_t rfl;conv=>whnf)
        (refine ChkS.mk (by kernel_rfl) ?_;conv=>whnf)
        (apply br_t rfl;conv=>whnf)
        (refine ChkS.mk (by kernel_rfl) ?_;conv=>whnf)
        (apply br_t rfl;conv=>whnf)
        (refine ChkS.mk (by kernel_rfl) ?_;conv=>whnf)
        (apply br_t rfl;conv=>whnf)
        (refine ChkS.mk (by kernel_rfl) ?_;conv=>whnf)
        (apply br_t rfl;conv=>whnf)
        (refine ChkS.mk (by kernel_rfl) ?_;conv=>whnf)
        (apply br_t rfl;conv=>whnf)
        (refine ChkS.mk (by kernel_rfl) ?_;conv=>whnf)
        (apply br_t rfl;conv=>whnf)
        (refine ChkS.mk (by kernel_rfl) ?_;conv=>whnf)
        (apply br_t rfl;conv=>whnf)
        (refine ChkS.mk (by kernel_rfl) ?_;conv=>whnf)
        (apply br_t rfl;conv=>whnf)
        (apply rq_s rfl;conv=>whnf)
        rotate_left
        have e3 : decide (pw ds j < (ds.getD j default).w) = false := by
          have := of_decide_eq_true g1
          have : pw ds j = (ds.getD (j - 1) default).w := by rw [pw, if_neg (by omega)]
          exact decide_eq_false (by omega)
        exact sh_s (by rw [res, e3]; simp)
      · skip
        by_cases hin : inR (ds.getD j default).w 1 m.ws.length = false
        · have e3 : defOK m (ds.getD j default) = false := defOK_w hin
          have hin2 : inR (ds.getD j default).w 1 ((m.ws.map wdR).length : Int) = false := by rw [List.length_map]; exact hin
          have hin3 : (!inR (ds.getD j default).w 1 ((m.ws.map wdR).length : Int)) = true := by rw [hin2]; rfl
          conv => whnf
          (apply br_t (by assumption);conv=>whnf)
          (apply rq_s rfl;conv=>whnf)
          (refine rq_s (by refine and_s rfl ?_; simp only [lnm]; omega) ?_;conv=>whnf)
          (refine row_s (by ((try simp only [Int.toNat_natCast]); exact row_map dfR _ _ _ default (by first | omega | (simp; omega)))) ?_;conv=>whnf)
          iterate 4 (refine ChkS.mk (by kernel_rfl) ?_;conv=>whnf)
          (apply br_f (by simp only [g0, hin2, bbs, reduceIte]; done);conv=>whnf)
          (refine ChkS.mk (by kernel_rfl) ?_;conv=>whnf)
          (apply br_f (by simp only [g0, hin2, bbs, reduceIte]; done);conv=>whnf)
          (refine ChkS.mk (by kernel_rfl) ?_;conv=>whnf)
          (apply br_f (by simp only [g0, hin2, bbs, reduceIte]; done);conv=>whnf)
          (refine ChkS.mk (by kernel_rfl) ?_;conv=>whnf)
          (apply br_f (by simp only [g0, hin2, bbs, reduceIte]; done);conv=>whnf)
          (refine ChkS.mk (by kernel_rfl) ?_;conv=>whnf)
          (apply br_f (by simp only [g0, hin2, bbs, reduceIte]; done);conv=>whnf)
          (refine ChkS.mk (by kernel_rfl) ?_;conv=>whnf)
          (apply br_f (by simp only [g0, hin2, bbs, reduceIte]; done);conv=>whnf)
          (refine ChkS.mk (by kernel_rfl) ?_;conv=>whnf)
          (apply br_f (by simp only [g0, hin2, bbs, reduceIte]; done);conv=>whnf)
          (refine ChkS.mk (by kernel_rfl) ?_;conv=>whnf)
          (apply br_f (by simp only [g0, hin2, bbs, reduceIte]; done);conv=>whnf)
          (refine ChkS.mk (by kernel_rfl) ?_;conv=>whnf)
          (apply br_f (by simp only [g0, hin2, bbs, reduceIte]; done);conv=>whnf)
          (refine ChkS.mk (by kernel_rfl) ?_;conv=>whnf)
          (apply br_f (by simp only [g0, hin2, bbs, reduceIte]; done);conv=>whnf)
          iterate 2 (refine ChkS.mk (by kernel_rfl) ?_;conv=>whnf)
          (apply br_f rfl;conv=>whnf)
          (apply rq_s rfl;conv=>whnf)
          (refine ChkS.mk (by kernel_rfl) ?_;conv=>whnf)
          (apply br_f rfl;conv=>whnf)
          (refine ChkS.mk (by kernel_rfl) ?_;conv=>whnf)
          (apply br_f rfl;conv=>whnf)
          (apply rq_s rfl;conv=>whnf)
          (refine ChkS.mk (by kernel_rfl) ?_;conv=>whnf)
          (apply br_f rfl;conv=>whnf)
          (refine ChkS.mk (by kernel_rfl) ?_;conv=>whnf)
          (apply br_f rfl;conv=>whnf)
          (refine ChkS.mk (by kernel_rfl) ?_;conv=>whnf)
          (apply br_f rfl;conv=>whnf)
          iterate 3 (apply rq_s rfl;conv=>whnf)
          (refine call_s (c57 ..) ?_;conv=>whnf)
          (refine ChkS.mk (by kernel_rfl) ?_;conv=>whnf)
          (apply br_f rfl;conv=>whnf)
          iterate 3 (refine ChkS.mk (by kernel_rfl) ?_;conv=>whnf)
          (apply br_t (by simp only [g0, hin2, bbs, reduceIte]; done);conv=>whnf)
          (refine ChkS.mk (by kernel_rfl) ?_;conv=>whnf)
          (apply br_t (by simp only [g0, hin2, bbs, reduceIte]; done);conv=>whnf)
          (refine ChkS.mk (by kernel_rfl) ?_;conv=>whnf)
          (apply br_t (by simp only [g0, hin2, bbs, reduceIte]; done);conv=>whnf)
          (refine ChkS.mk (by kernel_rfl) ?_;conv=>whnf)
          (apply br_t (by simp only [g0, hin2, bbs, reduceIte]; done);conv=>whnf)
          (refine ChkS.mk (by kernel_rfl) ?_;conv=>whnf)
          (apply br_t (by simp only [g0, hin2, bbs, reduceIte]; done);conv=>whnf)
          (refine ChkS.mk (by kernel_rfl) ?_;conv=>whnf)
          (apply br_t (by simp only [g0, hin2, bbs, reduceIte]; done);conv=>whnf)
          (refine ChkS.mk (by kernel_rfl) ?_;conv=>whnf)
          (apply br_t (by simp only [g0, hin2, bbs, reduceIte]; done);conv=>whnf)
          (refine ChkS.mk (by kernel_rfl) ?_;conv=>whnf)
          (apply br_t (by simp only [g0, hin2, bbs, reduceIte]; done);conv=>whnf)
          (refine ChkS.mk (by kernel_rfl) ?_;conv=>whnf)
          (apply br_t (by simp only [g0, hin2, bbs, reduceIte]; done);conv=>whnf)
          (refine ChkS.mk (by kernel_rfl) ?_;conv=>whnf)
          (apply br_t (by simp only [g0, hin2, bbs, reduceIte]; done);conv=>whnf)
          (refine ChkS.mk (by kernel_rfl) ?_;conv=>whnf)
          (apply br_t rfl;conv=>whnf)
          (apply rq_s rfl;conv=>whnf)
          rotate_left
          exact sh_s (by rw [res, e3]; simp)
        rw [Bool.not_eq_false] at hin
        have hin2 : inR (ds.getD j default).w 1 ((m.ws.map wdR).length : Int) = true := by rw [List.length_map]; exact hin
        have hin3 : (!inR (ds.getD j default).w 1 ((m.ws.map wdR).length : Int)) = false := by rw [hin2]; rfl
        by_cases hk : (wordAt m.ws (ds.getD j default).w).k = 6
        rotate_left
        · have e3 : defOK m (ds.getD j default) = false := defOK_k hk
          have hk2 : ((wordAt m.ws (ds.getD j default).w).k != 6) = true := bne_iff_ne.2 hk
          conv => whnf
          (apply br_t (by assumption);conv=>whnf)
          (apply rq_s rfl;conv=>whnf)
          (refine rq_s (by refine and_s rfl ?_; simp only [lnm]; omega) ?_;conv=>whnf)
          (refine row_s (by ((try simp only [Int.toNat_natCast]); exact row_map dfR _ _ _ default (by first | omega | (simp; omega)))) ?_;conv=>whnf)
          iterate 4 (refine ChkS.mk (by kernel_rfl) ?_;conv=>whnf)
          (apply br_f (by simp only [g0, hin2, hk2, bbs, reduceIte]; done);conv=>whnf)
          (refine ChkS.mk (by kernel_rfl) ?_;conv=>whnf)
          (apply br_f (by simp only [g0, hin2, hk2, bbs, reduceIte]; done);conv=>whnf)
          (refine ChkS.mk (by kernel_rfl) ?_;conv=>whnf)
          (apply br_f (by simp only [g0, hin2, hk2, bbs, reduceIte]; done);conv=>whnf)
          (refine ChkS.mk (by kernel_rfl) ?_;conv=>whnf)
          (apply br_f (by simp only [g0, hin2, hk2, bbs, reduceIte]; done);conv=>whnf)
          (refine ChkS.mk (by kernel_rfl) ?_;conv=>whnf)
          (apply br_f (by simp only [g0, hin2, hk2, bbs, reduceIte]; done);conv=>whnf)
          (refine ChkS.mk (by kernel_rfl) ?_;conv=>whnf)
          (apply br_f (by simp only [g0, hin2, hk2, bbs, reduceIte]; done);conv=>whnf)
          (refine ChkS.mk (by kernel_rfl) ?_;conv=>whnf)
          (apply br_f (by simp only [g0, hin2, hk2, bbs, reduceIte]; done);conv=>whnf)
          (refine ChkS.mk (by kernel_rfl) ?_;conv=>whnf)
          (apply br_f (by simp only [g0, hin2, hk2, bbs, reduceIte]; done);conv=>whnf)
          (refine ChkS.mk (by kernel_rfl) ?_;conv=>whnf)
          (apply br_f (by simp only [g0, hin2, hk2, bbs, reduceIte]; done);conv=>whnf)
          (refine ChkS.mk (by kernel_rfl) ?_;conv=>whnf)
          (apply br_f (by simp only [g0, hin2, hk2, bbs, reduceIte]; done);conv=>whnf)
          iterate 2 (refine ChkS.mk (by kernel_rfl) ?_;conv=>whnf)
          (apply br_f rfl;conv=>whnf)
          (apply rq_s rfl;conv=>whnf)
          (refine ChkS.mk (by kernel_rfl) ?_;conv=>whnf)
          (apply br_f rfl;conv=>whnf)
          (refine ChkS.mk (by kernel_rfl) ?_;conv=>whnf)
          (apply br_f rfl;conv=>whnf)
          (apply rq_s rfl;conv=>whnf)
          (refine ChkS.mk (by kernel_rfl) ?_;conv=>whnf)
          (apply br_f rfl;conv=>whnf)
          (refine ChkS.mk (by kernel_rfl) ?_;conv=>whnf)
          (apply br_f rfl;conv=>whnf)
          (refine ChkS.mk (by kernel_rfl) ?_;conv=>whnf)
          (apply br_f rfl;conv=>whnf)
          iterate 3 (apply rq_s rfl;conv=>whnf)
          (refine call_s (c57 ..) ?_;conv=>whnf)
          (refine ChkS.mk (by kernel_rfl) ?_;conv=>whnf)
          (apply br_f rfl;conv=>whnf)
          iterate 3 (refine ChkS.mk (by kernel_rfl) ?_;conv=>whnf)
          (apply br_f (by simp only [g0, hin2, hk2, bbs, reduceIte]; done);conv=>whnf)
          (apply rq_s rfl;conv=>whnf)
          (refine ChkS.mk (by kernel_rfl) ?_;conv=>whnf)
          (apply br_f (by simp only [g0, hin2, hk2, bbs, reduceIte]; done);conv=>whnf)
          (refine ChkS.mk (by kernel_rfl) ?_;conv=>whnf)
          (apply br_f (by simp only [g0, hin2, hk2, bbs, reduceIte]; done);conv=>whnf)
          (apply rq_s rfl;conv=>whnf)
          (refine ChkS.mk (by kernel_rfl) ?_;conv=>whnf)
          (apply br_f (by simp only [g0, hin2, hk2, bbs, reduceIte]; done);conv=>whnf)
          (refine ChkS.mk (by kernel_rfl) ?_;conv=>whnf)
          (apply br_f (by simp only [g0, hin2, hk2, bbs, reduceIte]; done);conv=>whnf)
          (refine ChkS.mk (by kernel_rfl) ?_;conv=>whnf)
          (apply br_f (by simp only [g0, hin2, hk2, bbs, reduceIte]; done);conv=>whnf)
          iterate 2 (refine rq_s (by ((first | (have hq := inR_t hin; rw [wrap64 (by omega) (by omega)]; exact decide_eq_true (by (try simp only [List.length_map]); omega)) | (have hq := inR_t hin; refine and_s rfl ?_; rw [wrap64 (by omega) (by omega)]; exact decide_eq_true (by (try simp only [List.length_map]); omega)) | ((try simp only [List.length_map]); rw [wrap64 (by omega) (by omega)]; simp; omega)))) ?_;conv=>whnf)
          (refine ChkS.mk (by kernel_rfl) ?_;conv=>whnf)
          (apply br_f (by simp only [g0, hin2, hk2, bbs, reduceIte]; done);conv=>whnf)
          (apply rq_s rfl;conv=>whnf)
          (refine ChkS.mk (by kernel_rfl) ?_;conv=>whnf)
          (apply br_f (by simp only [g0, hin2, hk2, bbs, reduceIte]; done);conv=>whnf)
          (refine row_s (by (exact row_word (by assumption) (by omega))) ?_;conv=>whnf)
          (refine ChkS.mk (by kernel_rfl) ?_;conv=>whnf)
          (apply br_f (by simp only [g0, hin2, hk2, bbs, reduceIte]; done);conv=>whnf)
          iterate 2 (refine ChkS.mk (by kernel_rfl) ?_;conv=>whnf)
          (apply br_t (by simp only [g0, hin2, hk2, bbs, reduceIte]; done);conv=>whnf)
          (apply rq_s rfl;conv=>whnf)
          rotate_left
          exact sh_s (by rw [res, e3]; simp)
        have hk2 : ((wordAt m.ws (ds.getD j default).w).k != 6) = false := by rw [hk]; rfl
        have kc := c58 (ds.getD j default).its (wordAt m.ws (ds.getD j default).w).v (ds.getD j default).w
        have hcs := ci_cases m (ds.getD j default) hm hin hk
        have elt : decide (pw ds j < (ds.getD j default).w) = true := by
          have := (inR_t hin).1
          unfold pw
          split
          · exact decide_eq_true (by omega)
          · first
            | (have := of_decide_eq_false g1; exact decide_eq_true (by omega))
            | omega
        generalize ciF (ds.getD j default).its (wordAt m.ws (ds.getD j default).w).v (ds.getD j default).w = r at kc hcs
        obtain ⟨code, fault⟩ := r
        simp only [ciV] at kc
        rcases hcs with ⟨hf, e3⟩ | ⟨c2, hf, hl4, hv, e3⟩
        · have hf2 : (fault != 0) = true := bne_iff_ne.2 hf
          conv => whnf
          (apply br_t (by assumption);conv=>whnf)
          (apply rq_s rfl;conv=>whnf)
          (refine rq_s (by refine and_s rfl ?_; simp only [lnm]; omega) ?_;conv=>whnf)
          (refine row_s (by ((try simp only [Int.toNat_natCast]); exact row_map dfR _ _ _ default (by first | omega | (simp; omega)))) ?_;conv=>whnf)
          iterate 4 (refine ChkS.mk (by kernel_rfl) ?_;conv=>whnf)
          (apply br_f (by simp only [g0, hin2, hk2, bbs, reduceIte]; done);conv=>whnf)
          (refine ChkS.mk (by kernel_rfl) ?_;conv=>whnf)
          (apply br_f (by simp only [g0, hin2, hk2, bbs, reduceIte]; done);conv=>whnf)
          (refine ChkS.mk (by kernel_rfl) ?_;conv=>whnf)
          (apply br_f (by simp only [g0, hin2, hk2, bbs, reduceIte]; done);conv=>whnf)
          (refine ChkS.mk (by kernel_rfl) ?_;conv=>whnf)
          (apply br_f (by simp only [g0, hin2, hk2, bbs, reduceIte]; done);conv=>whnf)
          (refine ChkS.mk (by kernel_rfl) ?_;conv=>whnf)
          (apply br_f (by simp only [g0, hin2, hk2, bbs, reduceIte]; done);conv=>whnf)
          (refine ChkS.mk (by kernel_rfl) ?_;conv=>whnf)
          (apply br_f (by simp only [g0, hin2, hk2, bbs, reduceIte]; done);conv=>whnf)
          (refine ChkS.mk (by kernel_rfl) ?_;conv=>whnf)
          (apply br_f (by simp only [g0, hin2, hk2, bbs, reduceIte]; done);conv=>whnf)
          (refine ChkS.mk (by kernel_rfl) ?_;conv=>whnf)
          (apply br_f (by simp only [g0, hin2, hk2, bbs, reduceIte]; done);conv=>whnf)
          (refine ChkS.mk (by kernel_rfl) ?_;conv=>whnf)
          (apply br_f (by simp only [g0, hin2, hk2, bbs, reduceIte]; done);conv=>whnf)
          (refine ChkS.mk (by kernel_rfl) ?_;conv=>whnf)
          (apply br_f (by simp only [g0, hin2, hk2, bbs, reduceIte]; done);conv=>whnf)
          iterate 2 (refine ChkS.mk (by kernel_rfl) ?_;conv=>whnf)
          (apply br_f rfl;conv=>whnf)
          (apply rq_s rfl;conv=>whnf)
          (refine ChkS.mk (by kernel_rfl) ?_;conv=>whnf)
          (apply br_f rfl;conv=>whnf)
          (refine ChkS.mk (by kernel_rfl) ?_;conv=>whnf)
          (apply br_f rfl;conv=>whnf)
          (apply rq_s rfl;conv=>whnf)
          (refine ChkS.mk (by kernel_rfl) ?_;conv=>whnf)
          (apply br_f rfl;conv=>whnf)
          (refine ChkS.mk (by kernel_rfl) ?_;conv=>whnf)
          (apply br_f rfl;conv=>whnf)
          (refine ChkS.mk (by kernel_rfl) ?_;conv=>whnf)
          (apply br_f rfl;conv=>whnf)
          iterate 3 (apply rq_s rfl;conv=>whnf)
          (refine call_s (c57 ..) ?_;conv=>whnf)
          (refine ChkS.mk (by kernel_rfl) ?_;conv=>whnf)
          (apply br_f rfl;conv=>whnf)
          iterate 3 (refine ChkS.mk (by kernel_rfl) ?_;conv=>whnf)
          (apply br_f (by simp only [g0, hin2, hk2, bbs, reduceIte]; done);conv=>whnf)
          (apply rq_s rfl;conv=>whnf)
          (refine ChkS.mk (by kernel_rfl) ?_;conv=>whnf)
          (apply br_f (by simp only [g0, hin2, hk2, bbs, reduceIte]; done);conv=>whnf)
          (refine ChkS.mk (by kernel_rfl) ?_;conv=>whnf)
          (apply br_f (by simp only [g0, hin2, hk2, bbs, reduceIte]; done);conv=>whnf)
          (apply rq_s rfl;conv=>whnf)
          (refine ChkS.mk (by kernel_rfl) ?_;conv=>whnf)
          (apply br_f (by simp only [g0, hin2, hk2, bbs, reduceIte]; done);conv=>whnf)
          (refine ChkS.mk (by kernel_rfl) ?_;conv=>whnf)
          (apply br_f (by simp only [g0, hin2, hk2, bbs, reduceIte]; done);conv=>whnf)
          (refine ChkS.mk (by kernel_rfl) ?_;conv=>whnf)
          (apply br_f (by simp only [g0, hin2, hk2, bbs, reduceIte]; done);conv=>whnf)
          iterate 2 (refine rq_s (by ((first | (have hq := inR_t hin; rw [wrap64 (by omega) (by omega)]; exact decide_eq_true (by (try simp only [List.length_map]); omega)) | (have hq := inR_t hin; refine and_s rfl ?_; rw [wrap64 (by omega) (by omega)]; exact decide_eq_true (by (try simp only [List.length_map]); omega)) | ((try simp only [List.length_map]); rw [wrap64 (by omega) (by omega)]; simp; omega)))) ?_;conv=>whnf)
          (refine ChkS.mk (by kernel_rfl) ?_;conv=>whnf)
          (apply br_f (by simp only [g0, hin2, hk2, bbs, reduceIte]; done);conv=>whnf)
          (apply rq_s rfl;conv=>whnf)
          (refine ChkS.mk (by kernel_rfl) ?_;conv=>whnf)
          (apply br_f (by simp only [g0, hin2, hk2, bbs, reduceIte]; done);conv=>whnf)
          (refine row_s (by (exact row_word (by assumption) (by omega))) ?_;conv=>whnf)
          (refine ChkS.mk (by kernel_rfl) ?_;conv=>whnf)
          (apply br_f (by simp only [g0, hin2, hk2, bbs, reduceIte]; done);conv=>whnf)
          iterate 2 (refine ChkS.mk (by kernel_rfl) ?_;conv=>whnf)
          (apply br_f (by simp only [g0, hin2, hk2, bbs, reduceIte]; done);conv=>whnf)
          iterate 2 (apply rq_s rfl;conv=>whnf)
          iterate 2 (refine rq_s (by ((first | (have hq := inR_t hin; rw [wrap64 (by omega) (by omega)]; exact decide_eq_true (by (try simp only [List.length_map]); omega)) | (have hq := inR_t hin; refine and_s rfl ?_; rw [wrap64 (by omega) (by omega)]; exact decide_eq_true (by (try simp only [List.length_map]); omega)) | ((try simp only [List.length_map]); rw [wrap64 (by omega) (by omega)]; simp; omega)))) ?_;conv=>whnf)
          (apply rq_s rfl;conv=>whnf)
          (refine row_s (by (exact row_word (by assumption) (by omega))) ?_;conv=>whnf)
          iterate 5 (apply rq_s rfl;conv=>whnf)
          (apply lend_s;conv=>whnf)
          (apply rows_s rfl;conv=>whnf)
          (refine call_s (kc ..) ?_;conv=>whnf)
          iterate 2 (refine fac_s (fun hf => ?_);conv=>whnf)
          (apply br_t (by assumption);conv=>whnf)
          iterate 21 (apply br_t rfl;conv=>whnf)
          (apply rq_s rfl;conv=>whnf)
          rotate_left
          exact sh_s (by rw [res, e3]; simp)
        injection hf with hf1 hf2
        subst hf1 hf2
        have hw : IntKind.i64.wrap ((wordAt m.ws (ds.getD j default).w).v + ((code.map intR).length : Int)) = (wordAt m.ws (ds.getD j default).w).v + code.length := by rw [List.length_map]; exact wrap64 (by omega) (by omega)
        have hsub : subA (m.co.map intR) (wordAt m.ws (ds.getD j default).w).v.toNat ((IntKind.i64.wrap ((wordAt m.ws (ds.getD j default).w).v + ((code.map intR).length : Int))).toNat - (wordAt m.ws (ds.getD j default).w).v.toNat) = ((m.co.drop (wordAt m.ws (ds.getD j default).w).v.toNat).take code.length).map intR := by
          rw [hw, show ((wordAt m.ws (ds.getD j default).w).v + (code.length : Int)).toNat - (wordAt m.ws (ds.getD j default).w).v.toNat = code.length by omega]
          simp [subA, List.map_take, List.map_drop]
        by_cases hlen : (wordAt m.ws (ds.getD j default).w).v + (code.length : Int) > m.co.length
        · have hg : decide (IntKind.i64.wrap ((wordAt m.ws (ds.getD j default).w).v + ((code.map intR).length : Int)) > ((m.co.map intR).length : Int)) = true := by rw [hw, List.length_map]; exact decide_eq_true hlen
          rw [codeAt_len hlen] at e3
          conv => whnf
          (apply br_t (by assumption);conv=>whnf)
          (apply rq_s rfl;conv=>whnf)
          (refine rq_s (by refine and_s rfl ?_; simp only [lnm]; omega) ?_;conv=>whnf)
          (refine row_s (by ((try simp only [Int.toNat_natCast]); exact row_map dfR _ _ _ default (by first | omega | (simp; omega)))) ?_;conv=>whnf)
          iterate 4 (refine ChkS.mk (by kernel_rfl) ?_;conv=>whnf)
          (apply br_f (by simp only [g0, hin2, hk2, bbs, reduceIte]; done);conv=>whnf)
          (refine ChkS.mk (by kernel_rfl) ?_;conv=>whnf)
          (apply br_f (by simp only [g0, hin2, hk2, bbs, reduceIte]; done);conv=>whnf)
          (refine ChkS.mk (by kernel_rfl) ?_;conv=>whnf)
          (apply br_f (by simp only [g0, hin2, hk2, bbs, reduceIte]; done);conv=>whnf)
          (refine ChkS.mk (by kernel_rfl) ?_;conv=>whnf)
          (apply br_f (by simp only [g0, hin2, hk2, bbs, reduceIte]; done);conv=>whnf)
          (refine ChkS.mk (by kernel_rfl) ?_;conv=>whnf)
          (apply br_f (by simp only [g0, hin2, hk2, bbs, reduceIte]; done);conv=>whnf)
          (refine ChkS.mk (by kernel_rfl) ?_;conv=>whnf)
          (apply br_f (by simp only [g0, hin2, hk2, bbs, reduceIte]; done);conv=>whnf)
          (refine ChkS.mk (by kernel_rfl) ?_;conv=>whnf)
          (apply br_f (by simp only [g0, hin2, hk2, bbs, reduceIte]; done);conv=>whnf)
          (refine ChkS.mk (by kernel_rfl) ?_;conv=>whnf)
          (apply br_f (by simp only [g0, hin2, hk2, bbs, reduceIte]; done);conv=>whnf)
          (refine ChkS.mk (by kernel_rfl) ?_;conv=>whnf)
          (apply br_f (by simp only [g0, hin2, hk2, bbs, reduceIte]; done);conv=>whnf)
          (refine ChkS.mk (by kernel_rfl) ?_;conv=>whnf)
          (apply br_f (by simp only [g0, hin2, hk2, bbs, reduceIte]; done);conv=>whnf)
          iterate 2 (refine ChkS.mk (by kernel_rfl) ?_;conv=>whnf)
          (apply br_f rfl;conv=>whnf)
          (apply rq_s rfl;conv=>whnf)
          (refine ChkS.mk (by kernel_rfl) ?_;conv=>whnf)
          (apply br_f rfl;conv=>whnf)
          (refine ChkS.mk (by kernel_rfl) ?_;conv=>whnf)
          (apply br_f rfl;conv=>whnf)
          (apply rq_s rfl;conv=>whnf)
          (refine ChkS.mk (by kernel_rfl) ?_;conv=>whnf)
          (apply br_f rfl;conv=>whnf)
          (refine ChkS.mk (by kernel_rfl) ?_;conv=>whnf)
          (apply br_f rfl;conv=>whnf)
          (refine ChkS.mk (by kernel_rfl) ?_;conv=>whnf)
          (apply br_f rfl;conv=>whnf)
          iterate 3 (apply rq_s rfl;conv=>whnf)
          (refine call_s (c57 ..) ?_;conv=>whnf)
          (refine ChkS.mk (by kernel_rfl) ?_;conv=>whnf)
          (apply br_f rfl;conv=>whnf)
          iterate 3 (refine ChkS.mk (by kernel_rfl) ?_;conv=>whnf)
          (apply br_f (by simp only [g0, hin2, hk2, bbs, reduceIte]; done);conv=>whnf)
          (apply rq_s rfl;conv=>whnf)
          (refine ChkS.mk (by kernel_rfl) ?_;conv=>whnf)
          (apply br_f (by simp only [g0, hin2, hk2, bbs, reduceIte]; done);conv=>whnf)
          (refine ChkS.mk (by kernel_rfl) ?_;conv=>whnf)
          (apply br_f (by simp only [g0, hin2, hk2, bbs, reduceIte]; done);conv=>whnf)
          (apply rq_s rfl;conv=>whnf)
          (refine ChkS.mk (by kernel_rfl) ?_;conv=>whnf)
          (apply br_f (by simp only [g0, hin2, hk2, bbs, reduceIte]; done);conv=>whnf)
          (refine ChkS.mk (by kernel_rfl) ?_;conv=>whnf)
          (apply br_f (by simp only [g0, hin2, hk2, bbs, reduceIte]; done);conv=>whnf)
          (refine ChkS.mk (by kernel_rfl) ?_;conv=>whnf)
          (apply br_f (by simp only [g0, hin2, hk2, bbs, reduceIte]; done);conv=>whnf)
          iterate 2 (refine rq_s (by ((first | (have hq := inR_t hin; rw [wrap64 (by omega) (by omega)]; exact decide_eq_true (by (try simp only [List.length_map]); omega)) | (have hq := inR_t hin; refine and_s rfl ?_; rw [wrap64 (by omega) (by omega)]; exact decide_eq_true (by (try simp only [List.length_map]); omega)) | ((try simp only [List.length_map]); rw [wrap64 (by omega) (by omega)]; simp; omega) | (rw [hw]; exact decide_eq_true (by omega)) | (rw [hw, List.length_map]; simp only [Bool.and_eq_true, decide_eq_true_eq]; omega)))) ?_;conv=>whnf)
          (refine ChkS.mk (by kernel_rfl) ?_;conv=>whnf)
          (apply br_f (by simp only [g0, hin2, hk2, bbs, reduceIte]; done);conv=>whnf)
          (apply rq_s rfl;conv=>whnf)
          (refine ChkS.mk (by kernel_rfl) ?_;conv=>whnf)
          (apply br_f (by simp only [g0, hin2, hk2, bbs, reduceIte]; done);conv=>whnf)
          (refine row_s (by (exact row_word (by assumption) (by omega))) ?_;conv=>whnf)
          (refine ChkS.mk (by kernel_rfl) ?_;conv=>whnf)
          (apply br_f (by simp only [g0, hin2, hk2, bbs, reduceIte]; done);conv=>whnf)
          iterate 2 (refine ChkS.mk (by kernel_rfl) ?_;conv=>whnf)
          (apply br_f (by simp only [g0, hin2, hk2, bbs, reduceIte]; done);conv=>whnf)
          iterate 2 (apply rq_s rfl;conv=>whnf)
          iterate 2 (refine rq_s (by ((first | (have hq := inR_t hin; rw [wrap64 (by omega) (by omega)]; exact decide_eq_true (by (try simp only [List.length_map]); omega)) | (have hq := inR_t hin; refine and_s rfl ?_; rw [wrap64 (by omega) (by omega)]; exact decide_eq_true (by (try simp only [List.length_map]); omega)) | ((try simp only [List.length_map]); rw [wrap64 (by omega) (by omega)]; simp; omega) | (rw [hw]; exact decide_eq_true (by omega)) | (rw [hw, List.length_map]; simp only [Bool.and_eq_true, decide_eq_true_eq]; omega)))) ?_;conv=>whnf)
          (apply rq_s rfl;conv=>whnf)
          (refine row_s (by (exact row_word (by assumption) (by omega))) ?_;conv=>whnf)
          iterate 5 (apply rq_s rfl;conv=>whnf)
          (apply lend_s;conv=>whnf)
          (apply rows_s rfl;conv=>whnf)
          (refine call_s (kc ..) ?_;conv=>whnf)
          iterate 2 (refine fac_s (fun hf => ?_);conv=>whnf)
          iterate 5 (apply br_f rfl;conv=>whnf)
          (apply rq_s rfl;conv=>whnf)
          iterate 3 (apply br_f rfl;conv=>whnf)
          (apply br_t (by assumption);conv=>whnf)
          iterate 12 (apply br_t rfl;conv=>whnf)
          (apply rq_s rfl;conv=>whnf)
          rotate_left
          exact sh_s (by rw [res, e3]; simp)
        have hg : decide (IntKind.i64.wrap ((wordAt m.ws (ds.getD j default).w).v + ((code.map intR).length : Int)) > ((m.co.map intR).length : Int)) = false := by rw [hw, List.length_map]; exact decide_eq_false hlen
        have hle : decide ((wordAt m.ws (ds.getD j default).w).v + (code.length : Int) ≤ m.co.length) = true := decide_eq_true (by omega)
        rw [codeAt, hle, Bool.true_and] at e3
        conv => whnf
        (apply br_t (by assumption);conv=>whnf)
        (apply rq_s rfl;conv=>whnf)
        (refine rq_s (by refine and_s rfl ?_; simp only [lnm]; omega) ?_;conv=>whnf)
        (refine row_s (by ((try simp only [Int.toNat_natCast]); exact row_map dfR _ _ _ default (by first | omega | (simp; omega)))) ?_;conv=>whnf)
        iterate 4 (refine ChkS.mk (by kernel_rfl) ?_;conv=>whnf)
        (apply br_f (by simp only [g0, hin2, hk2, bbs, reduceIte]; done);conv=>whnf)
        (refine ChkS.mk (by kernel_rfl) ?_;conv=>whnf)
        (apply br_f (by simp only [g0, hin2, hk2, bbs, reduceIte]; done);conv=>whnf)
        (refine ChkS.mk (by kernel_rfl) ?_;conv=>whnf)
        (apply br_f (by simp only [g0, hin2, hk2, bbs, reduceIte]; done);conv=>whnf)
        (refine ChkS.mk (by kernel_rfl) ?_;conv=>whnf)
        (apply br_f (by simp only [g0, hin2, hk2, bbs, reduceIte]; done);conv=>whnf)
        (refine ChkS.mk (by kernel_rfl) ?_;conv=>whnf)
        (apply br_f (by simp only [g0, hin2, hk2, bbs, reduceIte]; done);conv=>whnf)
        (refine ChkS.mk (by kernel_rfl) ?_;conv=>whnf)
        (apply br_f (by simp only [g0, hin2, hk2, bbs, reduceIte]; done);conv=>whnf)
        (refine ChkS.mk (by kernel_rfl) ?_;conv=>whnf)
        (apply br_f (by simp only [g0, hin2, hk2, bbs, reduceIte]; done);conv=>whnf)
        (refine ChkS.mk (by kernel_rfl) ?_;conv=>whnf)
        (apply br_f (by simp only [g0, hin2, hk2, bbs, reduceIte]; done);conv=>whnf)
        (refine ChkS.mk (by kernel_rfl) ?_;conv=>whnf)
        (apply br_f (by simp only [g0, hin2, hk2, bbs, reduceIte]; done);conv=>whnf)
        (refine ChkS.mk (by kernel_rfl) ?_;conv=>whnf)
        (apply br_f (by simp only [g0, hin2, hk2, bbs, reduceIte]; done);conv=>whnf)
        iterate 2 (refine ChkS.mk (by kernel_rfl) ?_;conv=>whnf)
        (apply br_f rfl;conv=>whnf)
        (apply rq_s rfl;conv=>whnf)
        (refine ChkS.mk (by kernel_rfl) ?_;conv=>whnf)
        (apply br_f rfl;conv=>whnf)
        (refine ChkS.mk (by kernel_rfl) ?_;conv=>whnf)
        (apply br_f rfl;conv=>whnf)
        (apply rq_s rfl;conv=>whnf)
        (refine ChkS.mk (by kernel_rfl) ?_;conv=>whnf)
        (apply br_f rfl;conv=>whnf)
        (refine ChkS.mk (by kernel_rfl) ?_;conv=>whnf)
        (apply br_f rfl;conv=>whnf)
        (refine ChkS.mk (by kernel_rfl) ?_;conv=>whnf)
        (apply br_f rfl;conv=>whnf)
        iterate 3 (apply rq_s rfl;conv=>whnf)
        (refine call_s (c57 ..) ?_;conv=>whnf)
        (refine ChkS.mk (by kernel_rfl) ?_;conv=>whnf)
        (apply br_f rfl;conv=>whnf)
        iterate 3 (refine ChkS.mk (by kernel_rfl) ?_;conv=>whnf)
        (apply br_f (by simp only [g0, hin2, hk2, bbs, reduceIte]; done);conv=>whnf)
        (apply rq_s rfl;conv=>whnf)
        (refine ChkS.mk (by kernel_rfl) ?_;conv=>whnf)
        (apply br_f (by simp only [g0, hin2, hk2, bbs, reduceIte]; done);conv=>whnf)
        (refine ChkS.mk (by kernel_rfl) ?_;conv=>whnf)
        (apply br_f (by simp only [g0, hin2, hk2, bbs, reduceIte]; done);conv=>whnf)
        (apply rq_s rfl;conv=>whnf)
        (refine ChkS.mk (by kernel_rfl) ?_;conv=>whnf)
        (apply br_f (by simp only [g0, hin2, hk2, bbs, reduceIte]; done);conv=>whnf)
        (refine ChkS.mk (by kernel_rfl) ?_;conv=>whnf)
        (apply br_f (by simp only [g0, hin2, hk2, bbs, reduceIte]; done);conv=>whnf)
        (refine ChkS.mk (by kernel_rfl) ?_;conv=>whnf)
        (apply br_f (by simp only [g0, hin2, hk2, bbs, reduceIte]; done);conv=>whnf)
        iterate 2 (refine rq_s (by ((first | (have hq := inR_t hin; rw [wrap64 (by omega) (by omega)]; exact decide_eq_true (by (try simp only [List.length_map]); omega)) | (have hq := inR_t hin; refine and_s rfl ?_; rw [wrap64 (by omega) (by omega)]; exact decide_eq_true (by (try simp only [List.length_map]); omega)) | ((try simp only [List.length_map]); rw [wrap64 (by omega) (by omega)]; simp; omega) | (rw [hw]; exact decide_eq_true (by omega)) | (rw [hw, List.length_map]; simp only [Bool.and_eq_true, decide_eq_true_eq]; omega)))) ?_;conv=>whnf)
        (refine ChkS.mk (by kernel_rfl) ?_;conv=>whnf)
        (apply br_f (by simp only [g0, hin2, hk2, bbs, reduceIte]; done);conv=>whnf)
        (apply rq_s rfl;conv=>whnf)
        (refine ChkS.mk (by kernel_rfl) ?_;conv=>whnf)
        (apply br_f (by simp only [g0, hin2, hk2, bbs, reduceIte]; done);conv=>whnf)
        (refine row_s (by (exact row_word (by assumption) (by omega))) ?_;conv=>whnf)
        (refine ChkS.mk (by kernel_rfl) ?_;conv=>whnf)
        (apply br_f (by simp only [g0, hin2, hk2, bbs, reduceIte]; done);conv=>whnf)
        iterate 2 (refine ChkS.mk (by kernel_rfl) ?_;conv=>whnf)
        (apply br_f (by simp only [g0, hin2, hk2, bbs, reduceIte]; done);conv=>whnf)
        iterate 2 (apply rq_s rfl;conv=>whnf)
        iterate 2 (refine rq_s (by ((first | (have hq := inR_t hin; rw [wrap64 (by omega) (by omega)]; exact decide_eq_true (by (try simp only [List.length_map]); omega)) | (have hq := inR_t hin; refine and_s rfl ?_; rw [wrap64 (by omega) (by omega)]; exact decide_eq_true (by (try simp only [List.length_map]); omega)) | ((try simp only [List.length_map]); rw [wrap64 (by omega) (by omega)]; simp; omega) | (rw [hw]; exact decide_eq_true (by omega)) | (rw [hw, List.length_map]; simp only [Bool.and_eq_true, decide_eq_true_eq]; omega)))) ?_;conv=>whnf)
        (apply rq_s rfl;conv=>whnf)
        (refine row_s (by (exact row_word (by assumption) (by omega))) ?_;conv=>whnf)
        iterate 5 (apply rq_s rfl;conv=>whnf)
        (apply lend_s;conv=>whnf)
        (apply rows_s rfl;conv=>whnf)
        (refine call_s (kc ..) ?_;conv=>whnf)
        iterate 2 (refine fac_s (fun hf => ?_);conv=>whnf)
        iterate 5 (apply br_f rfl;conv=>whnf)
        (apply rq_s rfl;conv=>whnf)
        iterate 3 (apply br_f rfl;conv=>whnf)
        (apply br_f (by assumption);conv=>whnf)
        (apply rq_s rfl;conv=>whnf)
        iterate 7 (apply br_f rfl;conv=>whnf)
        (apply rq_s (by simp only [Bool.and_eq_true, decide_eq_true_eq, List.length_map]; omega);conv=>whnf)
        iterate 2 (refine rq_s (by ((first | (have hq := inR_t hin; rw [wrap64 (by omega) (by omega)]; exact decide_eq_true (by (try simp only [List.length_map]); omega)) | (have hq := inR_t hin; refine and_s rfl ?_; rw [wrap64 (by omega) (by omega)]; exact decide_eq_true (by (try simp only [List.length_map]); omega)) | ((try simp only [List.length_map]); rw [wrap64 (by omega) (by omega)]; simp; omega) | (rw [hw]; exact decide_eq_true (by omega)) | (rw [hw, List.length_map]; simp only [Bool.and_eq_true, decide_eq_true_eq]; omega)))) ?_;conv=>whnf)
        (apply rq_s rfl;conv=>whnf)
        iterate 2 (apply br_f rfl;conv=>whnf)
        (apply rq_s rfl;conv=>whnf)
        (apply rq_s (by simp only [lnm]; done);conv=>whnf)
        (apply rq_s rfl;conv=>whnf)
        (apply lend_s;conv=>whnf)
        (apply rows_s (by (exact hsub));conv=>whnf)
        (refine rows_s (by ((refine sub_all ?_; simp [List.length_map]; done))) ?_;conv=>whnf)
        (refine call_s (c59 ..) ?_;conv=>whnf)
        (apply br_f rfl;conv=>whnf)
        (refine br_s ?_ ?_ <;> intro hb <;> (try simp only [cln] at hb) <;> conv=>whnf)
        (apply rq_s rfl;conv=>whnf)
        iterate 2 (rotate_left)
        · have e4 : decide ((m.co.drop (wordAt m.ws (ds.getD j default).w).v.toNat).take code.length = code) = false := by simpa using hb
          rw [e4] at e3
          exact sh_s (by rw [res, e3]; simp)
        · have e4 : decide ((m.co.drop (wordAt m.ws (ds.getD j default).w).v.toNat).take code.length = code) = true := by simpa using hb
          rw [e4] at e3
          exact head_s (j + 1) ⟨⟨by omega, by rw [hpw, ← h2, e3, elt]; rfl⟩, by omega⟩ (by rw [wrap64 (n := (j : Int) + 1) (by omega) (by omega)]; rfl) rfl
      · skip
        by_cases hin : inR (ds.getD j default).w 1 m.ws.length = false
        · have e3 : defOK m (ds.getD j default) = false := defOK_w hin
          have hin2 : inR (ds.getD j default).w 1 ((m.ws.map wdR).length : Int) = false := by rw [List.length_map]; exact hin
          have hin3 : (!inR (ds.getD j default).w 1 ((m.ws.map wdR).length : Int)) = true := by rw [hin2]; rfl
          conv => whnf
          (apply br_t (by assumption);conv=>whnf)
          (apply rq_s rfl;conv=>whnf)
          (refine rq_s (by refine and_s rfl ?_; simp only [lnm]; omega) ?_;conv=>whnf)
          (refine row_s (by ((try simp only [Int.toNat_natCast]); exact row_map dfR _ _ _ default (by first | omega | (simp; omega)))) ?_;conv=>whnf)
          iterate 4 (refine ChkS.mk (by kernel_rfl) ?_;conv=>whnf)
          (apply br_t (by simp only [g0, g1, hin2, bbs, reduceIte]; done);conv=>whnf)
          (refine ChkS.mk (by kernel_rfl) ?_;conv=>whnf)
          (apply br_t (by simp only [g0, g1, hin2, bbs, reduceIte]; done);conv=>whnf)
          (refine ChkS.mk (by kernel_rfl) ?_;conv=>whnf)
          (apply br_t (by simp only [g0, g1, hin2, bbs, reduceIte]; done);conv=>whnf)
          (refine ChkS.mk (by kernel_rfl) ?_;conv=>whnf)
          (apply br_t (by simp only [g0, g1, hin2, bbs, reduceIte]; done);conv=>whnf)
          iterate 2 (apply rq_s (by ((((try simp only [List.length_map]); rw [wrap64 (by omega) (by omega)]; simp; omega))));conv=>whnf)
          (refine ChkS.mk (by kernel_rfl) ?_;conv=>whnf)
          (apply br_t (by simp only [g0, g1, hin2, bbs, reduceIte]; done);conv=>whnf)
          (apply rq_s rfl;conv=>whnf)
          (refine ChkS.mk (by kernel_rfl) ?_;conv=>whnf)
          (apply br_t (by simp only [g0, g1, hin2, bbs, reduceIte]; done);conv=>whnf)
          (refine row_s (by (exact row_prev (by assumption) (by omega) (by omega))) ?_;conv=>whnf)
          (refine ChkS.mk (by kernel_rfl) ?_;conv=>whnf)
          (apply br_t (by simp only [g0, g1, hin2, bbs, reduceIte]; done);conv=>whnf)
          (apply rq_s rfl;conv=>whnf)
          (refine ChkS.mk (by kernel_rfl) ?_;conv=>whnf)
          (apply br_t (by simp only [g0, g1, hin2, bbs, reduceIte]; done);conv=>whnf)
          (refine ChkS.mk (by kernel_rfl) ?_;conv=>whnf)
          (apply br_t (by simp only [g0, g1, hin2, bbs, reduceIte]; done);conv=>whnf)
          iterate 3 (refine ChkS.mk (by kernel_rfl) ?_;conv=>whnf)
          (apply br_f (by simp only [g0, g1, hin2, bbs, reduceIte]; done);conv=>whnf)
          (apply rq_s rfl;conv=>whnf)
          (refine ChkS.mk (by kernel_rfl) ?_;conv=>whnf)
          (apply br_f (by simp only [g0, g1, hin2, bbs, reduceIte]; done);conv=>whnf)
          (refine ChkS.mk (by kernel_rfl) ?_;conv=>whnf)
          (apply br_f (by simp only [g0, g1, hin2, bbs, reduceIte]; done);conv=>whnf)
          (apply rq_s rfl;conv=>whnf)
          (refine ChkS.mk (by kernel_rfl) ?_;conv=>whnf)
          (apply br_f (by simp only [g0, g1, hin2, bbs, reduceIte]; done);conv=>whnf)
          (refine ChkS.mk (by kernel_rfl) ?_;conv=>whnf)
          (apply br_f (by simp only [g0, g1, hin2, bbs, reduceIte]; done);conv=>whnf)
          (refine ChkS.mk (by kernel_rfl) ?_;conv=>whnf)
          (apply br_f (by simp only [g0, g1, hin2, bbs, reduceIte]; done);conv=>whnf)
          iterate 3 (apply rq_s rfl;conv=>whnf)
          (refine call_s (c57 ..) ?_;conv=>whnf)
          (refine ChkS.mk (by kernel_rfl) ?_;conv=>whnf)
          (apply br_f (by simp only [g0, g1, hin2, bbs, reduceIte]; done);conv=>whnf)
          iterate 3 (refine ChkS.mk (by kernel_rfl) ?_;conv=>whnf)
          (apply br_t (by simp only [g0, g1, hin2, bbs, reduceIte]; done);conv=>whnf)
          (refine ChkS.mk (by kernel_rfl) ?_;conv=>whnf)
          (apply br_t (by simp only [g0, g1, hin2, bbs, reduceIte]; done);conv=>whnf)
          (refine ChkS.mk (by kernel_rfl) ?_;conv=>whnf)
          (apply br_t (by simp only [g0, g1, hin2, bbs, reduceIte]; done);conv=>whnf)
          (refine ChkS.mk (by kernel_rfl) ?_;conv=>whnf)
          (apply br_t (by simp only [g0, g1, hin2, bbs, reduceIte]; done);conv=>whnf)
          (refine ChkS.mk (by kernel_rfl) ?_;conv=>whnf)
          (apply br_t (by simp only [g0, g1, hin2, bbs, reduceIte]; done);conv=>whnf)
          (refine ChkS.mk (by kernel_rfl) ?_;conv=>whnf)
          (apply br_t (by simp only [g0, g1, hin2, bbs, reduceIte]; done);conv=>whnf)
          (refine ChkS.mk (by kernel_rfl) ?_;conv=>whnf)
          (apply br_t (by simp only [g0, g1, hin2, bbs, reduceIte]; done);conv=>whnf)
          (refine ChkS.mk (by kernel_rfl) ?_;conv=>whnf)
          (apply br_t (by simp only [g0, g1, hin2, bbs, reduceIte]; done);conv=>whnf)
          (refine ChkS.mk (by kernel_rfl) ?_;conv=>whnf)
          (apply br_t (by simp only [g0, g1, hin2, bbs, reduceIte]; done);conv=>whnf)
          (refine ChkS.mk (by kernel_rfl) ?_;conv=>whnf)
          (apply br_t (by simp only [g0, g1, hin2, bbs, reduceIte]; done);conv=>whnf)
          (refine ChkS.mk (by kernel_rfl) ?_;conv=>whnf)
          (apply br_t rfl;conv=>whnf)
          (apply rq_s rfl;conv=>whnf)
          rotate_left
          exact sh_s (by rw [res, e3]; simp)
        rw [Bool.not_eq_false] at hin
        have hin2 : inR (ds.getD j default).w 1 ((m.ws.map wdR).length : Int) = true := by rw [List.length_map]; exact hin
        have hin3 : (!inR (ds.getD j default).w 1 ((m.ws.map wdR).length : Int)) = false := by rw [hin2]; rfl
        by_cases hk : (wordAt m.ws (ds.getD j default).w).k = 6
        rotate_left
        · have e3 : defOK m (ds.getD j default) = false := defOK_k hk
          have hk2 : ((wordAt m.ws (ds.getD j default).w).k != 6) = true := bne_iff_ne.2 hk
          conv => whnf
          (apply br_t (by assumption);conv=>whnf)
          (apply rq_s rfl;conv=>whnf)
          (refine rq_s (by refine and_s rfl ?_; simp only [lnm]; omega) ?_;conv=>whnf)
          (refine row_s (by ((try simp only [Int.toNat_natCast]); exact row_map dfR _ _ _ default (by first | omega | (simp; omega)))) ?_;conv=>whnf)
          iterate 4 (refine ChkS.mk (by kernel_rfl) ?_;conv=>whnf)
          (apply br_t (by simp only [g0, g1, hin2, hk2, bbs, reduceIte]; done);conv=>whnf)
          (refine ChkS.mk (by kernel_rfl) ?_;conv=>whnf)
          (apply br_t (by simp only [g0, g1, hin2, hk2, bbs, reduceIte]; done);conv=>whnf)
          (refine ChkS.mk (by kernel_rfl) ?_;conv=>whnf)
          (apply br_t (by simp only [g0, g1, hin2, hk2, bbs, reduceIte]; done);conv=>whnf)
          (refine ChkS.mk (by kernel_rfl) ?_;conv=>whnf)
          (apply br_t (by simp only [g0, g1, hin2, hk2, bbs, reduceIte]; done);conv=>whnf)
          iterate 2 (refine rq_s (by ((first | (have hq := inR_t hin; rw [wrap64 (by omega) (by omega)]; exact decide_eq_true (by (try simp only [List.length_map]); omega)) | (have hq := inR_t hin; refine and_s rfl ?_; rw [wrap64 (by omega) (by omega)]; exact decide_eq_true (by (try simp only [List.length_map]); omega)) | ((try simp only [List.length_map]); rw [wrap64 (by omega) (by omega)]; simp; omega)))) ?_;conv=>whnf)
          (refine ChkS.mk (by kernel_rfl) ?_;conv=>whnf)
          (apply br_t (by simp only [g0, g1, hin2, hk2, bbs, reduceIte]; done);conv=>whnf)
          (apply rq_s rfl;conv=>whnf)
          (refine ChkS.mk (by kernel_rfl) ?_;conv=>whnf)
          (apply br_t (by simp only [g0, g1, hin2, hk2, bbs, reduceIte]; done);conv=>whnf)
          (refine row_s (by (exact row_prev (by assumption) (by omega) (by omega))) ?_;conv=>whnf)
          (refine ChkS.mk (by kernel_rfl) ?_;conv=>whnf)
          (apply br_t (by simp only [g0, g1, hin2, hk2, bbs, reduceIte]; done);conv=>whnf)
          (apply rq_s rfl;conv=>whnf)
          (refine ChkS.mk (by kernel_rfl) ?_;conv=>whnf)
          (apply br_t (by simp only [g0, g1, hin2, hk2, bbs, reduceIte]; done);conv=>whnf)
          (refine ChkS.mk (by kernel_rfl) ?_;conv=>whnf)
          (apply br_t (by simp only [g0, g1, hin2, hk2, bbs, reduceIte]; done);conv=>whnf)
          iterate 3 (refine ChkS.mk (by kernel_rfl) ?_;conv=>whnf)
          (apply br_f (by simp only [g0, g1, hin2, hk2, bbs, reduceIte]; done);conv=>whnf)
          (apply rq_s rfl;conv=>whnf)
          (refine ChkS.mk (by kernel_rfl) ?_;conv=>whnf)
          (apply br_f (by simp only [g0, g1, hin2, hk2, bbs, reduceIte]; done);conv=>whnf)
          (refine ChkS.mk (by kernel_rfl) ?_;conv=>whnf)
          (apply br_f (by simp only [g0, g1, hin2, hk2, bbs, reduceIte]; done);conv=>whnf)
          (apply rq_s rfl;conv=>whnf)
          (refine ChkS.mk (by kernel_rfl) ?_;conv=>whnf)
          (apply br_f (by simp only [g0, g1, hin2, hk2, bbs, reduceIte]; done);conv=>whnf)
          (refine ChkS.mk (by kernel_rfl) ?_;conv=>whnf)
          (apply br_f (by simp only [g0, g1, hin2, hk2, bbs, reduceIte]; done);conv=>whnf)
          (refine ChkS.mk (by kernel_rfl) ?_;conv=>whnf)
          (apply br_f (by simp only [g0, g1, hin2, hk2, bbs, reduceIte]; done);conv=>whnf)
          iterate 3 (apply rq_s rfl;conv=>whnf)
          (refine call_s (c57 ..) ?_;conv=>whnf)
          (refine ChkS.mk (by kernel_rfl) ?_;conv=>whnf)
          (apply br_f (by simp only [g0, g1, hin2, hk2, bbs, reduceIte]; done);conv=>whnf)
          iterate 3 (refine ChkS.mk (by kernel_rfl) ?_;conv=>whnf)
          (apply br_f (by simp only [g0, g1, hin2, hk2, bbs, reduceIte]; done);conv=>whnf)
          (apply rq_s rfl;conv=>whnf)
          (refine ChkS.mk (by kernel_rfl) ?_;conv=>whnf)
          (apply br_f (by simp only [g0, g1, hin2, hk2, bbs, reduceIte]; done);conv=>whnf)
          (refine ChkS.mk (by kernel_rfl) ?_;conv=>whnf)
          (apply br_f (by simp only [g0, g1, hin2, hk2, bbs, reduceIte]; done);conv=>whnf)
          (apply rq_s rfl;conv=>whnf)
          (refine ChkS.mk (by kernel_rfl) ?_;conv=>whnf)
          (apply br_f (by simp only [g0, g1, hin2, hk2, bbs, reduceIte]; done);conv=>whnf)
          (refine ChkS.mk (by kernel_rfl) ?_;conv=>whnf)
          (apply br_f (by simp only [g0, g1, hin2, hk2, bbs, reduceIte]; done);conv=>whnf)
          (refine ChkS.mk (by kernel_rfl) ?_;conv=>whnf)
          (apply br_f (by simp only [g0, g1, hin2, hk2, bbs, reduceIte]; done);conv=>whnf)
          iterate 2 (refine rq_s (by ((first | (have hq := inR_t hin; rw [wrap64 (by omega) (by omega)]; exact decide_eq_true (by (try simp only [List.length_map]); omega)) | (have hq := inR_t hin; refine and_s rfl ?_; rw [wrap64 (by omega) (by omega)]; exact decide_eq_true (by (try simp only [List.length_map]); omega)) | ((try simp only [List.length_map]); rw [wrap64 (by omega) (by omega)]; simp; omega)))) ?_;conv=>whnf)
          (refine ChkS.mk (by kernel_rfl) ?_;conv=>whnf)
          (apply br_f (by simp only [g0, g1, hin2, hk2, bbs, reduceIte]; done);conv=>whnf)
          (apply rq_s rfl;conv=>whnf)
          (refine ChkS.mk (by kernel_rfl) ?_;conv=>whnf)
          (apply br_f (by simp only [g0, g1, hin2, hk2, bbs, reduceIte]; done);conv=>whnf)
          (refine row_s (by (exact row_word (by assumption) (by omega))) ?_;conv=>whnf)
          (refine ChkS.mk (by kernel_rfl) ?_;conv=>whnf)
          (apply br_f (by simp only [g0, g1, hin2, hk2, bbs, reduceIte]; done);conv=>whnf)
          iterate 2 (refine ChkS.mk (by kernel_rfl) ?_;conv=>whnf)
          (apply br_t (by simp only [g0, g1, hin2, hk2, bbs, reduceIte]; done);conv=>whnf)
          (apply rq_s rfl;conv=>whnf)
          rotate_left
          exact sh_s (by rw [res, e3]; simp)
        have hk2 : ((wordAt m.ws (ds.getD j default).w).k != 6) = false := by rw [hk]; rfl
        have kc := c58 (ds.getD j default).its (wordAt m.ws (ds.getD j default).w).v (ds.getD j default).w
        have hcs := ci_cases m (ds.getD j default) hm hin hk
        have elt : decide (pw ds j < (ds.getD j default).w) = true := by
          have := (inR_t hin).1
          unfold pw
          split
          · exact decide_eq_true (by omega)
          · first
            | (have := of_decide_eq_false g1; exact decide_eq_true (by omega))
            | omega
        generalize ciF (ds.getD j default).its (wordAt m.ws (ds.getD j default).w).v (ds.getD j default).w = r at kc hcs
        obtain ⟨code, fault⟩ := r
        simp only [ciV] at kc
        rcases hcs with ⟨hf, e3⟩ | ⟨c2, hf, hl4, hv, e3⟩
        · have hf2 : (fault != 0) = true := bne_iff_ne.2 hf
          conv => whnf
          (apply br_t (by assumption);conv=>whnf)
          (apply rq_s rfl;conv=>whnf)
          (refine rq_s (by refine and_s rfl ?_; simp only [lnm]; omega) ?_;conv=>whnf)
          (refine row_s (by ((try simp only [Int.toNat_natCast]); exact row_map dfR _ _ _ default (by first | omega | (simp; omega)))) ?_;conv=>whnf)
          iterate 4 (refine ChkS.mk (by kernel_rfl) ?_;conv=>whnf)
          (apply br_t (by simp only [g0, g1, hin2, hk2, bbs, reduceIte]; done);conv=>whnf)
          (refine ChkS.mk (by kernel_rfl) ?_;conv=>whnf)
          (apply br_t (by simp only [g0, g1, hin2, hk2, bbs, reduceIte]; done);conv=>whnf)
          (refine ChkS.mk (by kernel_rfl) ?_;conv=>whnf)
          (apply br_t (by simp only [g0, g1, hin2, hk2, bbs, reduceIte]; done);conv=>whnf)
          (refine ChkS.mk (by kernel_rfl) ?_;conv=>whnf)
          (apply br_t (by simp only [g0, g1, hin2, hk2, bbs, reduceIte]; done);conv=>whnf)
          iterate 2 (refine rq_s (by ((first | (have hq := inR_t hin; rw [wrap64 (by omega) (by omega)]; exact decide_eq_true (by (try simp only [List.length_map]); omega)) | (have hq := inR_t hin; refine and_s rfl ?_; rw [wrap64 (by omega) (by omega)]; exact decide_eq_true (by (try simp only [List.length_map]); omega)) | ((try simp only [List.length_map]); rw [wrap64 (by omega) (by omega)]; simp; omega)))) ?_;conv=>whnf)
          (refine ChkS.mk (by kernel_rfl) ?_;conv=>whnf)
          (apply br_t (by simp only [g0, g1, hin2, hk2, bbs, reduceIte]; done);conv=>whnf)
          (apply rq_s rfl;conv=>whnf)
          (refine ChkS.mk (by kernel_rfl) ?_;conv=>whnf)
          (apply br_t (by simp only [g0, g1, hin2, hk2, bbs, reduceIte]; done);conv=>whnf)
          (refine row_s (by (exact row_prev (by assumption) (by omega) (by omega))) ?_;conv=>whnf)
          (refine ChkS.mk (by kernel_rfl) ?_;conv=>whnf)
          (apply br_t (by simp only [g0, g1, hin2, hk2, bbs, reduceIte]; done);conv=>whnf)
          (apply rq_s rfl;conv=>whnf)
          (refine ChkS.mk (by kernel_rfl) ?_;conv=>whnf)
          (apply br_t (by simp only [g0, g1, hin2, hk2, bbs, reduceIte]; done);conv=>whnf)
          (refine ChkS.mk (by kernel_rfl) ?_;conv=>whnf)
          (apply br_t (by simp only [g0, g1, hin2, hk2, bbs, reduceIte]; done);conv=>whnf)
          iterate 3 (refine ChkS.mk (by kernel_rfl) ?_;conv=>whnf)
          (apply br_f (by simp only [g0, g1, hin2, hk2, bbs, reduceIte]; done);conv=>whnf)
          (apply rq_s rfl;conv=>whnf)
          (refine ChkS.mk (by kernel_rfl) ?_;conv=>whnf)
          (apply br_f (by simp only [g0, g1, hin2, hk2, bbs, reduceIte]; done);conv=>whnf)
          (refine ChkS.mk (by kernel_rfl) ?_;conv=>whnf)
          (apply br_f (by simp only [g0, g1, hin2, hk2, bbs, reduceIte]; done);conv=>whnf)
          (apply rq_s rfl;conv=>whnf)
          (refine ChkS.mk (by kernel_rfl) ?_;conv=>whnf)
          (apply br_f (by simp only [g0, g1, hin2, hk2, bbs, reduceIte]; done);conv=>whnf)
          (refine ChkS.mk (by kernel_rfl) ?_;conv=>whnf)
          (apply br_f (by simp only [g0, g1, hin2, hk2, bbs, reduceIte]; done);conv=>whnf)
          (refine ChkS.mk (by kernel_rfl) ?_;conv=>whnf)
          (apply br_f (by simp only [g0, g1, hin2, hk2, bbs, reduceIte]; done);conv=>whnf)
          iterate 3 (apply rq_s rfl;conv=>whnf)
          (refine call_s (c57 ..) ?_;conv=>whnf)
          (refine ChkS.mk (by kernel_rfl) ?_;conv=>whnf)
          (apply br_f (by simp only [g0, g1, hin2, hk2, bbs, reduceIte]; done);conv=>whnf)
          iterate 3 (refine ChkS.mk (by kernel_rfl) ?_;conv=>whnf)
          (apply br_f (by simp only [g0, g1, hin2, hk2, bbs, reduceIte]; done);conv=>whnf)
          (apply rq_s rfl;conv=>whnf)
          (refine ChkS.mk (by kernel_rfl) ?_;conv=>whnf)
          (apply br_f (by simp only [g0, g1, hin2, hk2, bbs, reduceIte]; done);conv=>whnf)
          (refine ChkS.mk (by kernel_rfl) ?_;conv=>whnf)
          (apply br_f (by simp only [g0, g1, hin2, hk2, bbs, reduceIte]; done);conv=>whnf)
          (apply rq_s rfl;conv=>whnf)
          (refine ChkS.mk (by kernel_rfl) ?_;conv=>whnf)
          (apply br_f (by simp only [g0, g1, hin2, hk2, bbs, reduceIte]; done);conv=>whnf)
          (refine ChkS.mk (by kernel_rfl) ?_;conv=>whnf)
          (apply br_f (by simp only [g0, g1, hin2, hk2, bbs, reduceIte]; done);conv=>whnf)
          (refine ChkS.mk (by kernel_rfl) ?_;conv=>whnf)
          (apply br_f (by simp only [g0, g1, hin2, hk2, bbs, reduceIte]; done);conv=>whnf)
          iterate 2 (refine rq_s (by ((first | (have hq := inR_t hin; rw [wrap64 (by omega) (by omega)]; exact decide_eq_true (by (try simp only [List.length_map]); omega)) | (have hq := inR_t hin; refine and_s rfl ?_; rw [wrap64 (by omega) (by omega)]; exact decide_eq_true (by (try simp only [List.length_map]); omega)) | ((try simp only [List.length_map]); rw [wrap64 (by omega) (by omega)]; simp; omega)))) ?_;conv=>whnf)
          (refine ChkS.mk (by kernel_rfl) ?_;conv=>whnf)
          (apply br_f (by simp only [g0, g1, hin2, hk2, bbs, reduceIte]; done);conv=>whnf)
          (apply rq_s rfl;conv=>whnf)
          (refine ChkS.mk (by kernel_rfl) ?_;conv=>whnf)
          (apply br_f (by simp only [g0, g1, hin2, hk2, bbs, reduceIte]; done);conv=>whnf)
          (refine row_s (by (exact row_word (by assumption) (by omega))) ?_;conv=>whnf)
          (refine ChkS.mk (by kernel_rfl) ?_;conv=>whnf)
          (apply br_f (by simp only [g0, g1, hin2, hk2, bbs, reduceIte]; done);conv=>whnf)
          iterate 2 (refine ChkS.mk (by kernel_rfl) ?_;conv=>whnf)
          (apply br_f (by simp only [g0, g1, hin2, hk2, bbs, reduceIte]; done);conv=>whnf)
          iterate 2 (apply rq_s rfl;conv=>whnf)
          iterate 2 (refine rq_s (by ((first | (have hq := inR_t hin; rw [wrap64 (by omega) (by omega)]; exact decide_eq_true (by (try simp only [List.length_map]); omega)) | (have hq := inR_t hin; refine and_s rfl ?_; rw [wrap64 (by omega) (by omega)]; exact decide_eq_true (by (try simp only [List.length_map]); omega)) | ((try simp only [List.length_map]); rw [wrap64 (by omega) (by omega)]; simp; omega)))) ?_;conv=>whnf)
          (apply rq_s rfl;conv=>whnf)
          (refine row_s (by (exact row_word (by assumption) (by omega))) ?_;conv=>whnf)
          iterate 5 (apply rq_s rfl;conv=>whnf)
          (apply lend_s;conv=>whnf)
          (apply rows_s rfl;conv=>whnf)
          (refine call_s (kc ..) ?_;conv=>whnf)
          iterate 2 (refine fac_s (fun hf => ?_);conv=>whnf)
          (apply br_t (by assumption);conv=>whnf)
          iterate 21 (apply br_t rfl;conv=>whnf)
          (apply rq_s rfl;conv=>whnf)
          rotate_left
          exact sh_s (by rw [res, e3]; simp)
        injection hf with hf1 hf2
        subst hf1 hf2
        have hw : IntKind.i64.wrap ((wordAt m.ws (ds.getD j default).w).v + ((code.map intR).length : Int)) = (wordAt m.ws (ds.getD j default).w).v + code.length := by rw [List.length_map]; exact wrap64 (by omega) (by omega)
        have hsub : subA (m.co.map intR) (wordAt m.ws (ds.getD j default).w).v.toNat ((IntKind.i64.wrap ((wordAt m.ws (ds.getD j default).w).v + ((code.map intR).length : Int))).toNat - (wordAt m.ws (ds.getD j default).w).v.toNat) = ((m.co.drop (wordAt m.ws (ds.getD j default).w).v.toNat).take code.length).map intR := by
          rw [hw, show ((wordAt m.ws (ds.getD j default).w).v + (code.length : Int)).toNat - (wordAt m.ws (ds.getD j default).w).v.toNat = code.length by omega]
          simp [subA, List.map_take, List.map_drop]
        by_cases hlen : (wordAt m.ws (ds.getD j default).w).v + (code.length : Int) > m.co.length
        · have hg : decide (IntKind.i64.wrap ((wordAt m.ws (ds.getD j default).w).v + ((code.map intR).length : Int)) > ((m.co.map intR).length : Int)) = true := by rw [hw, List.length_map]; exact decide_eq_true hlen
          rw [codeAt_len hlen] at e3
          conv => whnf
          (apply br_t (by assumption);conv=>whnf)
          (apply rq_s rfl;conv=>whnf)
          (refine rq_s (by refine and_s rfl ?_; simp only [lnm]; omega) ?_;conv=>whnf)
          (refine row_s (by ((try simp only [Int.toNat_natCast]); exact row_map dfR _ _ _ default (by first | omega | (simp; omega)))) ?_;conv=>whnf)
          iterate 4 (refine ChkS.mk (by kernel_rfl) ?_;conv=>whnf)
          (apply br_t (by simp only [g0, g1, hin2, hk2, bbs, reduceIte]; done);conv=>whnf)
          (refine ChkS.mk (by kernel_rfl) ?_;conv=>whnf)
          (apply br_t (by simp only [g0, g1, hin2, hk2, bbs, reduceIte]; done);conv=>whnf)
          (refine ChkS.mk (by kernel_rfl) ?_;conv=>whnf)
          (apply br_t (by simp only [g0, g1, hin2, hk2, bbs, reduceIte]; done);conv=>whnf)
          (refine ChkS.mk (by kernel_rfl) ?_;conv=>whnf)
          (apply br_t (by simp only [g0, g1, hin2, hk2, bbs, reduceIte]; done);conv=>whnf)
          iterate 2 (refine rq_s (by ((first | (have hq := inR_t hin; rw [wrap64 (by omega) (by omega)]; exact decide_eq_true (by (try simp only [List.length_map]); omega)) | (have hq := inR_t hin; refine and_s rfl ?_; rw [wrap64 (by omega) (by omega)]; exact decide_eq_true (by (try simp only [List.length_map]); omega)) | ((try simp only [List.length_map]); rw [wrap64 (by omega) (by omega)]; simp; omega) | (rw [hw]; exact decide_eq_true (by omega)) | (rw [hw, List.length_map]; simp only [Bool.and_eq_true, decide_eq_true_eq]; omega)))) ?_;conv=>whnf)
          (refine ChkS.mk (by kernel_rfl) ?_;conv=>whnf)
          (apply br_t (by simp only [g0, g1, hin2, hk2, bbs, reduceIte]; done);conv=>whnf)
          (apply rq_s rfl;conv=>whnf)
          (refine ChkS.mk (by kernel_rfl) ?_;conv=>whnf)
          (apply br_t (by simp only [g0, g1, hin2, hk2, bbs, reduceIte]; done);conv=>whnf)
          (refine row_s (by (exact row_prev (by assumption) (by omega) (by omega))) ?_;conv=>whnf)
          (refine ChkS.mk (by kernel_rfl) ?_;conv=>whnf)
          (apply br_t (by simp only [g0, g1, hin2, hk2, bbs, reduceIte]; done);conv=>whnf)
          (apply rq_s rfl;conv=>whnf)
          (refine ChkS.mk (by kernel_rfl) ?_;conv=>whnf)
          (apply br_t (by simp only [g0, g1, hin2, hk2, bbs, reduceIte]; done);conv=>whnf)
          (refine ChkS.mk (by kernel_rfl) ?_;conv=>whnf)
          (apply br_t (by simp only [g0, g1, hin2, hk2, bbs, reduceIte]; done);conv=>whnf)
          iterate 3 (refine ChkS.mk (by kernel_rfl) ?_;conv=>whnf)
          (apply br_f (by simp only [g0, g1, hin2, hk2, bbs, reduceIte]; done);conv=>whnf)
          (apply rq_s rfl;conv=>whnf)
          (refine ChkS.mk (by kernel_rfl) ?_;conv=>whnf)
          (apply br_f (by simp only [g0, g1, hin2, hk2, bbs, reduceIte]; done);conv=>whnf)
          (refine ChkS.mk (by kernel_rfl) ?_;conv=>whnf)
          (apply br_f (by simp only [g0, g1, hin2, hk2, bbs, reduceIte]; done);conv=>whnf)
          (apply rq_s rfl;conv=>whnf)
          (refine ChkS.mk (by kernel_rfl) ?_;conv=>whnf)
          (apply br_f (by simp only [g0, g1, hin2, hk2, bbs, reduceIte]; done);conv=>whnf)
          (refine ChkS.mk (by kernel_rfl) ?_;conv=>whnf)
          (apply br_f (by simp only [g0, g1, hin2, hk2, bbs, reduceIte]; done);conv=>whnf)
          (refine ChkS.mk (by kernel_rfl) ?_;conv=>whnf)
          (apply br_f (by simp only [g0, g1, hin2, hk2, bbs, reduceIte]; done);conv=>whnf)
          iterate 3 (apply rq_s rfl;conv=>whnf)
          (refine call_s (c57 ..) ?_;conv=>whnf)
          (refine ChkS.mk (by kernel_rfl) ?_;conv=>whnf)
          (apply br_f (by simp only [g0, g1, hin2, hk2, bbs, reduceIte]; done);conv=>whnf)
          iterate 3 (refine ChkS.mk (by kernel_rfl) ?_;conv=>whnf)
          (apply br_f (by simp only [g0, g1, hin2, hk2, bbs, reduceIte]; done);conv=>whnf)
          (apply rq_s rfl;conv=>whnf)
          (refine ChkS.mk (by kernel_rfl) ?_;conv=>whnf)
          (apply br_f (by simp only [g0, g1, hin2, hk2, bbs, reduceIte]; done);conv=>whnf)
          (refine ChkS.mk (by kernel_rfl) ?_;conv=>whnf)
          (apply br_f (by simp only [g0, g1, hin2, hk2, bbs, reduceIte]; done);conv=>whnf)
          (apply rq_s rfl;conv=>whnf)
          (refine ChkS.mk (by kernel_rfl) ?_;conv=>whnf)
          (apply br_f (by simp only [g0, g1, hin2, hk2, bbs, reduceIte]; done);conv=>whnf)
          (refine ChkS.mk (by kernel_rfl) ?_;conv=>whnf)
          (apply br_f (by simp only [g0, g1, hin2, hk2, bbs, reduceIte]; done);conv=>whnf)
          (refine ChkS.mk (by kernel_rfl) ?_;conv=>whnf)
          (apply br_f (by simp only [g0, g1, hin2, hk2, bbs, reduceIte]; done);conv=>whnf)
          iterate 2 (refine rq_s (by ((first | (have hq := inR_t hin; rw [wrap64 (by omega) (by omega)]; exact decide_eq_true (by (try simp only [List.length_map]); omega)) | (have hq := inR_t hin; refine and_s rfl ?_; rw [wrap64 (by omega) (by omega)]; exact decide_eq_true (by (try simp only [List.length_map]); omega)) | ((try simp only [List.length_map]); rw [wrap64 (by omega) (by omega)]; simp; omega) | (rw [hw]; exact decide_eq_true (by omega)) | (rw [hw, List.length_map]; simp only [Bool.and_eq_true, decide_eq_true_eq]; omega)))) ?_;conv=>whnf)
          (refine ChkS.mk (by kernel_rfl) ?_;conv=>whnf)
          (apply br_f (by simp only [g0, g1, hin2, hk2, bbs, reduceIte]; done);conv=>whnf)
          (apply rq_s rfl;conv=>whnf)
          (refine ChkS.mk (by kernel_rfl) ?_;conv=>whnf)
          (apply br_f (by simp only [g0, g1, hin2, hk2, bbs, reduceIte]; done);conv=>whnf)
          (refine row_s (by (exact row_word (by assumption) (by omega))) ?_;conv=>whnf)
          (refine ChkS.mk (by kernel_rfl) ?_;conv=>whnf)
          (apply br_f (by simp only [g0, g1, hin2, hk2, bbs, reduceIte]; done);conv=>whnf)
          iterate 2 (refine ChkS.mk (by kernel_rfl) ?_;conv=>whnf)
          (apply br_f (by simp only [g0, g1, hin2, hk2, bbs, reduceIte]; done);conv=>whnf)
          iterate 2 (apply rq_s rfl;conv=>whnf)
          iterate 2 (refine rq_s (by ((first | (have hq := inR_t hin; rw [wrap64 (by omega) (by omega)]; exact decide_eq_true (by (try simp only [List.length_map]); omega)) | (have hq := inR_t hin; refine and_s rfl ?_; rw [wrap64 (by omega) (by omega)]; exact decide_eq_true (by (try simp only [List.length_map]); omega)) | ((try simp only [List.length_map]); rw [wrap64 (by omega) (by omega)]; simp; omega) | (rw [hw]; exact decide_eq_true (by omega)) | (rw [hw, List.length_map]; simp only [Bool.and_eq_true, decide_eq_true_eq]; omega)))) ?_;conv=>whnf)
          (apply rq_s rfl;conv=>whnf)
          (refine row_s (by (exact row_word (by assumption) (by omega))) ?_;conv=>whnf)
          iterate 5 (apply rq_s rfl;conv=>whnf)
          (apply lend_s;conv=>whnf)
          (apply rows_s rfl;conv=>whnf)
          (refine call_s (kc ..) ?_;conv=>whnf)
          iterate 2 (refine fac_s (fun hf => ?_);conv=>whnf)
          iterate 5 (apply br_f rfl;conv=>whnf)
          (apply rq_s rfl;conv=>whnf)
          iterate 3 (apply br_f rfl;conv=>whnf)
          (apply br_t (by assumption);conv=>whnf)
          iterate 12 (apply br_t rfl;conv=>whnf)
          (apply rq_s rfl;conv=>whnf)
          rotate_left
          exact sh_s (by rw [res, e3]; simp)
        have hg : decide (IntKind.i64.wrap ((wordAt m.ws (ds.getD j default).w).v + ((code.map intR).length : Int)) > ((m.co.map intR).length : Int)) = false := by rw [hw, List.length_map]; exact decide_eq_false hlen
        have hle : decide ((wordAt m.ws (ds.getD j default).w).v + (code.length : Int) ≤ m.co.length) = true := decide_eq_true (by omega)
        rw [codeAt, hle, Bool.true_and] at e3
        conv => whnf
        (apply br_t (by assumption);conv=>whnf)
        (apply rq_s rfl;conv=>whnf)
        (refine rq_s (by refine and_s rfl ?_; simp only [lnm]; omega) ?_;conv=>whnf)
        (refine row_s (by ((try simp only [Int.toNat_natCast]); exact row_map dfR _ _ _ default (by first | omega | (simp; omega)))) ?_;conv=>whnf)
        iterate 4 (refine ChkS.mk (by kernel_rfl) ?_;conv=>whnf)
        (apply br_t (by simp only [g0, g1, hin2, hk2, bbs, reduceIte]; done);conv=>whnf)
        (refine ChkS.mk (by kernel_rfl) ?_;conv=>whnf)
        (apply br_t (by simp only [g0, g1, hin2, hk2, bbs, reduceIte]; done);conv=>whnf)
        (refine ChkS.mk (by kernel_rfl) ?_;conv=>whnf)
        (apply br_t (by simp only [g0, g1, hin2, hk2, bbs, reduceIte]; done);conv=>whnf)
        (refine ChkS.mk (by kernel_rfl) ?_;conv=>whnf)
        (apply br_t (by simp only [g0, g1, hin2, hk2, bbs, reduceIte]; done);conv=>whnf)
        iterate 2 (refine rq_s (by ((first | (have hq := inR_t hin; rw [wrap64 (by omega) (by omega)]; exact decide_eq_true (by (try simp only [List.length_map]); omega)) | (have hq := inR_t hin; refine and_s rfl ?_; rw [wrap64 (by omega) (by omega)]; exact decide_eq_true (by (try simp only [List.length_map]); omega)) | ((try simp only [List.length_map]); rw [wrap64 (by omega) (by omega)]; simp; omega) | (rw [hw]; exact decide_eq_true (by omega)) | (rw [hw, List.length_map]; simp only [Bool.and_eq_true, decide_eq_true_eq]; omega)))) ?_;conv=>whnf)
        (refine ChkS.mk (by kernel_rfl) ?_;conv=>whnf)
        (apply br_t (by simp only [g0, g1, hin2, hk2, bbs, reduceIte]; done);conv=>whnf)
        (apply rq_s rfl;conv=>whnf)
        (refine ChkS.mk (by kernel_rfl) ?_;conv=>whnf)
        (apply br_t (by simp only [g0, g1, hin2, hk2, bbs, reduceIte]; done);conv=>whnf)
        (refine row_s (by (exact row_prev (by assumption) (by omega) (by omega))) ?_;conv=>whnf)
        (refine ChkS.mk (by kernel_rfl) ?_;conv=>whnf)
        (apply br_t (by simp only [g0, g1, hin2, hk2, bbs, reduceIte]; done);conv=>whnf)
        (apply rq_s rfl;conv=>whnf)
        (refine ChkS.mk (by kernel_rfl) ?_;conv=>whnf)
        (apply br_t (by simp only [g0, g1, hin2, hk2, bbs, reduceIte]; done);conv=>whnf)
        (refine ChkS.mk (by kernel_rfl) ?_;conv=>whnf)
        (apply br_t (by simp only [g0, g1, hin2, hk2, bbs, reduceIte]; done);conv=>whnf)
        iterate 3 (refine ChkS.mk (by kernel_rfl) ?_;conv=>whnf)
        (apply br_f (by simp only [g0, g1, hin2, hk2, bbs, reduceIte]; done);conv=>whnf)
        (apply rq_s rfl;conv=>whnf)
        (refine ChkS.mk (by kernel_rfl) ?_;conv=>whnf)
        (apply br_f (by simp only [g0, g1, hin2, hk2, bbs, reduceIte]; done);conv=>whnf)
        (refine ChkS.mk (by kernel_rfl) ?_;conv=>whnf)
        (apply br_f (by simp only [g0, g1, hin2, hk2, bbs, reduceIte]; done);conv=>whnf)
        (apply rq_s rfl;conv=>whnf)
        (refine ChkS.mk (by kernel_rfl) ?_;conv=>whnf)
        (apply br_f (by simp only [g0, g1, hin2, hk2, bbs, reduceIte]; done);conv=>whnf)
        (refine ChkS.mk (by kernel_rfl) ?_;conv=>whnf)
        (apply br_f (by simp only [g0, g1, hin2, hk2, bbs, reduceIte]; done);conv=>whnf)
        (refine ChkS.mk (by kernel_rfl) ?_;conv=>whnf)
        (apply br_f (by simp only [g0, g1, hin2, hk2, bbs, reduceIte]; done);conv=>whnf)
        iterate 3 (apply rq_s rfl;conv=>whnf)
        (refine call_s (c57 ..) ?_;conv=>whnf)
        (refine ChkS.mk (by kernel_rfl) ?_;conv=>whnf)
        (apply br_f (by simp only [g0, g1, hin2, hk2, bbs, reduceIte]; done);conv=>whnf)
        iterate 3 (refine ChkS.mk (by kernel_rfl) ?_;conv=>whnf)
        (apply br_f (by simp only [g0, g1, hin2, hk2, bbs, reduceIte]; done);conv=>whnf)
        (apply rq_s rfl;conv=>whnf)
        (refine ChkS.mk (by kernel_rfl) ?_;conv=>whnf)
        (apply br_f (by simp only [g0, g1, hin2, hk2, bbs, reduceIte]; done);conv=>whnf)
        (refine ChkS.mk (by kernel_rfl) ?_;conv=>whnf)
        (apply br_f (by simp only [g0, g1, hin2, hk2, bbs, reduceIte]; done);conv=>whnf)
        (apply rq_s rfl;conv=>whnf)
        (refine ChkS.mk (by kernel_rfl) ?_;conv=>whnf)
        (apply br_f (by simp only [g0, g1, hin2, hk2, bbs, reduceIte]; done);conv=>whnf)
        (refine ChkS.mk (by kernel_rfl) ?_;conv=>whnf)
        (apply br_f (by simp only [g0, g1, hin2, hk2, bbs, reduceIte]; done);conv=>whnf)
        (refine ChkS.mk (by kernel_rfl) ?_;conv=>whnf)
        (apply br_f (by simp only [g0, g1, hin2, hk2, bbs, reduceIte]; done);conv=>whnf)
        iterate 2 (refine rq_s (by ((first | (have hq := inR_t hin; rw [wrap64 (by omega) (by omega)]; exact decide_eq_true (by (try simp only [List.length_map]); omega)) | (have hq := inR_t hin; refine and_s rfl ?_; rw [wrap64 (by omega) (by omega)]; exact decide_eq_true (by (try simp only [List.length_map]); omega)) | ((try simp only [List.length_map]); rw [wrap64 (by omega) (by omega)]; simp; omega) | (rw [hw]; exact decide_eq_true (by omega)) | (rw [hw, List.length_map]; simp only [Bool.and_eq_true, decide_eq_true_eq]; omega)))) ?_;conv=>whnf)
        (refine ChkS.mk (by kernel_rfl) ?_;conv=>whnf)
        (apply br_f (by simp only [g0, g1, hin2, hk2, bbs, reduceIte]; done);conv=>whnf)
        (apply rq_s rfl;conv=>whnf)
        (refine ChkS.mk (by kernel_rfl) ?_;conv=>whnf)
        (apply br_f (by simp only [g0, g1, hin2, hk2, bbs, reduceIte]; done);conv=>whnf)
        (refine row_s (by (exact row_word (by assumption) (by omega))) ?_;conv=>whnf)
        (refine ChkS.mk (by kernel_rfl) ?_;conv=>whnf)
        (apply br_f (by simp only [g0, g1, hin2, hk2, bbs, reduceIte]; done);conv=>whnf)
        iterate 2 (refine ChkS.mk (by kernel_rfl) ?_;conv=>whnf)
        (apply br_f (by simp only [g0, g1, hin2, hk2, bbs, reduceIte]; done);conv=>whnf)
        iterate 2 (apply rq_s rfl;conv=>whnf)
        iterate 2 (refine rq_s (by ((first | (have hq := inR_t hin; rw [wrap64 (by omega) (by omega)]; exact decide_eq_true (by (try simp only [List.length_map]); omega)) | (have hq := inR_t hin; refine and_s rfl ?_; rw [wrap64 (by omega) (by omega)]; exact decide_eq_true (by (try simp only [List.length_map]); omega)) | ((try simp only [List.length_map]); rw [wrap64 (by omega) (by omega)]; simp; omega) | (rw [hw]; exact decide_eq_true (by omega)) | (rw [hw, List.length_map]; simp only [Bool.and_eq_true, decide_eq_true_eq]; omega)))) ?_;conv=>whnf)
        (apply rq_s rfl;conv=>whnf)
        (refine row_s (by (exact row_word (by assumption) (by omega))) ?_;conv=>whnf)
        iterate 5 (apply rq_s rfl;conv=>whnf)
        (apply lend_s;conv=>whnf)
        (apply rows_s rfl;conv=>whnf)
        (refine call_s (kc ..) ?_;conv=>whnf)
        iterate 2 (refine fac_s (fun hf => ?_);conv=>whnf)
        iterate 5 (apply br_f rfl;conv=>whnf)
        (apply rq_s rfl;conv=>whnf)
        iterate 3 (apply br_f rfl;conv=>whnf)
        (apply br_f (by assumption);conv=>whnf)
        (apply rq_s rfl;conv=>whnf)
        iterate 7 (apply br_f rfl;conv=>whnf)
        (apply rq_s (by simp only [Bool.and_eq_true, decide_eq_true_eq, List.length_map]; omega);conv=>whnf)
        iterate 2 (refine rq_s (by ((first | (have hq := inR_t hin; rw [wrap64 (by omega) (by omega)]; exact decide_eq_true (by (try simp only [List.length_map]); omega)) | (have hq := inR_t hin; refine and_s rfl ?_; rw [wrap64 (by omega) (by omega)]; exact decide_eq_true (by (try simp only [List.length_map]); omega)) | ((try simp only [List.length_map]); rw [wrap64 (by omega) (by omega)]; simp; omega) | (rw [hw]; exact decide_eq_true (by omega)) | (rw [hw, List.length_map]; simp only [Bool.and_eq_true, decide_eq_true_eq]; omega)))) ?_;conv=>whnf)
        (apply rq_s rfl;conv=>whnf)
        iterate 2 (apply br_f rfl;conv=>whnf)
        (apply rq_s rfl;conv=>whnf)
        (apply rq_s (by simp only [lnm]; done);conv=>whnf)
        (apply rq_s rfl;conv=>whnf)
        (apply lend_s;conv=>whnf)
        (apply rows_s (by (exact hsub));conv=>whnf)
        (refine rows_s (by ((refine sub_all ?_; simp [List.length_map]; done))) ?_;conv=>whnf)
        (refine call_s (c59 ..) ?_;conv=>whnf)
        (apply br_f rfl;conv=>whnf)
        (refine br_s ?_ ?_ <;> intro hb <;> (try simp only [cln] at hb) <;> conv=>whnf)
        (apply rq_s rfl;conv=>whnf)
        iterate 2 (rotate_left)
        · have e4 : decide ((m.co.drop (wordAt m.ws (ds.getD j default).w).v.toNat).take code.length = code) = false := by simpa using hb
          rw [e4] at e3
          exact sh_s (by rw [res, e3]; simp)
        · have e4 : decide ((m.co.drop (wordAt m.ws (ds.getD j default).w).v.toNat).take code.length = code) = true := by simpa using hb
          rw [e4] at e3
          exact head_s (j + 1) ⟨⟨by omega, by rw [hpw, ← h2, e3, elt]; rfl⟩, by omega⟩ (by rw [wrap64 (n := (j : Int) + 1) (by omega) (by omega)]; rfl) rfl
end M3

/- Definitions: what is valid, by the reference; contracts. -/
set_option linter.unusedVariables false
set_option linter.unusedSimpArgs false
set_option maxRecDepth 100000
open Go Go.Abs Go.Proofs V1 H1 K1 K2 K3 K4 I1 I2 I3 I4 I5 I6 I7 I8 I9 I10 I11 M1 M2 M3
namespace M4



theorem c166 (xs ys : List Int) : Con Tryz.prog 166 [roI xs, roI ys] (undefs [roI xs, roI ys]) (.bool (decide (xs = ys))) := by
  refine Con.evF 26 T_ok mix Tryz.func166 rfl rfl rfl rfl [.tmp 4] rfl fun ⟨hx, _⟩ => ?_
  have hx := facts_len hx
  conv => whnf
  (refine br_s ?_ ?_ <;> intro hb <;> (try simp only [cln] at hb) <;> conv=>whnf)
  (apply rq_s rfl;conv=>whnf)
  iterate 2 (rotate_left)
  · refine sh_s ?_
    have : xs ≠ ys := fun e => hb (by rw [e])
    simp [this]
  · refine LoopG.rounds (α := Nat) T_ok mix [0, 1, 5] [] (fun i => [(0, roI xs), (1, roI ys), (5, .int .i64 i)]) (fun _ => []) (fun i => i ≤ xs.length ∧ xs.take i = ys.take i) (fun i => xs.length - i) ?_ ?_
    · conv => whnf
      exact head_s 0 ⟨by simp, by simp⟩ rfl rfl
    · rintro i ⟨h1, h2⟩ - -
      conv => whnf
      (refine br_s ?_ ?_ <;> intro hb <;> (try simp only [cln] at hb) <;> conv=>whnf)
      iterate 3 (refine ChkS.mk (by kernel_rfl) ?_;conv=>whnf)
      (apply rq_s rfl;conv=>whnf)
      (refine rq_s (by refine and_s rfl ?_; simp only [lnm]; omega) ?_;conv=>whnf)
      (refine ChkS.mk (by kernel_rfl) ?_;conv=>whnf)
      (refine row_s (by ((try simp only [Int.toNat_natCast]); exact row_map intR _ _ _ default (by first | omega | (simp; omega)))) ?_;conv=>whnf)
      iterate 3 (refine ChkS.mk (by kernel_rfl) ?_;conv=>whnf)
      (apply rq_s rfl;conv=>whnf)
      (refine rq_s (by refine and_s rfl ?_; simp only [lnm]; omega) ?_;conv=>whnf)
      (refine ChkS.mk (by kernel_rfl) ?_;conv=>whnf)
      (refine row_s (by ((try simp only [Int.toNat_natCast]); exact row_map intR _ _ _ default (by first | omega | (simp; omega)))) ?_;conv=>whnf)
      iterate 2 (refine ChkS.mk (by kernel_rfl) ?_;conv=>whnf)
      (refine br_s ?_ ?_ <;> intro hb <;> (try simp only [cln] at hb) <;> conv=>whnf)
      (apply rq_s rfl;conv=>whnf)
      iterate 2 (rotate_left)
      (apply rq_s rfl;conv=>whnf)
      rotate_left
      · refine sh_s ?_
        have : xs ≠ ys := fun e => hb (by rw [e])
        simp [this]
      · exact head_s (i + 1) ⟨⟨by omega, take_next default h2 (by omega) (by omega) hb⟩, by omega⟩ (by rw [wrap64 (by omega) (by omega)]; rfl) rfl
      · refine sh_s ?_
        simp [take_done h2 (by omega) (by omega)]


theorem c105 (m : Mch) (d : Df) (hm : mchOK m = true) : Con Tryz.prog 105 [mchV m, dfV d] (undefs [mchV m, dfV d]) (.bool (defOK m d)) := by
  have hd := mch_dict hm
  have h4 := mch_400 hm
  have h103 := (dict_take hd).2.2
  by_cases ha : askF d.its = 0
  rotate_left
  · have e3 : defOK m d = false := by simp [defOK, ha]
    have ha2 : (askF d.its != 0) = true := bne_iff_ne.2 ha
    rw [e3]
    refine Con.ev 75 T_ok mix Tryz.func105 rfl rfl rfl rfl [.tmp 4] rfl ?_
    conv => whnf
    iterate 4 (apply rq_s rfl;conv=>whnf)
    (apply lend_s;conv=>whnf)
    (apply rows_s rfl;conv=>whnf)
    (refine call_s (c163 ..) ?_;conv=>whnf)
    (apply br_t (by assumption);conv=>whnf)
    iterate 17 (apply br_t rfl;conv=>whnf)
    (refine fac_s (fun hf => ?_);conv=>whnf)
    (apply br_t rfl;conv=>whnf)
    (apply rq_s rfl;conv=>whnf)
    (refine sh_s ?_; (rfl))
  have ha2 : (askF d.its != 0) = false := by rw [ha]; rfl
  by_cases h1 : inR d.w 84 m.ws.length = true
  rotate_left
  · rw [Bool.not_eq_true] at h1
    have e3 : defOK m d = false := by rw [defOK, h1]; simp
    rw [e3]
    refine Con.ev 75 T_ok mix Tryz.func105 rfl rfl rfl rfl [.tmp 4] rfl ?_
    conv => whnf
    iterate 4 (apply rq_s rfl;conv=>whnf)
    (apply lend_s;conv=>whnf)
    (apply rows_s rfl;conv=>whnf)
    (refine call_s (c163 ..) ?_;conv=>whnf)
    (apply br_f (by assumption);conv=>whnf)
    (apply rq_s rfl;conv=>whnf)
    iterate 2 (apply br_f rfl;conv=>whnf)
    (apply rq_s rfl;conv=>whnf)
    iterate 3 (apply br_f rfl;conv=>whnf)
    iterate 3 (apply rq_s rfl;conv=>whnf)
    (apply lend_s;conv=>whnf)
    (refine call_s (c79 ..) ?_;conv=>whnf)
    (apply br_f rfl;conv=>whnf)
    (refine br_s ?_ ?_ <;> intro hb <;> (try simp only [cln] at hb) <;> conv=>whnf)
    iterate 9 (apply br_t rfl;conv=>whnf)
    (refine fac_s (fun hf => ?_);conv=>whnf)
    (apply br_t rfl;conv=>whnf)
    (apply rq_s rfl;conv=>whnf)
    (refine sh_s ?_; (rfl))
    (apply rq_s rfl;conv=>whnf)
    iterate 2 (apply br_f rfl;conv=>whnf)
    (apply rq_s rfl;conv=>whnf)
    iterate 3 (apply br_f rfl;conv=>whnf)
    rotate_left
    all_goals (first | (rw [h1] at hb; simp at hb; done) | skip)
  have hin : inR d.w 1 m.ws.length = true := by
    have := inR_t h1
    simp [inR]; omega
  have hr := inR_t hin
  by_cases hk : (wordAt m.ws d.w).k = 6
  rotate_left
  · have hk2 : ((wordAt m.ws d.w).k != 6) = true := bne_iff_ne.2 hk
    rw [defOK_k hk]
    refine Con.ev 75 T_ok mix Tryz.func105 rfl rfl rfl rfl [.tmp 4] rfl ?_
    conv => whnf
    iterate 4 (apply rq_s rfl;conv=>whnf)
    (apply lend_s;conv=>whnf)
    (apply rows_s rfl;conv=>whnf)
    (refine call_s (c163 ..) ?_;conv=>whnf)
    (apply br_f (by assumption);conv=>whnf)
    (apply rq_s rfl;conv=>whnf)
    iterate 2 (apply br_f rfl;conv=>whnf)
    (apply rq_s rfl;conv=>whnf)
    iterate 3 (apply br_f rfl;conv=>whnf)
    iterate 3 (apply rq_s rfl;conv=>whnf)
    (apply lend_s;conv=>whnf)
    (refine call_s (c79 ..) ?_;conv=>whnf)
    (apply br_f rfl;conv=>whnf)
    (refine br_s ?_ ?_ <;> intro hb <;> (try simp only [cln] at hb) <;> conv=>whnf)
    iterate 9 (apply br_t rfl;conv=>whnf)
    (refine fac_s (fun hf => ?_);conv=>whnf)
    (apply br_t rfl;conv=>whnf)
    (apply rq_s rfl;conv=>whnf)
    (refine sh_s ?_; (rfl))
    (apply rq_s rfl;conv=>whnf)
    iterate 2 (apply br_f rfl;conv=>whnf)
    (apply rq_s rfl;conv=>whnf)
    iterate 3 (apply br_f rfl;conv=>whnf)
    iterate 2 (refine rq_s (by ((first | (rw [wrap64 (by omega) (by omega)]; exact decide_eq_true (by (try simp only [List.length_map]); omega)) | (refine and_s rfl ?_; rw [wrap64 (by omega) (by omega)]; exact decide_eq_true (by (try simp only [List.length_map]); omega))))) ?_;conv=>whnf)
    (apply br_f rfl;conv=>whnf)
    (apply rq_s rfl;conv=>whnf)
    (apply br_f rfl;conv=>whnf)
    (refine row_s (by (exact row_word (by assumption) (by omega))) ?_;conv=>whnf)
    (apply br_f rfl;conv=>whnf)
    (refine fac_s (fun hf => ?_);conv=>whnf)
    (apply br_t (by assumption);conv=>whnf)
    (apply rq_s rfl;conv=>whnf)
    (refine sh_s ?_; (rfl))
    all_goals (first | (rw [h1] at hb; simp at hb; done) | skip)
  have hk2 : ((wordAt m.ws d.w).k != 6) = false := by rw [hk]; rfl
  obtain ⟨h84, hv1, hv2⟩ := dict_low hd hr.1 hr.2 hk
  by_cases hc : (chkF d.its).2 = 0
  rotate_left
  · have hc2 : ((chkF d.its).2 != 0) = true := bne_iff_ne.2 hc
    have e3 : defOK m d = false := by simp [defOK, hc]
    rw [e3]
    refine Con.ev 75 T_ok mix Tryz.func105 rfl rfl rfl rfl [.tmp 4] rfl ?_
    conv => whnf
    iterate 4 (apply rq_s rfl;conv=>whnf)
    (apply lend_s;conv=>whnf)
    (apply rows_s rfl;conv=>whnf)
    (refine call_s (c163 ..) ?_;conv=>whnf)
    (apply br_f (by assumption);conv=>whnf)
    (apply rq_s rfl;conv=>whnf)
    iterate 2 (apply br_f rfl;conv=>whnf)
    (apply rq_s rfl;conv=>whnf)
    iterate 3 (apply br_f rfl;conv=>whnf)
    iterate 3 (apply rq_s rfl;conv=>whnf)
    (apply lend_s;conv=>whnf)
    (refine call_s (c79 ..) ?_;conv=>whnf)
    (apply br_f rfl;conv=>whnf)
    (refine br_s ?_ ?_ <;> intro hb <;> (try simp only [cln] at hb) <;> conv=>whnf)
    iterate 9 (apply br_t rfl;conv=>whnf)
    (refine fac_s (fun hf => ?_);conv=>whnf)
    (apply br_t rfl;conv=>whnf)
    (apply rq_s rfl;conv=>whnf)
    (refine sh_s ?_; (rfl))
    (apply rq_s rfl;conv=>whnf)
    iterate 2 (apply br_f rfl;conv=>whnf)
    (apply rq_s rfl;conv=>whnf)
    iterate 3 (apply br_f rfl;conv=>whnf)
    iterate 2 (refine rq_s (by ((first | (rw [wrap64 (by omega) (by omega)]; exact decide_eq_true (by (try simp only [List.length_map]); omega)) | (refine and_s rfl ?_; rw [wrap64 (by omega) (by omega)]; exact decide_eq_true (by (try simp only [List.length_map]); omega)) | (rw [hw]; exact decide_eq_true (by omega)) | (rw [hw, List.length_map]; simp only [Bool.and_eq_true, decide_eq_true_eq]; omega)))) ?_;conv=>whnf)
    (apply br_f rfl;conv=>whnf)
    (apply rq_s rfl;conv=>whnf)
    (apply br_f rfl;conv=>whnf)
    (refine row_s (by (exact row_word (by assumption) (by omega))) ?_;conv=>whnf)
    (apply br_f rfl;conv=>whnf)
    (refine fac_s (fun hf => ?_);conv=>whnf)
    (apply br_f (by assumption);conv=>whnf)
    iterate 2 (apply rq_s rfl;conv=>whnf)
    (apply lend_s;conv=>whnf)
    (apply rows_s rfl;conv=>whnf)
    (refine call_s (c164 ..) ?_;conv=>whnf)
    iterate 2 (refine fac_s (fun hf => ?_);conv=>whnf)
    (apply br_t (by assumption);conv=>whnf)
    (apply rq_s rfl;conv=>whnf)
    (refine sh_s ?_; (rfl))
    all_goals (first | (rw [h1] at hb; simp at hb; done) | skip)
  have hc2 : ((chkF d.its).2 != 0) = false := by rw [hc]; rfl
  have e3 : defOK m d = codeAt m.co (wordAt m.ws d.w).v (compF d.its (wordAt m.ws d.w).v d.w) := by simp [defOK, ha, hc, h84, hk]
  have hi := askF_0 ha
  have hlen := compF_len (at' := (wordAt m.ws d.w).v) (self := d.w) hi.2
  have hs2 := szF_le d.its
  have kc := c165 d.its (wordAt m.ws d.w).v d.w hi.1 hi.2 (open_of hc) ⟨hv1, by omega⟩ ⟨hr.1, by omega⟩
  rw [e3]
  unfold sizeF at hlen
  generalize compF d.its (wordAt m.ws d.w).v d.w = code at kc hlen
  have hw : IntKind.i64.wrap ((wordAt m.ws d.w).v + ((code.map intR).length : Int)) = (wordAt m.ws d.w).v + code.length := by rw [List.length_map]; exact wrap64 (by omega) (by omega)
  have hsub : subA (m.co.map intR) (wordAt m.ws d.w).v.toNat ((IntKind.i64.wrap ((wordAt m.ws d.w).v + ((code.map intR).length : Int))).toNat - (wordAt m.ws d.w).v.toNat) = ((m.co.drop (wordAt m.ws d.w).v.toNat).take code.length).map intR := by
    rw [hw, show ((wordAt m.ws d.w).v + (code.length : Int)).toNat - (wordAt m.ws d.w).v.toNat = code.length by omega]
    simp [subA, List.map_take, List.map_drop]
  by_cases hl : (wordAt m.ws d.w).v + (code.length : Int) > m.co.length
  · have hg : decide (IntKind.i64.wrap ((wordAt m.ws d.w).v + ((code.map intR).length : Int)) ≤ ((m.co.map intR).length : Int)) = false := by rw [hw, List.length_map]; exact decide_eq_false (by omega)
    rw [codeAt_len hl]
    refine Con.ev 75 T_ok mix Tryz.func105 rfl rfl rfl rfl [.tmp 4] rfl ?_
    conv => whnf
    iterate 4 (apply rq_s rfl;conv=>whnf)
    (apply lend_s;conv=>whnf)
    (apply rows_s rfl;conv=>whnf)
    (refine call_s (c163 ..) ?_;conv=>whnf)
    (apply br_f (by assumption);conv=>whnf)
    (apply rq_s rfl;conv=>whnf)
    iterate 2 (apply br_f rfl;conv=>whnf)
    (apply rq_s rfl;conv=>whnf)
    iterate 3 (apply br_f rfl;conv=>whnf)
    iterate 3 (apply rq_s rfl;conv=>whnf)
    (apply lend_s;conv=>whnf)
    (refine call_s (c79 ..) ?_;conv=>whnf)
    (apply br_f rfl;conv=>whnf)
    (refine br_s ?_ ?_ <;> intro hb <;> (try simp only [cln] at hb) <;> conv=>whnf)
    iterate 9 (apply br_t rfl;conv=>whnf)
    (refine fac_s (fun hf => ?_);conv=>whnf)
    (apply br_t rfl;conv=>whnf)
    (apply rq_s rfl;conv=>whnf)
    (refine sh_s ?_; (rfl))
    (apply rq_s rfl;conv=>whnf)
    iterate 2 (apply br_f rfl;conv=>whnf)
    (apply rq_s rfl;conv=>whnf)
    iterate 3 (apply br_f rfl;conv=>whnf)
    iterate 2 (refine rq_s (by ((first | (rw [wrap64 (by omega) (by omega)]; exact decide_eq_true (by (try simp only [List.length_map]); omega)) | (refine and_s rfl ?_; rw [wrap64 (by omega) (by omega)]; exact decide_eq_true (by (try simp only [List.length_map]); omega)) | (rw [hw]; exact decide_eq_true (by omega)) | (rw [hw, List.length_map]; simp only [Bool.and_eq_true, decide_eq_true_eq]; omega)))) ?_;conv=>whnf)
    (apply br_f rfl;conv=>whnf)
    (apply rq_s rfl;conv=>whnf)
    (apply br_f rfl;conv=>whnf)
    (refine row_s (by (exact row_word (by assumption) (by omega))) ?_;conv=>whnf)
    (apply br_f rfl;conv=>whnf)
    (refine fac_s (fun hf => ?_);conv=>whnf)
    (apply br_f (by assumption);conv=>whnf)
    iterate 2 (apply rq_s rfl;conv=>whnf)
    (apply lend_s;conv=>whnf)
    (apply rows_s rfl;conv=>whnf)
    (refine call_s (c164 ..) ?_;conv=>whnf)
    iterate 2 (refine fac_s (fun hf => ?_);conv=>whnf)
    (apply br_f (by assumption);conv=>whnf)
    iterate 2 (apply rq_s rfl;conv=>whnf)
    iterate 2 (refine rq_s (by ((first | (rw [wrap64 (by omega) (by omega)]; exact decide_eq_true (by (try simp only [List.length_map]); omega)) | (refine and_s rfl ?_; rw [wrap64 (by omega) (by omega)]; exact decide_eq_true (by (try simp only [List.length_map]); omega)) | (rw [hw]; exact decide_eq_true (by omega)) | (rw [hw, List.length_map]; simp only [Bool.and_eq_true, decide_eq_true_eq]; omega)))) ?_;conv=>whnf)
    (apply rq_s rfl;conv=>whnf)
    (refine row_s (by (exact row_word (by assumption) (by omega))) ?_;conv=>whnf)
    iterate 5 (apply rq_s rfl;conv=>whnf)
    (apply lend_s;conv=>whnf)
    (apply rows_s rfl;conv=>whnf)
    (refine call_s (kc ..) ?_;conv=>whnf)
    (refine fac_s (fun hf => ?_);conv=>whnf)
    (apply rq_s rfl;conv=>whnf)
    (apply br_f (by assumption);conv=>whnf)
    iterate 10 (apply br_f rfl;conv=>whnf)
    (apply rq_s rfl;conv=>whnf)
    (refine sh_s ?_; (rfl))
    all_goals (first | (rw [h1] at hb; simp at hb; done) | skip)
  have hg : decide (IntKind.i64.wrap ((wordAt m.ws d.w).v + ((code.map intR).length : Int)) ≤ ((m.co.map intR).length : Int)) = true := by rw [hw, List.length_map]; exact decide_eq_true (by omega)
  have hle : decide ((wordAt m.ws d.w).v + (code.length : Int) ≤ m.co.length) = true := decide_eq_true (by omega)
  rw [codeAt, hle, Bool.true_and]
  refine Con.ev 75 T_ok mix Tryz.func105 rfl rfl rfl rfl [.tmp 4] rfl ?_
  conv => whnf
  iterate 4 (apply rq_s rfl;conv=>whnf)
  (apply lend_s;conv=>whnf)
  (apply rows_s rfl;conv=>whnf)
  (refine call_s (c163 ..) ?_;conv=>whnf)
  (apply br_f (by assumption);conv=>whnf)
  (apply rq_s rfl;conv=>whnf)
  iterate 2 (apply br_f rfl;conv=>whnf)
  (apply rq_s rfl;conv=>whnf)
  iterate 3 (apply br_f rfl;conv=>whnf)
  iterate 3 (apply rq_s rfl;conv=>whnf)
  (apply lend_s;conv=>whnf)
  (refine call_s (c79 ..) ?_;conv=>whnf)
  (apply br_f rfl;conv=>whnf)
  (refine br_s ?_ ?_ <;> intro hb <;> (try simp only [cln] at hb) <;> conv=>whnf)
  iterate 9 (apply br_t rfl;conv=>whnf)
  (refine fac_s (fun hf => ?_);conv=>whnf)
  (apply br_t rfl;conv=>whnf)
  (apply rq_s rfl;conv=>whnf)
  rotate_left
  (apply rq_s rfl;conv=>whnf)
  iterate 2 (apply br_f rfl;conv=>whnf)
  (apply rq_s rfl;conv=>whnf)
  iterate 3 (apply br_f rfl;conv=>whnf)
  iterate 2 (refine rq_s (by ((first | (rw [wrap64 (by omega) (by omega)]; exact decide_eq_true (by (try simp only [List.length_map]); omega)) | (refine and_s rfl ?_; rw [wrap64 (by omega) (by omega)]; exact decide_eq_true (by (try simp only [List.length_map]); omega)) | (rw [hw]; exact decide_eq_true (by omega)) | (rw [hw, List.length_map]; simp only [Bool.and_eq_true, decide_eq_true_eq]; omega)))) ?_;conv=>whnf)
  (apply br_f rfl;conv=>whnf)
  (apply rq_s rfl;conv=>whnf)
  (apply br_f rfl;conv=>whnf)
  (refine row_s (by (exact row_word (by assumption) (by omega))) ?_;conv=>whnf)
  (apply br_f rfl;conv=>whnf)
  (refine fac_s (fun hf => ?_);conv=>whnf)
  (apply br_f (by assumption);conv=>whnf)
  iterate 2 (apply rq_s rfl;conv=>whnf)
  (apply lend_s;conv=>whnf)
  (apply rows_s rfl;conv=>whnf)
  (refine call_s (c164 ..) ?_;conv=>whnf)
  iterate 2 (refine fac_s (fun hf => ?_);conv=>whnf)
  (apply br_f (by assumption);conv=>whnf)
  iterate 2 (apply rq_s rfl;conv=>whnf)
  iterate 2 (refine rq_s (by ((first | (rw [wrap64 (by omega) (by omega)]; exact decide_eq_true (by (try simp only [List.length_map]); omega)) | (refine and_s rfl ?_; rw [wrap64 (by omega) (by omega)]; exact decide_eq_true (by (try simp only [List.length_map]); omega)) | (rw [hw]; exact decide_eq_true (by omega)) | (rw [hw, List.length_map]; simp only [Bool.and_eq_true, decide_eq_true_eq]; omega)))) ?_;conv=>whnf)
  (apply rq_s rfl;conv=>whnf)
  (refine row_s (by (exact row_word (by assumption) (by omega))) ?_;conv=>whnf)
  iterate 5 (apply rq_s rfl;conv=>whnf)
  (apply lend_s;conv=>whnf)
  (apply rows_s rfl;conv=>whnf)
  (refine call_s (kc ..) ?_;conv=>whnf)
  (refine fac_s (fun hf => ?_);conv=>whnf)
  (apply rq_s rfl;conv=>whnf)
  (apply br_t (by assumption);conv=>whnf)
  (apply rq_s rfl;conv=>whnf)
  iterate 7 (apply br_t rfl;conv=>whnf)
  (apply rq_s (by simp only [Bool.and_eq_true, decide_eq_true_eq, List.length_map]; omega);conv=>whnf)
  iterate 2 (refine rq_s (by ((first | (rw [wrap64 (by omega) (by omega)]; exact decide_eq_true (by (try simp only [List.length_map]); omega)) | (refine and_s rfl ?_; rw [wrap64 (by omega) (by omega)]; exact decide_eq_true (by (try simp only [List.length_map]); omega)) | (rw [hw]; exact decide_eq_true (by omega)) | (rw [hw, List.length_map]; simp only [Bool.and_eq_true, decide_eq_true_eq]; omega)))) ?_;conv=>whnf)
  (apply rq_s rfl;conv=>whnf)
  iterate 2 (apply br_t rfl;conv=>whnf)
  (apply rq_s rfl;conv=>whnf)
  (apply rq_s (by simp only [lnm]; done);conv=>whnf)
  (apply rq_s rfl;conv=>whnf)
  (apply lend_s;conv=>whnf)
  (apply rows_s (by (exact hsub));conv=>whnf)
  (refine rows_s (by ((refine sub_all ?_; simp [List.length_map]; done))) ?_;conv=>whnf)
  (refine call_s (c166 ..) ?_;conv=>whnf)
  (apply rq_s rfl;conv=>whnf)
  (refine sh_s ?_; (rfl))
  all_goals (first | (rw [h1] at hb; simp at hb; done) | skip)



set_option maxHeartbeats 4000000 in
theorem c48 (m : Mch) (ds : List Df) (hm : mchOK m = true) : Con Tryz.prog 48 [mchV m, roDf ds] (undefs [mchV m, roDf ds]) (.bool (defsOK m ds)) := by
  have hd := mch_dict hm
  have h103 := (dict_take hd).2.2
  have h83 := (dict_take hd).2.1
  refine Con.evF 62 T_ok mix Tryz.func48 rfl rfl rfl rfl [.tmp 4] rfl fun ⟨hx, hy, _⟩ => ?_
  have hl2 := facts_len hy
  conv => whnf
  (apply rq_s rfl;conv=>whnf)
  (refine br_s ?_ ?_ <;> intro hb <;> (try simp only [cln] at hb) <;> conv=>whnf)
  (apply rq_s rfl;conv=>whnf)
  iterate 2 (rotate_left)
  · have h20 : ¬ ds.length ≤ 20 := by omega
    exact sh_s (by simp [defsOK, h20])
  have h20 : ds.length ≤ 20 := by omega
  refine LoopG.rounds (α := Nat) T_ok mix [1, 2, 5] [(2, 2)] (fun j => [(1, roDf ds), (2, .ptr 2 0 0), (5, .int .i64 j)]) (fun _ => [(2, .live ⟨false, 0, mchR m, [mchR m]⟩)]) (fun j => j ≤ ds.length ∧ defsAt m (pw ds j) (ds.drop j) = defsAt m 0 ds) (fun j => ds.length - j) ?_ ?_
  · conv => whnf
    exact head_s 0 ⟨by simp, by simp [pw]⟩ (by simp [roDf]) rfl
  · rintro j ⟨h1, h2⟩ - -
    by_cases hj : j < ds.length
    rotate_left
    · obtain rfl : j = ds.length := by omega
      have e0 : defsAt m 0 ds = true := by rw [← h2, List.drop_length]; rfl
      have res : defsOK m ds = decide (colons m.ws = ds.length) := by simp [defsOK, h20, e0]
      conv => whnf
      (focus (apply br_f (by (simp; done));conv=>whnf))
      rotate_left
      refine LoopG.rounds (α := Nat) T_ok mix [1, 2, 6, 7] [(2, 2)] (fun i => [(1, roDf ds), (2, .ptr 2 0 0), (6, .int .i64 (colons (m.ws.take i))), (7, .int .i64 i)]) (fun _ => [(2, .live ⟨false, 0, mchR m, [mchR m]⟩)]) (fun i => 83 ≤ i ∧ i ≤ m.ws.length) (fun i => m.ws.length - i) ?_ ?_
      · conv => whnf
        exact head_s 83 ⟨by omega, by omega⟩ (by rw [(dict_take hd).1, kern_col]; rfl) rfl
      · rintro i ⟨hi1, hi⟩ - -
        have hcl := colons_le (m.ws.take i)
        rw [List.length_take] at hcl
        conv => whnf
        (apply rq_s rfl;conv=>whnf)
        (refine br_s ?_ ?_ <;> intro hb <;> (try simp only [cln] at hb) <;> conv=>whnf)
        iterate 2 (apply rq_s rfl;conv=>whnf)
        (refine rq_s (by refine and_s rfl ?_; simp only [lnm]; omega) ?_;conv=>whnf)
        (apply rq_s rfl;conv=>whnf)
        (refine row_s (by ((try simp only [Int.toNat_natCast]); exact row_map wdR _ _ _ default (by first | omega | (simp; omega)))) ?_;conv=>whnf)
        (refine br_s ?_ ?_ <;> intro hb <;> (try simp only [cln] at hb) <;> conv=>whnf)
        iterate 2 (rotate_left)
        (apply rq_s rfl;conv=>whnf)
        rotate_left
        · exact head_s (i + 1) ⟨⟨by omega, by omega⟩, by omega⟩ (by simp only [colons_take (by assumption), if_pos hb]; rw [wrap64 (n := (colons (m.ws.take i) : Int) + 1) (by omega) (by omega), wrap64 (n := (i : Int) + 1) (by omega) (by omega)]; rfl) rfl
        · exact head_s (i + 1) ⟨⟨by omega, by omega⟩, by omega⟩ (by simp only [colons_take (by assumption), if_neg hb, Nat.add_zero]; rw [wrap64 (n := (i : Int) + 1) (by omega) (by omega)]; rfl) rfl
        · obtain rfl : i = m.ws.length := by omega
          rw [List.take_length]
          have ec : ((colons m.ws : Int) == (ds.length : Int)) = decide (colons m.ws = ds.length) := by rw [Bool.eq_iff_iff]; simp; omega
          exact sh_s (by rw [List.length_map, ec, res])
    have gj : decide ((j : Int) < ((ds.map dfR).length : Int)) = true := by rw [List.length_map]; exact decide_eq_true (by omega)
    rw [defsAt_next hj] at h2
    have res : defsOK m ds = (decide (ds.length ≤ 20) && (defOK m (ds.getD j default) && decide (pw ds j < (ds.getD j default).w) && defsAt m (ds.getD j default).w (ds.drop (j + 1))) && decide (colons m.ws = ds.length)) := by rw [h2]; simp [defsOK]
    have hpw : pw ds (j + 1) = (ds.getD j default).w := by simp [pw]
    by_cases gd : defOK m (ds.getD j default) = true
    rotate_left
    · rw [Bool.not_eq_true] at gd
      conv => whnf
      (apply br_t (by assumption);conv=>whnf)
      iterate 4 (refine ChkS.mk (by kernel_rfl) ?_;conv=>whnf)
      (apply rq_s rfl;conv=>whnf)
      (refine rq_s (by refine and_s rfl ?_; simp only [lnm]; omega) ?_;conv=>whnf)
      (refine ChkS.mk (by kernel_rfl) ?_;conv=>whnf)
      (refine row_s (by ((try simp only [Int.toNat_natCast]); exact row_map dfR _ _ _ default (by first | omega | (simp; omega)))) ?_;conv=>whnf)
      (refine ChkS.mk (by kernel_rfl) ?_;conv=>whnf)
      iterate 18 (apply rq_s rfl;conv=>whnf)
      iterate 11 (apply rows_s rfl;conv=>whnf)
      (refine call_s (c105 _ _ hm) ?_;conv=>whnf)
      iterate 3 (refine ChkS.mk (by kernel_rfl) ?_;conv=>whnf)
      (apply br_t (by simp only [gd, bbs, reduceIte]; done);conv=>whnf)
      (refine ChkS.mk (by kernel_rfl) ?_;conv=>whnf)
      (apply br_t (by simp only [gd, bbs, reduceIte]; done);conv=>whnf)
      (refine ChkS.mk (by kernel_rfl) ?_;conv=>whnf)
      (apply br_t (by simp only [gd, bbs, reduceIte]; done);conv=>whnf)
      iterate 13 (refine ChkS.mk (by kernel_rfl) ?_;conv=>whnf)
      (apply br_t (by simp only [gd, bbs, reduceIte]; done);conv=>whnf)
      (refine ChkS.mk (by kernel_rfl) ?_;conv=>whnf)
      (apply br_t (by simp only [gd, bbs, reduceIte]; done);conv=>whnf)
      (refine ChkS.mk (by kernel_rfl) ?_;conv=>whnf)
      (apply br_t rfl;conv=>whnf)
      (apply rq_s rfl;conv=>whnf)
      rotate_left
      exact sh_s (by rw [res, gd]; simp)
    have hw1 : 84 ≤ (ds.getD j default).w := by
      simp only [defOK, Bool.and_eq_true] at gd
      exact (inR_t gd.1.1.1.2).1
    rcases (show (j = 0 ∧ decide ((j : Int) > 0) = false) ∨ (0 < j ∧ decide ((j : Int) > 0) = true ∧ decide ((ds.getD j default).w ≤ (ds.getD (j - 1) default).w) = false) ∨ (0 < j ∧ decide ((j : Int) > 0) = true ∧ decide ((ds.getD j default).w ≤ (ds.getD (j - 1) default).w) = true) from by
      rcases Nat.eq_zero_or_pos j with h0 | h0
      · exact .inl ⟨h0, decide_eq_false (by omega)⟩
      · by_cases hw : (ds.getD j default).w ≤ (ds.getD (j - 1) default).w
        · exact .inr (.inr ⟨h0, decide_eq_true (by omega), decide_eq_true hw⟩)
        · exact .inr (.inl ⟨h0, decide_eq_true (by omega), decide_eq_false hw⟩)) with ⟨h0, g0⟩ | ⟨h0, g0, g1⟩ | ⟨h0, g0, g1⟩
    rotate_left 2
    · conv => whnf
      (apply br_t (by assumption);conv=>whnf)
      iterate 4 (refine ChkS.mk (by kernel_rfl) ?_;conv=>whnf)
      (apply rq_s rfl;conv=>whnf)
      (refine rq_s (by refine and_s rfl ?_; simp only [lnm]; omega) ?_;conv=>whnf)
      (refine ChkS.mk (by kernel_rfl) ?_;conv=>whnf)
      (refine row_s (by ((try simp only [Int.toNat_natCast]); exact row_map dfR _ _ _ default (by first | omega | (simp; omega)))) ?_;conv=>whnf)
      (refine ChkS.mk (by kernel_rfl) ?_;conv=>whnf)
      iterate 18 (apply rq_s rfl;conv=>whnf)
      iterate 11 (apply rows_s rfl;conv=>whnf)
      (refine call_s (c105 _ _ hm) ?_;conv=>whnf)
      iterate 3 (refine ChkS.mk (by kernel_rfl) ?_;conv=>whnf)
      (apply br_f (by simp only [g0, g1, gd, bbs, reduceIte]; done);conv=>whnf)
      (refine ChkS.mk (by kernel_rfl) ?_;conv=>whnf)
      (apply br_f (by simp only [g0, g1, gd, bbs, reduceIte]; done);conv=>whnf)
      (refine ChkS.mk (by kernel_rfl) ?_;conv=>whnf)
      (apply br_f (by simp only [g0, g1, gd, bbs, reduceIte]; done);conv=>whnf)
      (refine ChkS.mk (by kernel_rfl) ?_;conv=>whnf)
      (apply br_t (by simp only [g0, g1, gd, bbs, reduceIte]; done);conv=>whnf)
      (refine ChkS.mk (by kernel_rfl) ?_;conv=>whnf)
      (apply br_t (by simp only [g0, g1, gd, bbs, reduceIte]; done);conv=>whnf)
      (refine ChkS.mk (by kernel_rfl) ?_;conv=>whnf)
      (apply br_t (by simp only [g0, g1, gd, bbs, reduceIte]; done);conv=>whnf)
      (apply rq_s rfl;conv=>whnf)
      (refine rq_s (by refine and_s rfl ?_; simp only [lnm]; omega) ?_;conv=>whnf)
      (refine ChkS.mk (by kernel_rfl) ?_;conv=>whnf)
      (apply br_t (by simp only [g0, g1, gd, bbs, reduceIte]; done);conv=>whnf)
      (apply rq_s rfl;conv=>whnf)
      (refine ChkS.mk (by kernel_rfl) ?_;conv=>whnf)
      (apply br_t (by simp only [g0, g1, gd, bbs, reduceIte]; done);conv=>whnf)
      (refine row_s (by ((try simp only [Int.toNat_natCast]); exact row_map dfR _ _ _ default (by first | omega | (simp; omega)))) ?_;conv=>whnf)
      (refine ChkS.mk (by kernel_rfl) ?_;conv=>whnf)
      (apply br_t (by simp only [g0, g1, gd, bbs, reduceIte]; done);conv=>whnf)
      (refine ChkS.mk (by kernel_rfl) ?_;conv=>whnf)
      (apply br_t (by simp only [g0, g1, gd, bbs, reduceIte]; done);conv=>whnf)
      (refine ChkS.mk (by kernel_rfl) ?_;conv=>whnf)
      (apply br_t (by simp only [g0, g1, gd, bbs, reduceIte]; done);conv=>whnf)
      (refine ChkS.mk (by kernel_rfl) ?_;conv=>whnf)
      (apply br_t (by simp only [g0, g1, gd, bbs, reduceIte]; done);conv=>whnf)
      iterate 2 (apply rq_s (by (((rw [wrap64 (by omega) (by omega)]; exact decide_eq_true (by (try simp only [List.length_map]); omega)))));conv=>whnf)
      (refine ChkS.mk (by kernel_rfl) ?_;conv=>whnf)
      (apply br_t (by simp only [g0, g1, gd, bbs, reduceIte]; done);conv=>whnf)
      (apply rq_s rfl;conv=>whnf)
      (refine ChkS.mk (by kernel_rfl) ?_;conv=>whnf)
      (apply br_t (by simp only [g0, g1, gd, bbs, reduceIte]; done);conv=>whnf)
      (refine row_s (by (exact row_prev (by assumption) (by omega) (by omega))) ?_;conv=>whnf)
      (refine ChkS.mk (by kernel_rfl) ?_;conv=>whnf)
      (apply br_t (by simp only [g0, g1, gd, bbs, reduceIte]; done);conv=>whnf)
      (refine ChkS.mk (by kernel_rfl) ?_;conv=>whnf)
      (apply br_f (by simp only [g0, g1, gd, bbs, reduceIte]; done);conv=>whnf)
      iterate 2 (refine ChkS.mk (by kernel_rfl) ?_;conv=>whnf)
      (apply br_t (by simp only [g0, g1, gd, bbs, reduceIte]; done);conv=>whnf)
      (apply rq_s rfl;conv=>whnf)
      rotate_left
      have e3 : decide (pw ds j < (ds.getD j default).w) = false := by
        have := of_decide_eq_true g1
        have : pw ds j = (ds.getD (j - 1) default).w := by rw [pw, if_neg (by omega)]
        exact decide_eq_false (by omega)
      exact sh_s (by rw [res, e3]; simp)
    · skip
      have elt : decide (pw ds j < (ds.getD j default).w) = true := by
        unfold pw
        split
        · exact decide_eq_true (by omega)
        · first
          | (have := of_decide_eq_false g1; exact decide_eq_true (by omega))
          | omega
      conv => whnf
      (apply br_t (by assumption);conv=>whnf)
      iterate 4 (refine ChkS.mk (by kernel_rfl) ?_;conv=>whnf)
      (apply rq_s rfl;conv=>whnf)
      (refine rq_s (by refine and_s rfl ?_; simp only [lnm]; omega) ?_;conv=>whnf)
      (refine ChkS.mk (by kernel_rfl) ?_;conv=>whnf)
      (refine row_s (by ((try simp only [Int.toNat_natCast]); exact row_map dfR _ _ _ default (by first | omega | (simp; omega)))) ?_;conv=>whnf)
      (refine ChkS.mk (by kernel_rfl) ?_;conv=>whnf)
      iterate 18 (apply rq_s rfl;conv=>whnf)
      iterate 11 (apply rows_s rfl;conv=>whnf)
      (refine call_s (c105 _ _ hm) ?_;conv=>whnf)
      iterate 3 (refine ChkS.mk (by kernel_rfl) ?_;conv=>whnf)
      (apply br_f (by simp only [g0, gd, bbs, reduceIte]; done);conv=>whnf)
      (refine ChkS.mk (by kernel_rfl) ?_;conv=>whnf)
      (apply br_f (by simp only [g0, gd, bbs, reduceIte]; done);conv=>whnf)
      (refine ChkS.mk (by kernel_rfl) ?_;conv=>whnf)
      (apply br_f (by simp only [g0, gd, bbs, reduceIte]; done);conv=>whnf)
      (refine ChkS.mk (by kernel_rfl) ?_;conv=>whnf)
      (apply br_f (by simp only [g0, gd, bbs, reduceIte]; done);conv=>whnf)
      (refine ChkS.mk (by kernel_rfl) ?_;conv=>whnf)
      (apply br_f (by simp only [g0, gd, bbs, reduceIte]; done);conv=>whnf)
      (refine ChkS.mk (by kernel_rfl) ?_;conv=>whnf)
      (apply br_f (by simp only [g0, gd, bbs, reduceIte]; done);conv=>whnf)
      (refine ChkS.mk (by kernel_rfl) ?_;conv=>whnf)
      (apply br_f (by simp only [g0, gd, bbs, reduceIte]; done);conv=>whnf)
      (refine ChkS.mk (by kernel_rfl) ?_;conv=>whnf)
      (apply br_f (by simp only [g0, gd, bbs, reduceIte]; done);conv=>whnf)
      (refine ChkS.mk (by kernel_rfl) ?_;conv=>whnf)
      (apply br_f (by simp only [g0, gd, bbs, reduceIte]; done);conv=>whnf)
      (refine ChkS.mk (by kernel_rfl) ?_;conv=>whnf)
      (apply br_f (by simp only [g0, gd, bbs, reduceIte]; done);conv=>whnf)
      (refine ChkS.mk (by kernel_rfl) ?_;conv=>whnf)
      (apply br_f (by simp only [g0, gd, bbs, reduceIte]; done);conv=>whnf)
      (refine ChkS.mk (by kernel_rfl) ?_;conv=>whnf)
      (apply br_f (by simp only [g0, gd, bbs, reduceIte]; done);conv=>whnf)
      (refine ChkS.mk (by kernel_rfl) ?_;conv=>whnf)
      (apply br_f (by simp only [g0, gd, bbs, reduceIte]; done);conv=>whnf)
      (refine ChkS.mk (by kernel_rfl) ?_;conv=>whnf)
      (apply br_f (by simp only [g0, gd, bbs, reduceIte]; done);conv=>whnf)
      (refine ChkS.mk (by kernel_rfl) ?_;conv=>whnf)
      (apply br_f (by simp only [g0, gd, bbs, reduceIte]; done);conv=>whnf)
      (refine ChkS.mk (by kernel_rfl) ?_;conv=>whnf)
      iterate 2 (apply br_f (by simp only [g0, gd, bbs, reduceIte]; done);conv=>whnf)
      iterate 2 (refine ChkS.mk (by kernel_rfl) ?_;conv=>whnf)
      (apply br_f (by simp only [g0, gd, bbs, reduceIte]; done);conv=>whnf)
      rotate_left
      exact head_s (j + 1) ⟨⟨by omega, by rw [hpw, ← h2, gd, elt]; rfl⟩, by omega⟩ (by rw [wrap64 (n := (j : Int) + 1) (by omega) (by omega)]; rfl) rfl
    · skip
      have elt : decide (pw ds j < (ds.getD j default).w) = true := by
        unfold pw
        split
        · exact decide_eq_true (by omega)
        · first
          | (have := of_decide_eq_false g1; exact decide_eq_true (by omega))
          | omega
      conv => whnf
      (apply br_t (by assumption);conv=>whnf)
      iterate 4 (refine ChkS.mk (by kernel_rfl) ?_;conv=>whnf)
      (apply rq_s rfl;conv=>whnf)
      (refine rq_s (by refine and_s rfl ?_; simp only [lnm]; omega) ?_;conv=>whnf)
      (refine ChkS.mk (by kernel_rfl) ?_;conv=>whnf)
      (refine row_s (by ((try simp only [Int.toNat_natCast]); exact row_map dfR _ _ _ default (by first | omega | (simp; omega)))) ?_;conv=>whnf)
      (refine ChkS.mk (by kernel_rfl) ?_;conv=>whnf)
      iterate 18 (apply rq_s rfl;conv=>whnf)
      iterate 11 (apply rows_s rfl;conv=>whnf)
      (refine call_s (c105 _ _ hm) ?_;conv=>whnf)
      iterate 3 (refine ChkS.mk (by kernel_rfl) ?_;conv=>whnf)
      (apply br_f (by simp only [g0, g1, gd, bbs, reduceIte]; done);conv=>whnf)
      (refine ChkS.mk (by kernel_rfl) ?_;conv=>whnf)
      (apply br_f (by simp only [g0, g1, gd, bbs, reduceIte]; done);conv=>whnf)
      (refine ChkS.mk (by kernel_rfl) ?_;conv=>whnf)
      (apply br_f (by simp only [g0, g1, gd, bbs, reduceIte]; done);conv=>whnf)
      (refine ChkS.mk (by kernel_rfl) ?_;conv=>whnf)
      (apply br_t (by simp only [g0, g1, gd, bbs, reduceIte]; done);conv=>whnf)
      (refine ChkS.mk (by kernel_rfl) ?_;conv=>whnf)
      (apply br_t (by simp only [g0, g1, gd, bbs, reduceIte]; done);conv=>whnf)
      (refine ChkS.mk (by kernel_rfl) ?_;conv=>whnf)
      (apply br_t (by simp only [g0, g1, gd, bbs, reduceIte]; done);conv=>whnf)
      (apply rq_s rfl;conv=>whnf)
      (refine rq_s (by refine and_s rfl ?_; simp only [lnm]; omega) ?_;conv=>whnf)
      (refine ChkS.mk (by kernel_rfl) ?_;conv=>whnf)
      (apply br_t (by simp only [g0, g1, gd, bbs, reduceIte]; done);conv=>whnf)
      (apply rq_s rfl;conv=>whnf)
      (refine ChkS.mk (by kernel_rfl) ?_;conv=>whnf)
      (apply br_t (by simp only [g0, g1, gd, bbs, reduceIte]; done);conv=>whnf)
      (refine row_s (by ((try simp only [Int.toNat_natCast]); exact row_map dfR _ _ _ default (by first | omega | (simp; omega)))) ?_;conv=>whnf)
      (refine ChkS.mk (by kernel_rfl) ?_;conv=>whnf)
      (apply br_t (by simp only [g0, g1, gd, bbs, reduceIte]; done);conv=>whnf)
      (refine ChkS.mk (by kernel_rfl) ?_;conv=>whnf)
      (apply br_t (by simp only [g0, g1, gd, bbs, reduceIte]; done);conv=>whnf)
      (refine ChkS.mk (by kernel_rfl) ?_;conv=>whnf)
      (apply br_t (by simp only [g0, g1, gd, bbs, reduceIte]; done);conv=>whnf)
      (refine ChkS.mk (by kernel_rfl) ?_;conv=>whnf)
      (apply br_t (by simp only [g0, g1, gd, bbs, reduceIte]; done);conv=>whnf)
      iterate 2 (apply rq_s (by (((rw [wrap64 (by omega) (by omega)]; exact decide_eq_true (by (try simp only [List.length_map]); omega)))));conv=>whnf)
      (refine ChkS.mk (by kernel_rfl) ?_;conv=>whnf)
      (apply br_t (by simp only [g0, g1, gd, bbs, reduceIte]; done);conv=>whnf)
      (apply rq_s rfl;conv=>whnf)
      (refine ChkS.mk (by kernel_rfl) ?_;conv=>whnf)
      (apply br_t (by simp only [g0, g1, gd, bbs, reduceIte]; done);conv=>whnf)
      (refine row_s (by (exact row_prev (by assumption) (by omega) (by omega))) ?_;conv=>whnf)
      (refine ChkS.mk (by kernel_rfl) ?_;conv=>whnf)
      (apply br_t (by simp only [g0, g1, gd, bbs, reduceIte]; done);conv=>whnf)
      (refine ChkS.mk (by kernel_rfl) ?_;conv=>whnf)
      (apply br_f (by simp only [g0, g1, gd, bbs, reduceIte]; done);conv=>whnf)
      iterate 2 (refine ChkS.mk (by kernel_rfl) ?_;conv=>whnf)
      (apply br_f (by simp only [g0, g1, gd, bbs, reduceIte]; done);conv=>whnf)
      rotate_left
      exact head_s (j + 1) ⟨⟨by omega, by rw [hpw, ← h2, gd, elt]; rfl⟩, by omega⟩ (by rw [wrap64 (n := (j : Int) + 1) (by omega) (by omega)]; rfl) rfl


theorem c12 (m : Mch) (ds : List Df) : Con Tryz.prog 12 [mchV m, roDf ds] (undefs [mchV m, roDf ds]) (.bool (dmOK m ds)) := by
  refine Con.ev 15 T_ok mix Tryz.func12 rfl rfl rfl rfl [.tmp 4] rfl ?_
  conv => whnf
  (apply rq_s rfl;conv=>whnf)
  (refine br_s ?_ ?_ <;> intro hb <;> (try simp only [cln] at hb) <;> conv=>whnf)
  (apply rq_s rfl;conv=>whnf)
  rotate_left
  iterate 16 (apply rq_s rfl;conv=>whnf)
  (apply lend_s;conv=>whnf)
  iterate 10 (apply rows_s rfl;conv=>whnf)
  (refine call_s (c47 m ..) ?_;conv=>whnf)
  (refine br_s ?_ ?_ <;> intro hb <;> (try simp only [cln] at hb) <;> conv=>whnf)
  iterate 2 (apply br_t rfl;conv=>whnf)
  iterate 17 (apply rq_s rfl;conv=>whnf)
  (apply lend_s;conv=>whnf)
  iterate 11 (apply rows_s rfl;conv=>whnf)
  (refine call_s (c48 _ _ (by assumption)) ?_;conv=>whnf)
  (apply rq_s rfl;conv=>whnf)
  rotate_left
  iterate 3 (apply br_f rfl;conv=>whnf)
  (apply rq_s rfl;conv=>whnf)
  rotate_left
  · have h20 : ¬ ds.length ≤ 20 := by omega
    exact sh_s (by simp [dmOK, defsOK, h20])
  · exact sh_s (by simp [dmOK, hb])
  · exact sh_s (by simp [dmOK, hb])
end M4
