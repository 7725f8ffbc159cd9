/- The law FnExactAnswerHost returns true. -/
import Derived.Test.YtbngkaiocdpliaaHostC
set_option linter.unusedVariables false
set_option linter.unusedSimpArgs false
set_option maxRecDepth 100000
open Go Go.Abs Go.Proofs U12 U13 U14
namespace U15

theorem c57 (h : Hst) (hs : Small h) : Con Try.prog 57 [hostV h] (undefs [hostV h]) (hostO h) := by
  have h1 := hs.gr
  have h2 := hs.st
  have h3 := hs.q
  have h4 := hs.ds
  refine Con.ev 24 T_ok mix Try.func57 rfl rfl rfl rfl [.cell 2 63] rfl ?_
  conv => whnf
  repeat' (first
    | (refine rq_s (by first | rfl | (refine and_s rfl ?_; simp only [decide_eq_true_eq, List.length_map]; omega) | (simp only [Bool.and_eq_true, decide_eq_true_eq, List.length_map]; omega) | (simp; done) | (simp; omega) | ((simp [maxBytes, AV.plain]; omega))) ?_; conv => whnf)
    | (refine aft_s (by first | rfl | (simp [AV.rowsN, List.length_map, mkB_len, mkI_len, mkD_len, mkH]; done)) rfl ?_; conv => whnf)
    | (refine nil_s (fun hz => ?_) ?_ <;> conv => whnf)
    | (refine row_s (by first | rfl) ?_; conv => whnf)
    | (refine rows_s (by first | (refine sub_all ?_; simp [List.length_map, mkB_len, mkI_len, mkD_len, mkH]; done) | exact sub_map _ _ _ _ | rfl) ?_; conv => whnf)
    | (refine fac_s (fun hf => ?_); conv => whnf)
    | (refine ChkS.mk (by kernel_rfl) ?_; conv => whnf)
    | (refine br_t rfl ?_; conv => whnf)
    | (refine br_f rfl ?_; conv => whnf)
    | (refine br_t (by assumption) ?_; conv => whnf)
    | (refine br_f (by assumption) ?_; conv => whnf)
    | (refine br_s (fun hb => ?_) (fun hb => ?_) <;> (try simp only [beq_iff_eq, bne_iff_ne, ne_eq, decide_eq_true_eq, decide_eq_false_iff_not, Int.not_lt, Int.not_le, Bool.false_eq_true, if_false, if_true, beq_eq_false_iff_ne, bne_eq_false_iff_eq, Bool.not_eq_true', Bool.not_eq_false', Int.ofNat_lt, Int.ofNat_le, Int.ofNat_inj, List.length_map, List.length_nil, List.length_cons] at hb) <;> conv => whnf)
    | (refine lend_s ?_; conv => whnf)
    
    )
  exact ⟨Sh.agg ⟨Sh.flat_map (fun _ => rfl) _, Sh.flat_map (fun _ => rfl) _, Sh.flat_map (fun _ => rfl) _, Sh.refl _, Sh.flat_map (fun _ => rfl) _, trivial⟩⟩
theorem small_of {h : Hst} (e : hostOK h = true) : Small h ∧ h.gr.length = 4 ∧ h.st.length = 8 ∧ h.q.length ≤ 20 ∧ h.ds.length ≤ 40 := by
  simp [hostOK] at e
  exact ⟨⟨by omega, by omega, by omega, by omega⟩, by omega, by omega, by omega, by omega⟩
def anP (h : Hst) (n : Int) : Hst × Int := if hostOK h = false then (⟨[], [], [], 0, []⟩, 1) else if cell n = false then (⟨[], [], [], 0, []⟩, 4) else if h.q.length = 20 then (h, 7) else ({ h with q := h.q ++ [n] }, 0)
def anV (h : Hst) (n : Int) : AV := .tup [hostO (anP h n).1, .int .i64 (anP h n).2]
theorem sh_zero {h : Hst} {n k : Int} (e : anP h n = (⟨[], [], [], 0, []⟩, k)) : ShG (.tup [.agg [.emp, .emp, .emp, .int .i64 0, .emp], .int .i64 k]) (anV h n) := by
  refine ⟨?_⟩
  unfold anV hostO
  rw [e]
  exact Sh.tup ⟨Sh.agg ⟨Sh.emp_own 0 _, Sh.emp_own 0 _, Sh.emp_own 0 _, Sh.refl _, Sh.emp_own 0 _, trivial⟩, Sh.refl _, trivial⟩
theorem an_bad {h : Hst} {n : Int} (e : hostOK h = false) : anP h n = (⟨[], [], [], 0, []⟩, 1) := by rw [anP, if_pos e]
theorem an_cell {h : Hst} {n : Int} (e : hostOK h = true) (e2 : cell n = false) : anP h n = (⟨[], [], [], 0, []⟩, 4) := by rw [anP, if_neg (by simp [e]), if_pos e2]
theorem an_full {h : Hst} {n : Int} (e : hostOK h = true) (e2 : cell n = true) (e3 : h.q.length = 20) : anP h n = (h, 7) := by rw [anP, if_neg (by simp [e]), if_neg (by simp [e2]), if_pos e3]
theorem an_good {h : Hst} {n : Int} (e : hostOK h = true) (e2 : cell n = true) (e3 : ¬ h.q.length = 20) : anP h n = ({ h with q := h.q ++ [n] }, 0) := by rw [anP, if_neg (by simp [e]), if_neg (by simp [e2]), if_neg e3]
theorem c34 (h : Hst) (n : Int) : Con Try.prog 34 [hostV h, .int .i64 n] (undefs [hostV h, .int .i64 n]) (anV h n) := by
  refine Con.ev 31 T_ok mix Try.func34 rfl rfl rfl rfl [.cell 4 63, .tmp 5] rfl ?_
  conv => whnf
  repeat' (first
    | (refine rq_s (by first | rfl | (refine and_s rfl ?_; simp only [decide_eq_true_eq, List.length_map]; omega) | (simp only [Bool.and_eq_true, decide_eq_true_eq, List.length_map]; omega) | (simp; done) | (simp; omega) ) ?_; conv => whnf)
    | (refine aft_s (by first | rfl | (simp [AV.rowsN, List.length_map, mkB_len, mkI_len, mkD_len, mkH]; done)) rfl ?_; conv => whnf)
    | (refine nil_s (fun hz => ?_) ?_ <;> conv => whnf)
    | (refine row_s (by first | rfl) ?_; conv => whnf)
    | (refine rows_s (by first | (refine sub_all ?_; simp [List.length_map, mkB_len, mkI_len, mkD_len, mkH]; done) | exact sub_map _ _ _ _ | rfl) ?_; conv => whnf)
    | (refine fac_s (fun hf => ?_); conv => whnf)
    | (refine ChkS.mk (by kernel_rfl) ?_; conv => whnf)
    | (refine br_t rfl ?_; conv => whnf)
    | (refine br_f rfl ?_; conv => whnf)
    | (refine br_t (by assumption) ?_; conv => whnf)
    | (refine br_f (by assumption) ?_; conv => whnf)
    | (refine br_s (fun hb => ?_) (fun hb => ?_) <;> (try simp only [beq_iff_eq, bne_iff_ne, ne_eq, decide_eq_true_eq, decide_eq_false_iff_not, Int.not_lt, Int.not_le, Bool.false_eq_true, if_false, if_true, beq_eq_false_iff_ne, bne_eq_false_iff_eq, Bool.not_eq_true', Bool.not_eq_false', Int.ofNat_lt, Int.ofNat_le, Int.ofNat_inj, List.length_map, List.length_nil, List.length_cons] at hb) <;> conv => whnf)
    | (refine lend_s ?_; conv => whnf)
    | ((first | refine call_s (c60 ..) ?_ | refine call_s (c42 ..) ?_); conv => whnf)
    )
  · exact sh_zero (an_bad hb)
  · exact sh_zero (an_cell (by assumption) hb)
  · have e1 : hostOK h = true := by assumption
    obtain ⟨hs, g1, g2, g3, g4⟩ := small_of e1
    repeat' (first
    | (refine rq_s (by first | rfl | (refine and_s rfl ?_; simp only [decide_eq_true_eq, List.length_map]; omega) | (simp only [Bool.and_eq_true, decide_eq_true_eq, List.length_map]; omega) | (simp; done) | (simp; omega) | ((simp [maxBytes, subA]; omega))) ?_; conv => whnf)
    | (refine aft_s (by first | rfl | (simp [AV.rowsN, List.length_map, mkB_len, mkI_len, mkD_len, mkH]; done)) rfl ?_; conv => whnf)
    | (refine nil_s (fun hz => ?_) ?_ <;> conv => whnf)
    | (refine row_s (by first | rfl) ?_; conv => whnf)
    | (refine rows_s (by first | (refine sub_all ?_; simp [List.length_map, mkB_len, mkI_len, mkD_len, mkH]; done) | exact sub_map _ _ _ _ | rfl) ?_; conv => whnf)
    | (refine fac_s (fun hf => ?_); conv => whnf)
    | (refine ChkS.mk (by kernel_rfl) ?_; conv => whnf)
    | (refine br_t rfl ?_; conv => whnf)
    | (refine br_f rfl ?_; conv => whnf)
    | (refine br_t (by assumption) ?_; conv => whnf)
    | (refine br_f (by assumption) ?_; conv => whnf)
    | (refine br_s (fun hb => ?_) (fun hb => ?_) <;> (try simp only [beq_iff_eq, bne_iff_ne, ne_eq, decide_eq_true_eq, decide_eq_false_iff_not, Int.not_lt, Int.not_le, Bool.false_eq_true, if_false, if_true, beq_eq_false_iff_ne, bne_eq_false_iff_eq, Bool.not_eq_true', Bool.not_eq_false', Int.ofNat_lt, Int.ofNat_le, Int.ofNat_inj, List.length_map, List.length_nil, List.length_cons] at hb) <;> conv => whnf)
    | (refine lend_s ?_; conv => whnf)
    | ((first | refine call_s (c61 _ hs) ?_); conv => whnf)
    )
    · exact sh_s (by rw [anV, an_full e1 (by assumption) (by omega)]; rfl)
    · have e3 := an_good e1 (by assumption) (show ¬ h.q.length = 20 by omega)
      repeat' (first
    | (refine rq_s (by first | rfl | (refine and_s rfl ?_; simp only [decide_eq_true_eq, List.length_map]; omega) | (simp only [Bool.and_eq_true, decide_eq_true_eq, List.length_map]; omega) | (simp; done) | (simp; omega) ) ?_; conv => whnf)
    | (refine aft_s (by first | rfl | (simp [AV.rowsN, List.length_map, mkB_len, mkI_len, mkD_len, mkH]; done)) rfl ?_; conv => whnf)
    | (refine nil_s (fun hz => ?_) ?_ <;> conv => whnf)
    | (refine row_s (by first | rfl) ?_; conv => whnf)
    | (refine rows_s (by first | (refine sub_all ?_; simp [List.length_map, mkB_len, mkI_len, mkD_len, mkH]; done) | exact sub_map _ _ _ _ | rfl) ?_; conv => whnf)
    | (refine fac_s (fun hf => ?_); conv => whnf)
    | (refine ChkS.mk (by kernel_rfl) ?_; conv => whnf)
    | (refine br_t rfl ?_; conv => whnf)
    | (refine br_f rfl ?_; conv => whnf)
    | (refine br_t (by assumption) ?_; conv => whnf)
    | (refine br_f (by assumption) ?_; conv => whnf)
    | (refine br_s (fun hb => ?_) (fun hb => ?_) <;> (try simp only [beq_iff_eq, bne_iff_ne, ne_eq, decide_eq_true_eq, decide_eq_false_iff_not, Int.not_lt, Int.not_le, Bool.false_eq_true, if_false, if_true, beq_eq_false_iff_ne, bne_eq_false_iff_eq, Bool.not_eq_true', Bool.not_eq_false', Int.ofNat_lt, Int.ofNat_le, Int.ofNat_inj, List.length_map, List.length_nil, List.length_cons] at hb) <;> conv => whnf)
    | (refine lend_s ?_; conv => whnf)
    
    | (refine sh_s ?_; (rw [anV, e3]; simp [hostO, subA, intR, List.take_of_length_le])))
theorem c32 (h : Hst) (n : Int) : Con Try.prog 32 [hostV h, .int .i64 n] (undefs [hostV h, .int .i64 n]) (anV h n) := by
  refine Con.ev 29 T_ok mix Try.func32 rfl rfl rfl rfl [.cell 4 63, .tmp 5] rfl ?_
  conv => whnf
  repeat' (first
    | (refine rq_s (by first | rfl | (refine and_s rfl ?_; simp only [decide_eq_true_eq, List.length_map]; omega) | (simp only [Bool.and_eq_true, decide_eq_true_eq, List.length_map]; omega) | (simp; done) | (simp; omega) ) ?_; conv => whnf)
    | (refine aft_s (by first | rfl | (simp [AV.rowsN, List.length_map, mkB_len, mkI_len, mkD_len, mkH]; done)) rfl ?_; conv => whnf)
    | (refine nil_s (fun hz => ?_) ?_ <;> conv => whnf)
    | (refine row_s (by first | rfl) ?_; conv => whnf)
    | (refine rows_s (by first | (refine sub_all ?_; simp [List.length_map, mkB_len, mkI_len, mkD_len, mkH]; done) | exact sub_map _ _ _ _ | rfl) ?_; conv => whnf)
    | (refine fac_s (fun hf => ?_); conv => whnf)
    | (refine ChkS.mk (by kernel_rfl) ?_; conv => whnf)
    | (refine br_t rfl ?_; conv => whnf)
    | (refine br_f rfl ?_; conv => whnf)
    | (refine br_t (by assumption) ?_; conv => whnf)
    | (refine br_f (by assumption) ?_; conv => whnf)
    | (refine br_s (fun hb => ?_) (fun hb => ?_) <;> (try simp only [beq_iff_eq, bne_iff_ne, ne_eq, decide_eq_true_eq, decide_eq_false_iff_not, Int.not_lt, Int.not_le, Bool.false_eq_true, if_false, if_true, beq_eq_false_iff_ne, bne_eq_false_iff_eq, Bool.not_eq_true', Bool.not_eq_false', Int.ofNat_lt, Int.ofNat_le, Int.ofNat_inj, List.length_map, List.length_nil, List.length_cons] at hb) <;> conv => whnf)
    | (refine lend_s ?_; conv => whnf)
    | ((first | refine call_s (c56 ..) ?_ | refine call_s (c39 ..) ?_); conv => whnf)
    )
  · exact sh_zero (an_bad hb)
  · exact sh_zero (an_cell (by assumption) hb)
  · have e1 : hostOK h = true := by assumption
    obtain ⟨hs, g1, g2, g3, g4⟩ := small_of e1
    repeat' (first
    | (refine rq_s (by first | rfl | (refine and_s rfl ?_; simp only [decide_eq_true_eq, List.length_map]; omega) | (simp only [Bool.and_eq_true, decide_eq_true_eq, List.length_map]; omega) | (simp; done) | (simp; omega) | ((simp [maxBytes, subA]; omega))) ?_; conv => whnf)
    | (refine aft_s (by first | rfl | (simp [AV.rowsN, List.length_map, mkB_len, mkI_len, mkD_len, mkH]; done)) rfl ?_; conv => whnf)
    | (refine nil_s (fun hz => ?_) ?_ <;> conv => whnf)
    | (refine row_s (by first | rfl) ?_; conv => whnf)
    | (refine rows_s (by first | (refine sub_all ?_; simp [List.length_map, mkB_len, mkI_len, mkD_len, mkH]; done) | exact sub_map _ _ _ _ | rfl) ?_; conv => whnf)
    | (refine fac_s (fun hf => ?_); conv => whnf)
    | (refine ChkS.mk (by kernel_rfl) ?_; conv => whnf)
    | (refine br_t rfl ?_; conv => whnf)
    | (refine br_f rfl ?_; conv => whnf)
    | (refine br_t (by assumption) ?_; conv => whnf)
    | (refine br_f (by assumption) ?_; conv => whnf)
    | (refine br_s (fun hb => ?_) (fun hb => ?_) <;> (try simp only [beq_iff_eq, bne_iff_ne, ne_eq, decide_eq_true_eq, decide_eq_false_iff_not, Int.not_lt, Int.not_le, Bool.false_eq_true, if_false, if_true, beq_eq_false_iff_ne, bne_eq_false_iff_eq, Bool.not_eq_true', Bool.not_eq_false', Int.ofNat_lt, Int.ofNat_le, Int.ofNat_inj, List.length_map, List.length_nil, List.length_cons] at hb) <;> conv => whnf)
    | (refine lend_s ?_; conv => whnf)
    | ((first | refine call_s (c57 _ hs) ?_); conv => whnf)
    )
    exact sh_s (by rw [anV, an_full e1 (by assumption) (by omega)]; rfl)
  · have e1 : hostOK h = true := by assumption
    obtain ⟨hs, g1, g2, g3, g4⟩ := small_of e1
    have e3 := an_good e1 (by assumption) (show ¬ h.q.length = 20 by omega)
    repeat' (first
    | (refine rq_s (by first | rfl | (refine and_s rfl ?_; simp only [decide_eq_true_eq, List.length_map]; omega) | (simp only [Bool.and_eq_true, decide_eq_true_eq, List.length_map]; omega) | (simp; done) | (simp; omega) | ((simp [maxBytes, subA]; omega))) ?_; conv => whnf)
    | (refine aft_s (by first | rfl | (simp [AV.rowsN, List.length_map, mkB_len, mkI_len, mkD_len, mkH]; done)) rfl ?_; conv => whnf)
    | (refine nil_s (fun hz => ?_) ?_ <;> conv => whnf)
    | (refine row_s (by first | rfl) ?_; conv => whnf)
    | (refine rows_s (by first | (refine sub_all ?_; simp [List.length_map, mkB_len, mkI_len, mkD_len, mkH]; done) | exact sub_map _ _ _ _ | rfl) ?_; conv => whnf)
    | (refine fac_s (fun hf => ?_); conv => whnf)
    | (refine ChkS.mk (by kernel_rfl) ?_; conv => whnf)
    | (refine br_t rfl ?_; conv => whnf)
    | (refine br_f rfl ?_; conv => whnf)
    | (refine br_t (by assumption) ?_; conv => whnf)
    | (refine br_f (by assumption) ?_; conv => whnf)
    | (refine br_s (fun hb => ?_) (fun hb => ?_) <;> (try simp only [beq_iff_eq, bne_iff_ne, ne_eq, decide_eq_true_eq, decide_eq_false_iff_not, Int.not_lt, Int.not_le, Bool.false_eq_true, if_false, if_true, beq_eq_false_iff_ne, bne_eq_false_iff_eq, Bool.not_eq_true', Bool.not_eq_false', Int.ofNat_lt, Int.ofNat_le, Int.ofNat_inj, List.length_map, List.length_nil, List.length_cons] at hb) <;> conv => whnf)
    | (refine lend_s ?_; conv => whnf)
    | ((first | refine call_s (c57 _ hs) ?_); conv => whnf)
    | (refine sh_s ?_; (rw [anV, e3]; simp [hostO, subA, intR, List.take_of_length_le])))
theorem szN_le {m : Nat} {l : Int} (h1 : 0 ≤ l) (h2 : l ≤ 1048576) (hx : m ≤ 9223372036854775807) (h : 0 ≤ szN m l) : szN m l ≤ l ∧ m ≤ 1048576 := by
  unfold szN at h ⊢
  rw [wr h1 h2 hx] at h ⊢
  by_cases h3 : l - (m : Int) < 0
  · rw [if_pos h3] at h; omega
  · rw [if_neg h3]; omega
theorem szH_le {h : Hst} (x1 : h.gr.length ≤ 9223372036854775807) (x2 : h.st.length ≤ 9223372036854775807) (x3 : h.q.length ≤ 9223372036854775807) (x4 : h.ds.length ≤ 9223372036854775807) (e : 0 ≤ szH h 1048576) : Small h := by
  unfold szH at e
  by_cases e1 : szN h.gr.length 1048576 < 0
  · rw [if_pos e1] at e; omega
  rw [if_neg e1] at e
  have k1 := szN_le (by omega) (by omega) x1 (by omega : 0 ≤ szN h.gr.length 1048576)
  by_cases e2 : szN h.st.length (szN h.gr.length 1048576) < 0
  · rw [if_pos e2] at e; omega
  rw [if_neg e2] at e
  have k2 := szN_le (by omega) (by omega) x2 (by omega : 0 ≤ szN h.st.length (szN h.gr.length 1048576))
  by_cases e3 : szN h.q.length (szN h.st.length (szN h.gr.length 1048576)) < 0
  · rw [if_pos e3] at e; omega
  rw [if_neg e3] at e
  have k3 := szN_le (by omega) (by omega) x3 (by omega : 0 ≤ szN h.q.length (szN h.st.length (szN h.gr.length 1048576)))
  by_cases e4 : szN h.ds.length (szN h.q.length (szN h.st.length (szN h.gr.length 1048576))) < 0
  · rw [if_pos e4] at e; omega
  have k4 := szN_le (by omega) (by omega) x4 (by omega : 0 ≤ szN h.ds.length (szN h.q.length (szN h.st.length (szN h.gr.length 1048576))))
  exact ⟨k1.2, k2.2, k3.2, k4.2⟩
theorem an_len {h : Hst} {n : Int} (hs : Small h) : markLen (anP h n).1 ≤ 8000000 := by
  obtain ⟨h1, h2, h3, h4⟩ := hs
  unfold anP markLen
  split
  · simp
  · split
    · simp
    · split
      · simp only; omega
      · simp only [List.length_append, List.length_cons, List.length_nil]; omega
theorem mark_le {h : Hst} (hs : Small h) : markLen h ≤ 8000000 := by
  obtain ⟨h1, h2, h3, h4⟩ := hs
  unfold markLen
  omega
theorem mkH_len (h : Hst) (k : Int) : markLen (mkH h k) = markLen h := by simp [markLen, mkH, mkB_len, mkI_len, mkD_len]
set_option maxHeartbeats 4000000 in
theorem c7 (h : Hst) (n : Int) : Con Try.prog 7 [hostV h, .int .i64 n] (undefs [hostV h, .int .i64 n]) (.bool true) := by
  refine Con.evF 101 T_ok mix Try.func7 rfl rfl rfl rfl [.tmp 4] rfl fun ⟨hx, _⟩ => ?_
  have x1 := facts_len fun d => hx (d + 1) (roB h.gr) (by simp)
  have x2 := facts_len (f := intR) (z := [.int .i64 0]) fun d => hx (d + 1) (roI h.st) (by simp)
  have x3 := facts_len (f := intR) (z := [.int .i64 0]) fun d => hx (d + 1) (roI h.q) (by simp)
  have x4 := facts_len fun d => hx (d + 1) (roD h.ds) (by simp)
  clear hx
  conv => whnf
  repeat' (first
    | (refine rq_s (by first | rfl | (refine and_s rfl ?_; simp only [decide_eq_true_eq, List.length_map]; omega) | (simp only [Bool.and_eq_true, decide_eq_true_eq, List.length_map]; omega) | (simp; done) | (simp; omega) ) ?_; conv => whnf)
    | (refine aft_s (by first | rfl | (simp [AV.rowsN, List.length_map, mkB_len, mkI_len, mkD_len, mkH]; done)) rfl ?_; conv => whnf)
    | (refine nil_s (fun hz => ?_) ?_ <;> conv => whnf)
    | (refine row_s (by first | rfl) ?_; conv => whnf)
    | (refine rows_s (by first | (refine sub_all ?_; simp [List.length_map, mkB_len, mkI_len, mkD_len, mkH]; done) | exact sub_map _ _ _ _ | rfl) ?_; conv => whnf)
    | (refine fac_s (fun hf => ?_); conv => whnf)
    | (refine ChkS.mk (by kernel_rfl) ?_; conv => whnf)
    | (refine br_t rfl ?_; conv => whnf)
    | (refine br_f rfl ?_; conv => whnf)
    | (refine br_t (by assumption) ?_; conv => whnf)
    | (refine br_f (by assumption) ?_; conv => whnf)
    | (refine br_s (fun hb => ?_) (fun hb => ?_) <;> (try simp only [beq_iff_eq, bne_iff_ne, ne_eq, decide_eq_true_eq, decide_eq_false_iff_not, Int.not_lt, Int.not_le, Bool.false_eq_true, if_false, if_true, beq_eq_false_iff_ne, bne_eq_false_iff_eq, Bool.not_eq_true', Bool.not_eq_false', Int.ofNat_lt, Int.ofNat_le, Int.ofNat_inj, List.length_map, List.length_nil, List.length_cons] at hb) <;> conv => whnf)
    | (refine lend_s ?_; conv => whnf)
    | ((first | refine call_s (c31 ..) ?_); conv => whnf)
    | (refine sh_s ?_; rfl))
  have hs := szH_le x1 x2 x3 x4 hb
  have m1 := mark_le hs
  have m2 := an_len (n := n) hs
  have m3 := heldH_mk (anP h n).1 1 (by omega)
  have m4 := mkH_len (anP h n).1 1
  have m5 : 0 ≤ markLen h := by unfold markLen; omega
  have m6 : 0 ≤ markLen (anP h n).1 := by unfold markLen; omega
  repeat' (first
    | (refine rq_s (by first | rfl | (refine and_s rfl ?_; simp only [decide_eq_true_eq, List.length_map]; omega) | (simp only [Bool.and_eq_true, decide_eq_true_eq, List.length_map]; omega) | (simp; done) | (simp; omega) ) ?_; conv => whnf)
    | (refine aft_s (by first | rfl | (simp [AV.rowsN, List.length_map, mkB_len, mkI_len, mkD_len, mkH]; done)) rfl ?_; conv => whnf)
    | (refine nil_s (fun hz => ?_) ?_ <;> conv => whnf)
    | (refine row_s (by first | rfl) ?_; conv => whnf)
    | (refine rows_s (by first | (refine sub_all ?_; simp [List.length_map, mkB_len, mkI_len, mkD_len, mkH]; done) | exact sub_map _ _ _ _ | rfl) ?_; conv => whnf)
    | (refine fac_s (fun hf => ?_); conv => whnf)
    | (refine ChkS.mk (by kernel_rfl) ?_; conv => whnf)
    | (refine br_t rfl ?_; conv => whnf)
    | (refine br_f rfl ?_; conv => whnf)
    | (refine br_t (by assumption) ?_; conv => whnf)
    | (refine br_f (by assumption) ?_; conv => whnf)
    | (refine br_s (fun hb => ?_) (fun hb => ?_) <;> (try simp only [beq_iff_eq, bne_iff_ne, ne_eq, decide_eq_true_eq, decide_eq_false_iff_not, Int.not_lt, Int.not_le, Bool.false_eq_true, if_false, if_true, beq_eq_false_iff_ne, bne_eq_false_iff_eq, Bool.not_eq_true', Bool.not_eq_false', Int.ofNat_lt, Int.ofNat_le, Int.ofNat_inj, List.length_map, List.length_nil, List.length_cons] at hb) <;> conv => whnf)
    | (refine handA_s 36 ?_; conv => whnf)
    | (refine handAc_s (f := 36) (c36 _ 1 (by omega) (by omega)) (by simp [szOk, List.length_map, mkB_len, mkI_len, mkD_len, mkH]) ?_; conv => whnf)
    | (refine lend_s ?_; conv => whnf)
    | ((first | refine call_s (c33 _ hs) ?_ | refine call_s (c32 ..) ?_ | refine call_s (c34 ..) ?_ | refine call_s (c35 ..) ?_ | refine call_s (c37 (mkH (anP h n).1 1) 1 (by omega) (by omega) ..) ?_); conv => whnf)
    | (refine sh_s ?_; first | rfl | (simp_all; done) | (simp_all; omega)))
theorem deal_of {d : Nat} {l : List AV} (h : OfT T (d + 2) 100 l) : ∃ r : Deal, l = dealR r := by
  obtain ⟨_, _, rfl, ⟨k, rfl⟩, _, _, rfl, ⟨n, rfl⟩, _, _, rfl, ⟨s, rfl⟩, _, _, rfl, ⟨t, rfl⟩, rfl⟩ := h
  exact ⟨⟨k, n, s, t⟩, rfl⟩
theorem host_of {l : List AV} (h : OfT T 10 59 l) : ∃ gr st q tk ds, l = [roB gr, roI st, roI q, .int .i64 tk, roD ds] := by
  obtain ⟨_, _, rfl, ⟨r1, rfl, h1⟩, _, _, rfl, ⟨r2, rfl, h2⟩, _, _, rfl, ⟨r3, rfl, h3⟩, _, _, rfl, ⟨tk, rfl⟩, _, _, rfl, ⟨r5, rfl, h5⟩, rfl⟩ := h
  obtain ⟨gr, rfl⟩ := rows_map boolR h1
  obtain ⟨st, rfl⟩ := rows_map intR h2
  obtain ⟨q, rfl⟩ := rows_map intR h3
  obtain ⟨ds, rfl⟩ := rows_map dealR fun row hr => deal_of (d := 6) (h5 row hr)
  exact ⟨gr, st, q, tk, ds, rfl⟩
theorem int_of {x : AV} (h : OfT T 10 3 [x]) : ∃ n, x = .int .i64 n := by
  obtain ⟨n, h1⟩ := h
  injection h1 with h1
  exact ⟨n, h1⟩
end U15
