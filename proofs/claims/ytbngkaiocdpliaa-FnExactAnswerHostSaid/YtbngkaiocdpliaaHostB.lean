/- The functions that the law FnExactAnswerHost reaches, continued: the host's state and its change. -/
import Derived.Test.YtbngkaiocdpliaaHostA
set_option linter.unusedVariables false
set_option linter.unusedSimpArgs false
set_option maxRecDepth 100000
open Go Go.Abs Go.Proofs U12
namespace U13

def markLen (h : Hst) : Int := h.gr.length + h.st.length + h.q.length + 4 * h.ds.length
def mkH (h : Hst) (k : Int) : Hst := ⟨mkB h.gr.length k, mkI h.st.length (k + h.gr.length), mkI h.q.length (k + h.gr.length + h.st.length), h.tk, mkD h.ds.length (k + h.gr.length + h.st.length + h.q.length)⟩
theorem c36 (h : Hst) (k : Int) (h1 : 0 ≤ k) (h2 : k + markLen h ≤ 100000000) : Con Try.prog 36 [hostO h, .int .i64 k]
    [.agg [.own 0 [.bool false] ((mkH h k).gr.map boolR), .own 0 [.int .i64 0] ((mkH h k).st.map intR), .own 0 [.int .i64 0] ((mkH h k).q.map intR), .undef, .own 0 zDeal ((mkH h k).ds.map dealR)], .undef] (.int .i64 (k + markLen h)) := by
  unfold markLen at h2
  refine Con.evH 22 [some 500000, some 500001, some 500002, none, some 500004] [500000, 500001, 500002, 500004] rfl rfl T_ok mix Try.func36 rfl rfl rfl rfl [.tmp 4] rfl ?_
  conv => whnf
  repeat' (first
    | (refine rq_s (by first | rfl | (refine and_s rfl ?_; simp only [decide_eq_true_eq, List.length_map]; omega) | (simp only [Bool.and_eq_true, decide_eq_true_eq, List.length_map]; omega) | (simp; done) | (simp; omega) ) ?_; conv => whnf)
    | (refine aft_s (by first | rfl | (simp [AV.rowsN, List.length_map, mkB_len, mkI_len, mkD_len]; done)) rfl ?_; conv => whnf)
    | (refine nil_s (fun hz => ?_) ?_ <;> conv => whnf)
    | (refine row_s (by first | rfl) ?_; conv => whnf)
    | (refine rows_s (by first | (refine sub_all ?_; simp [List.length_map, mkB_len, mkI_len, mkD_len]; done) | exact sub_map _ _ _ _ | rfl) ?_; conv => whnf)
    | (refine fac_s (fun hf => ?_); conv => whnf)
    | (refine ChkS.mk (by kernel_rfl) ?_; conv => whnf)
    | (refine br_t rfl ?_; conv => whnf)
    | (refine br_f rfl ?_; conv => whnf)
    | (refine br_t (by assumption) ?_; conv => whnf)
    | (refine br_f (by assumption) ?_; conv => whnf)
    | (refine br_s (fun hb => ?_) (fun hb => ?_) <;> (try simp only [beq_iff_eq, bne_iff_ne, ne_eq, decide_eq_true_eq, decide_eq_false_iff_not, Int.not_lt, Int.not_le, Bool.false_eq_true, if_false, if_true, beq_eq_false_iff_ne, bne_eq_false_iff_eq, Bool.not_eq_true', Bool.not_eq_false', Int.ofNat_lt, Int.ofNat_le, Int.ofNat_inj, List.length_map, List.length_nil, List.length_cons] at hb) <;> conv => whnf)
    | (refine hand_s 29 0 ?_; conv => whnf)
    | (refine handc_s (f := 29) (j := 0) (c29 _ _ (by omega) (by omega)) (by simp [List.length_map, mkB_len, mkI_len, mkD_len]) (by rfl) (by rfl) ?_; conv => whnf)
    | (refine hand_s 63 0 ?_; conv => whnf)
    | (refine handc_s (f := 63) (j := 0) (c63 _ _ (by omega) (by omega)) (by simp [List.length_map, mkB_len, mkI_len, mkD_len]) (by rfl) (by rfl) ?_; conv => whnf)
    | (refine hand_s 64 0 ?_; conv => whnf)
    | (refine handc_s (f := 64) (j := 0) (c64 _ _ (by omega) (by omega)) (by simp [List.length_map, mkB_len, mkI_len, mkD_len]) (by rfl) (by rfl) ?_; conv => whnf)
    | (refine lend_s ?_; conv => whnf)
    
    | (refine sh_s ?_; (simp only [markLen]; congr 1; omega)))
def heldH (h : Hst) (k : Int) : Int := if heldB h.gr k < 0 then -1 else if heldI h.st (heldB h.gr k) < 0 then -1 else if heldI h.q (heldI h.st (heldB h.gr k)) < 0 then -1
  else if heldD h.ds (heldI h.q (heldI h.st (heldB h.gr k))) < 0 then -1 else heldD h.ds (heldI h.q (heldI h.st (heldB h.gr k)))
theorem heldB_le (xs : List Bool) (k : Int) : heldB xs k ≤ k + xs.length ∨ heldB xs k = -1 := by unfold heldB; split; exact .inl (Int.le_refl _); exact .inr rfl
theorem heldI_le (xs : List Int) (k : Int) : heldI xs k ≤ k + xs.length ∨ heldI xs k = -1 := by unfold heldI; split; exact .inl (Int.le_refl _); exact .inr rfl
theorem c37 (h : Hst) (k : Int) (h1 : 0 ≤ k) (h2 : k + markLen h ≤ 100000000) : Con Try.prog 37 [hostV h, .int .i64 k] (undefs [hostV h, .int .i64 k]) (.int .i64 (heldH h k)) := by
  unfold markLen at h2
  have g1 := heldB_le h.gr k
  have g2 := heldI_le h.st (heldB h.gr k)
  have g3 := heldI_le h.q (heldI h.st (heldB h.gr k))
  refine Con.ev 30 T_ok mix Try.func37 rfl rfl rfl rfl [.tmp 4] rfl ?_
  conv => whnf
  repeat' (first
    | (refine rq_s (by first | rfl | (refine and_s rfl ?_; simp only [decide_eq_true_eq, List.length_map]; omega) | (simp only [Bool.and_eq_true, decide_eq_true_eq, List.length_map]; omega) | (simp; done) | (simp; omega) ) ?_; conv => whnf)
    | (refine aft_s (by first | rfl | (simp [AV.rowsN, List.length_map, mkB_len, mkI_len, mkD_len]; done)) rfl ?_; conv => whnf)
    | (refine nil_s (fun hz => ?_) ?_ <;> conv => whnf)
    | (refine row_s (by first | rfl) ?_; conv => whnf)
    | (refine rows_s (by first | (refine sub_all ?_; simp [List.length_map, mkB_len, mkI_len, mkD_len]; done) | exact sub_map _ _ _ _ | rfl) ?_; conv => whnf)
    | (refine fac_s (fun hf => ?_); conv => whnf)
    | (refine ChkS.mk (by kernel_rfl) ?_; conv => whnf)
    | (refine br_t rfl ?_; conv => whnf)
    | (refine br_f rfl ?_; conv => whnf)
    | (refine br_t (by assumption) ?_; conv => whnf)
    | (refine br_f (by assumption) ?_; conv => whnf)
    | (refine br_s (fun hb => ?_) (fun hb => ?_) <;> (try simp only [beq_iff_eq, bne_iff_ne, ne_eq, decide_eq_true_eq, decide_eq_false_iff_not, Int.not_lt, Int.not_le, Bool.false_eq_true, if_false, if_true, beq_eq_false_iff_ne, bne_eq_false_iff_eq, Bool.not_eq_true', Bool.not_eq_false', Int.ofNat_lt, Int.ofNat_le, Int.ofNat_inj, List.length_map, List.length_nil, List.length_cons] at hb) <;> conv => whnf)
    | (refine lend_s ?_; conv => whnf)
    | ((first | refine call_s (c30 _ _ (by omega) (by omega)) ?_ | refine call_s (c65 _ _ (by omega) (by omega)) ?_ | refine call_s (c66 _ _ (by omega) (by omega)) ?_); conv => whnf)
    | (refine sh_s ?_; first | (simp_all [heldH]; done) | (simp_all [heldH]; omega)))
theorem heldH_mk (h : Hst) (k : Int) (h1 : 0 ≤ k) : heldH (mkH h k) k = k + markLen h := by
  have e1 : heldB (mkH h k).gr k = k + h.gr.length := by simp [heldB, mkH, mkB_len]
  have e2 : heldI (mkH h k).st (k + h.gr.length) = k + h.gr.length + h.st.length := by simp [heldI, mkH, mkI_len]
  have e3 : heldI (mkH h k).q (k + h.gr.length + h.st.length) = k + h.gr.length + h.st.length + h.q.length := by simp [heldI, mkH, mkI_len]
  have e4 : heldD (mkH h k).ds (k + h.gr.length + h.st.length + h.q.length) = k + h.gr.length + h.st.length + h.q.length + 4 * h.ds.length := by simp [heldD, mkH, mkD_len]
  rw [heldH, e1, if_neg (by omega), e2, if_neg (by omega), e3, if_neg (by omega), e4, if_neg (by omega)]
  unfold markLen
  omega
def inR (n lo hi : Int) : Bool := decide (lo ≤ n) && decide (n ≤ hi)
theorem c41 (n lo hi : Int) : Con Try.prog 41 [.int .i64 n, .int .i64 lo, .int .i64 hi] (undefs [.int .i64 n, .int .i64 lo, .int .i64 hi]) (.bool (inR n lo hi)) := by
  refine Con.ev 15 T_ok mix Try.func41 rfl rfl rfl rfl [.tmp 6] rfl ?_
  conv => whnf
  repeat' (first
    | (refine rq_s (by first | rfl | (refine and_s rfl ?_; simp only [decide_eq_true_eq, List.length_map]; omega) | (simp only [Bool.and_eq_true, decide_eq_true_eq, List.length_map]; omega) | (simp; done) | (simp; omega) ) ?_; conv => whnf)
    | (refine aft_s (by first | rfl | (simp [AV.rowsN, List.length_map, mkB_len, mkI_len, mkD_len]; done)) rfl ?_; conv => whnf)
    | (refine nil_s (fun hz => ?_) ?_ <;> conv => whnf)
    | (refine row_s (by first | rfl) ?_; conv => whnf)
    | (refine rows_s (by first | (refine sub_all ?_; simp [List.length_map, mkB_len, mkI_len, mkD_len]; done) | exact sub_map _ _ _ _ | rfl) ?_; conv => whnf)
    | (refine fac_s (fun hf => ?_); conv => whnf)
    | (refine ChkS.mk (by kernel_rfl) ?_; conv => whnf)
    | (refine br_t rfl ?_; conv => whnf)
    | (refine br_f rfl ?_; conv => whnf)
    | (refine br_t (by assumption) ?_; conv => whnf)
    | (refine br_f (by assumption) ?_; conv => whnf)
    | (refine br_s (fun hb => ?_) (fun hb => ?_) <;> (try simp only [beq_iff_eq, bne_iff_ne, ne_eq, decide_eq_true_eq, decide_eq_false_iff_not, Int.not_lt, Int.not_le, Bool.false_eq_true, if_false, if_true, beq_eq_false_iff_ne, bne_eq_false_iff_eq, Bool.not_eq_true', Bool.not_eq_false', Int.ofNat_lt, Int.ofNat_le, Int.ofNat_inj, List.length_map, List.length_nil, List.length_cons] at hb) <;> conv => whnf)
    | (refine lend_s ?_; conv => whnf)
    
    | (refine sh_s ?_; first | (simp_all [inR]; done) | (simp_all [inR]; omega)))
theorem c38 (n lo hi : Int) : Con Try.prog 38 [.int .i64 n, .int .i64 lo, .int .i64 hi] (undefs [.int .i64 n, .int .i64 lo, .int .i64 hi]) (.bool (inR n lo hi)) := by
  refine Con.ev 15 T_ok mix Try.func38 rfl rfl rfl rfl [.tmp 6] rfl ?_
  conv => whnf
  repeat' (first
    | (refine rq_s (by first | rfl | (refine and_s rfl ?_; simp only [decide_eq_true_eq, List.length_map]; omega) | (simp only [Bool.and_eq_true, decide_eq_true_eq, List.length_map]; omega) | (simp; done) | (simp; omega) ) ?_; conv => whnf)
    | (refine aft_s (by first | rfl | (simp [AV.rowsN, List.length_map, mkB_len, mkI_len, mkD_len]; done)) rfl ?_; conv => whnf)
    | (refine nil_s (fun hz => ?_) ?_ <;> conv => whnf)
    | (refine row_s (by first | rfl) ?_; conv => whnf)
    | (refine rows_s (by first | (refine sub_all ?_; simp [List.length_map, mkB_len, mkI_len, mkD_len]; done) | exact sub_map _ _ _ _ | rfl) ?_; conv => whnf)
    | (refine fac_s (fun hf => ?_); conv => whnf)
    | (refine ChkS.mk (by kernel_rfl) ?_; conv => whnf)
    | (refine br_t rfl ?_; conv => whnf)
    | (refine br_f rfl ?_; conv => whnf)
    | (refine br_t (by assumption) ?_; conv => whnf)
    | (refine br_f (by assumption) ?_; conv => whnf)
    | (refine br_s (fun hb => ?_) (fun hb => ?_) <;> (try simp only [beq_iff_eq, bne_iff_ne, ne_eq, decide_eq_true_eq, decide_eq_false_iff_not, Int.not_lt, Int.not_le, Bool.false_eq_true, if_false, if_true, beq_eq_false_iff_ne, bne_eq_false_iff_eq, Bool.not_eq_true', Bool.not_eq_false', Int.ofNat_lt, Int.ofNat_le, Int.ofNat_inj, List.length_map, List.length_nil, List.length_cons] at hb) <;> conv => whnf)
    | (refine lend_s ?_; conv => whnf)
    
    | (refine sh_s ?_; first | (simp_all [inR]; done) | (simp_all [inR]; omega)))
theorem c40 (n : Int) : Con Try.prog 40 [.int .i64 n] (undefs [.int .i64 n]) (.bool (inR n 0 3)) := by
  refine Con.ev 5 T_ok mix Try.func40 rfl rfl rfl rfl [.tmp 2] rfl ?_
  conv => whnf
  repeat' (first
    | (refine rq_s (by first | rfl | (refine and_s rfl ?_; simp only [decide_eq_true_eq, List.length_map]; omega) | (simp only [Bool.and_eq_true, decide_eq_true_eq, List.length_map]; omega) | (simp; done) | (simp; omega) ) ?_; conv => whnf)
    | (refine aft_s (by first | rfl | (simp [AV.rowsN, List.length_map, mkB_len, mkI_len, mkD_len]; done)) rfl ?_; conv => whnf)
    | (refine nil_s (fun hz => ?_) ?_ <;> conv => whnf)
    | (refine row_s (by first | rfl) ?_; conv => whnf)
    | (refine rows_s (by first | (refine sub_all ?_; simp [List.length_map, mkB_len, mkI_len, mkD_len]; done) | exact sub_map _ _ _ _ | rfl) ?_; conv => whnf)
    | (refine fac_s (fun hf => ?_); conv => whnf)
    | (refine ChkS.mk (by kernel_rfl) ?_; conv => whnf)
    | (refine br_t rfl ?_; conv => whnf)
    | (refine br_f rfl ?_; conv => whnf)
    | (refine br_t (by assumption) ?_; conv => whnf)
    | (refine br_f (by assumption) ?_; conv => whnf)
    | (refine br_s (fun hb => ?_) (fun hb => ?_) <;> (try simp only [beq_iff_eq, bne_iff_ne, ne_eq, decide_eq_true_eq, decide_eq_false_iff_not, Int.not_lt, Int.not_le, Bool.false_eq_true, if_false, if_true, beq_eq_false_iff_ne, bne_eq_false_iff_eq, Bool.not_eq_true', Bool.not_eq_false', Int.ofNat_lt, Int.ofNat_le, Int.ofNat_inj, List.length_map, List.length_nil, List.length_cons] at hb) <;> conv => whnf)
    | (refine lend_s ?_; conv => whnf)
    | ((first | refine call_s (c41 ..) ?_); conv => whnf)
    | (refine sh_s ?_; rfl))
def cell (n : Int) : Bool := inR n (-2147483648) 2147483647
theorem c39 (n : Int) : Con Try.prog 39 [.int .i64 n] (undefs [.int .i64 n]) (.bool (cell n)) := by
  refine Con.ev 5 T_ok mix Try.func39 rfl rfl rfl rfl [.tmp 2] rfl ?_
  conv => whnf
  repeat' (first
    | (refine rq_s (by first | rfl | (refine and_s rfl ?_; simp only [decide_eq_true_eq, List.length_map]; omega) | (simp only [Bool.and_eq_true, decide_eq_true_eq, List.length_map]; omega) | (simp; done) | (simp; omega) ) ?_; conv => whnf)
    | (refine aft_s (by first | rfl | (simp [AV.rowsN, List.length_map, mkB_len, mkI_len, mkD_len]; done)) rfl ?_; conv => whnf)
    | (refine nil_s (fun hz => ?_) ?_ <;> conv => whnf)
    | (refine row_s (by first | rfl) ?_; conv => whnf)
    | (refine rows_s (by first | (refine sub_all ?_; simp [List.length_map, mkB_len, mkI_len, mkD_len]; done) | exact sub_map _ _ _ _ | rfl) ?_; conv => whnf)
    | (refine fac_s (fun hf => ?_); conv => whnf)
    | (refine ChkS.mk (by kernel_rfl) ?_; conv => whnf)
    | (refine br_t rfl ?_; conv => whnf)
    | (refine br_f rfl ?_; conv => whnf)
    | (refine br_t (by assumption) ?_; conv => whnf)
    | (refine br_f (by assumption) ?_; conv => whnf)
    | (refine br_s (fun hb => ?_) (fun hb => ?_) <;> (try simp only [beq_iff_eq, bne_iff_ne, ne_eq, decide_eq_true_eq, decide_eq_false_iff_not, Int.not_lt, Int.not_le, Bool.false_eq_true, if_false, if_true, beq_eq_false_iff_ne, bne_eq_false_iff_eq, Bool.not_eq_true', Bool.not_eq_false', Int.ofNat_lt, Int.ofNat_le, Int.ofNat_inj, List.length_map, List.length_nil, List.length_cons] at hb) <;> conv => whnf)
    | (refine lend_s ?_; conv => whnf)
    | ((first | refine call_s (c38 ..) ?_); conv => whnf)
    | (refine sh_s ?_; rfl))
theorem c67 (n : Int) : Con Try.prog 67 [.int .i64 n] (undefs [.int .i64 n]) (.int .i64 (IntKind.i64.wrap (IntKind.i32.wrap n))) := by
  refine Con.ev 6 T_ok mix Try.func67 rfl rfl rfl rfl [.tmp 2] rfl ?_
  conv => whnf
  repeat' (first
    | (refine rq_s (by first | rfl | (refine and_s rfl ?_; simp only [decide_eq_true_eq, List.length_map]; omega) | (simp only [Bool.and_eq_true, decide_eq_true_eq, List.length_map]; omega) | (simp; done) | (simp; omega) ) ?_; conv => whnf)
    | (refine aft_s (by first | rfl | (simp [AV.rowsN, List.length_map, mkB_len, mkI_len, mkD_len]; done)) rfl ?_; conv => whnf)
    | (refine nil_s (fun hz => ?_) ?_ <;> conv => whnf)
    | (refine row_s (by first | rfl) ?_; conv => whnf)
    | (refine rows_s (by first | (refine sub_all ?_; simp [List.length_map, mkB_len, mkI_len, mkD_len]; done) | exact sub_map _ _ _ _ | rfl) ?_; conv => whnf)
    | (refine fac_s (fun hf => ?_); conv => whnf)
    | (refine ChkS.mk (by kernel_rfl) ?_; conv => whnf)
    | (refine br_t rfl ?_; conv => whnf)
    | (refine br_f rfl ?_; conv => whnf)
    | (refine br_t (by assumption) ?_; conv => whnf)
    | (refine br_f (by assumption) ?_; conv => whnf)
    | (refine br_s (fun hb => ?_) (fun hb => ?_) <;> (try simp only [beq_iff_eq, bne_iff_ne, ne_eq, decide_eq_true_eq, decide_eq_false_iff_not, Int.not_lt, Int.not_le, Bool.false_eq_true, if_false, if_true, beq_eq_false_iff_ne, bne_eq_false_iff_eq, Bool.not_eq_true', Bool.not_eq_false', Int.ofNat_lt, Int.ofNat_le, Int.ofNat_inj, List.length_map, List.length_nil, List.length_cons] at hb) <;> conv => whnf)
    | (refine lend_s ?_; conv => whnf)
    
    | (refine sh_s ?_; rfl))
theorem wrap_cell {n : Int} (h1 : -9223372036854775808 ≤ n) (h2 : n ≤ 9223372036854775807) : (IntKind.i64.wrap (IntKind.i32.wrap n) == n) = cell n := by
  have h3 : -2147483648 ≤ IntKind.i32.wrap n ∧ IntKind.i32.wrap n ≤ 2147483647 := by
    simp [IntKind.wrap, IntKind.signed, IntKind.bits]
    omega
  rw [wrap64 (by omega) (by omega)]
  by_cases h : -2147483648 ≤ n ∧ n ≤ 2147483647
  · rw [wrap32 h.1 h.2]
    simp [cell, inR, h.1, h.2]
  · have : IntKind.i32.wrap n ≠ n := fun e => by rw [e] at h3; exact h h3
    have h5 : cell n = false := by simp [cell, inR]; omega
    rw [h5]
    simpa using this
theorem c42 (n : Int) : Con Try.prog 42 [.int .i64 n] (undefs [.int .i64 n]) (.bool (cell n)) := by
  refine Con.evF 7 T_ok mix Try.func42 rfl rfl rfl rfl [.tmp 2] rfl fun ⟨h, _⟩ => ?_
  have h := facts_int h
  conv => whnf
  repeat' (first
    | (refine rq_s (by first | rfl | (refine and_s rfl ?_; simp only [decide_eq_true_eq, List.length_map]; omega) | (simp only [Bool.and_eq_true, decide_eq_true_eq, List.length_map]; omega) | (simp; done) | (simp; omega) ) ?_; conv => whnf)
    | (refine aft_s (by first | rfl | (simp [AV.rowsN, List.length_map, mkB_len, mkI_len, mkD_len]; done)) rfl ?_; conv => whnf)
    | (refine nil_s (fun hz => ?_) ?_ <;> conv => whnf)
    | (refine row_s (by first | rfl) ?_; conv => whnf)
    | (refine rows_s (by first | (refine sub_all ?_; simp [List.length_map, mkB_len, mkI_len, mkD_len]; done) | exact sub_map _ _ _ _ | rfl) ?_; conv => whnf)
    | (refine fac_s (fun hf => ?_); conv => whnf)
    | (refine ChkS.mk (by kernel_rfl) ?_; conv => whnf)
    | (refine br_t rfl ?_; conv => whnf)
    | (refine br_f rfl ?_; conv => whnf)
    | (refine br_t (by assumption) ?_; conv => whnf)
    | (refine br_f (by assumption) ?_; conv => whnf)
    | (refine br_s (fun hb => ?_) (fun hb => ?_) <;> (try simp only [beq_iff_eq, bne_iff_ne, ne_eq, decide_eq_true_eq, decide_eq_false_iff_not, Int.not_lt, Int.not_le, Bool.false_eq_true, if_false, if_true, beq_eq_false_iff_ne, bne_eq_false_iff_eq, Bool.not_eq_true', Bool.not_eq_false', Int.ofNat_lt, Int.ofNat_le, Int.ofNat_inj, List.length_map, List.length_nil, List.length_cons] at hb) <;> conv => whnf)
    | (refine lend_s ?_; conv => whnf)
    | ((first | refine call_s (c67 ..) ?_); conv => whnf)
    | (refine sh_s ?_; (rw [← wrap_cell h.1 h.2])))
def dealOK (d : Deal) : Bool := inR d.c 0 3 && cell d.a && cell d.b && cell d.r
theorem c74 (d : Deal) : Con Try.prog 74 [dealV d] (undefs [dealV d]) (.bool (dealOK d)) := by
  refine Con.ev 21 T_ok mix Try.func74 rfl rfl rfl rfl [.tmp 2] rfl ?_
  conv => whnf
  repeat' (first
    | (refine rq_s (by first | rfl | (refine and_s rfl ?_; simp only [decide_eq_true_eq, List.length_map]; omega) | (simp only [Bool.and_eq_true, decide_eq_true_eq, List.length_map]; omega) | (simp; done) | (simp; omega) ) ?_; conv => whnf)
    | (refine aft_s (by first | rfl | (simp [AV.rowsN, List.length_map, mkB_len, mkI_len, mkD_len]; done)) rfl ?_; conv => whnf)
    | (refine nil_s (fun hz => ?_) ?_ <;> conv => whnf)
    | (refine row_s (by first | rfl) ?_; conv => whnf)
    | (refine rows_s (by first | (refine sub_all ?_; simp [List.length_map, mkB_len, mkI_len, mkD_len]; done) | exact sub_map _ _ _ _ | rfl) ?_; conv => whnf)
    | (refine fac_s (fun hf => ?_); conv => whnf)
    | (refine ChkS.mk (by kernel_rfl) ?_; conv => whnf)
    | (refine br_t rfl ?_; conv => whnf)
    | (refine br_f rfl ?_; conv => whnf)
    | (refine br_t (by assumption) ?_; conv => whnf)
    | (refine br_f (by assumption) ?_; conv => whnf)
    | (refine br_s (fun hb => ?_) (fun hb => ?_) <;> (try simp only [beq_iff_eq, bne_iff_ne, ne_eq, decide_eq_true_eq, decide_eq_false_iff_not, Int.not_lt, Int.not_le, Bool.false_eq_true, if_false, if_true, beq_eq_false_iff_ne, bne_eq_false_iff_eq, Bool.not_eq_true', Bool.not_eq_false', Int.ofNat_lt, Int.ofNat_le, Int.ofNat_inj, List.length_map, List.length_nil, List.length_cons] at hb) <;> conv => whnf)
    | (refine lend_s ?_; conv => whnf)
    | ((first | refine call_s (c38 ..) ?_ | refine call_s (c39 ..) ?_); conv => whnf)
    | (refine sh_s ?_; first | (simp_all [dealOK]; done) | (simp_all [dealOK]; rfl)))
theorem c80 (d : Deal) : Con Try.prog 80 [dealV d] (undefs [dealV d]) (.bool (dealOK d)) := by
  refine Con.ev 21 T_ok mix Try.func80 rfl rfl rfl rfl [.tmp 2] rfl ?_
  conv => whnf
  repeat' (first
    | (refine rq_s (by first | rfl | (refine and_s rfl ?_; simp only [decide_eq_true_eq, List.length_map]; omega) | (simp only [Bool.and_eq_true, decide_eq_true_eq, List.length_map]; omega) | (simp; done) | (simp; omega) ) ?_; conv => whnf)
    | (refine aft_s (by first | rfl | (simp [AV.rowsN, List.length_map, mkB_len, mkI_len, mkD_len]; done)) rfl ?_; conv => whnf)
    | (refine nil_s (fun hz => ?_) ?_ <;> conv => whnf)
    | (refine row_s (by first | rfl) ?_; conv => whnf)
    | (refine rows_s (by first | (refine sub_all ?_; simp [List.length_map, mkB_len, mkI_len, mkD_len]; done) | exact sub_map _ _ _ _ | rfl) ?_; conv => whnf)
    | (refine fac_s (fun hf => ?_); conv => whnf)
    | (refine ChkS.mk (by kernel_rfl) ?_; conv => whnf)
    | (refine br_t rfl ?_; conv => whnf)
    | (refine br_f rfl ?_; conv => whnf)
    | (refine br_t (by assumption) ?_; conv => whnf)
    | (refine br_f (by assumption) ?_; conv => whnf)
    | (refine br_s (fun hb => ?_) (fun hb => ?_) <;> (try simp only [beq_iff_eq, bne_iff_ne, ne_eq, decide_eq_true_eq, decide_eq_false_iff_not, Int.not_lt, Int.not_le, Bool.false_eq_true, if_false, if_true, beq_eq_false_iff_ne, bne_eq_false_iff_eq, Bool.not_eq_true', Bool.not_eq_false', Int.ofNat_lt, Int.ofNat_le, Int.ofNat_inj, List.length_map, List.length_nil, List.length_cons] at hb) <;> conv => whnf)
    | (refine lend_s ?_; conv => whnf)
    | ((first | refine call_s (c40 ..) ?_ | refine call_s (c42 ..) ?_); conv => whnf)
    | (refine sh_s ?_; first | (simp_all [dealOK]; done) | (simp_all [dealOK]; rfl)))
def badDeal (d : Deal) : Bool := !dealOK d
def badCell (n : Int) : Bool := !cell n
theorem c79 (d : Deal) : Con Try.prog 79 [dealV d] (undefs [dealV d]) (.bool (badDeal d)) := by
  refine Con.ev 6 T_ok mix Try.func79 rfl rfl rfl rfl [.tmp 2] rfl ?_
  conv => whnf
  repeat' (first
    | (refine rq_s (by first | rfl | (refine and_s rfl ?_; simp only [decide_eq_true_eq, List.length_map]; omega) | (simp only [Bool.and_eq_true, decide_eq_true_eq, List.length_map]; omega) | (simp; done) | (simp; omega) ) ?_; conv => whnf)
    | (refine aft_s (by first | rfl | (simp [AV.rowsN, List.length_map, mkB_len, mkI_len, mkD_len]; done)) rfl ?_; conv => whnf)
    | (refine nil_s (fun hz => ?_) ?_ <;> conv => whnf)
    | (refine row_s (by first | rfl) ?_; conv => whnf)
    | (refine rows_s (by first | (refine sub_all ?_; simp [List.length_map, mkB_len, mkI_len, mkD_len]; done) | exact sub_map _ _ _ _ | rfl) ?_; conv => whnf)
    | (refine fac_s (fun hf => ?_); conv => whnf)
    | (refine ChkS.mk (by kernel_rfl) ?_; conv => whnf)
    | (refine br_t rfl ?_; conv => whnf)
    | (refine br_f rfl ?_; conv => whnf)
    | (refine br_t (by assumption) ?_; conv => whnf)
    | (refine br_f (by assumption) ?_; conv => whnf)
    | (refine br_s (fun hb => ?_) (fun hb => ?_) <;> (try simp only [beq_iff_eq, bne_iff_ne, ne_eq, decide_eq_true_eq, decide_eq_false_iff_not, Int.not_lt, Int.not_le, Bool.false_eq_true, if_false, if_true, beq_eq_false_iff_ne, bne_eq_false_iff_eq, Bool.not_eq_true', Bool.not_eq_false', Int.ofNat_lt, Int.ofNat_le, Int.ofNat_inj, List.length_map, List.length_nil, List.length_cons] at hb) <;> conv => whnf)
    | (refine lend_s ?_; conv => whnf)
    | ((first | refine call_s (c80 ..) ?_); conv => whnf)
    | (refine sh_s ?_; rfl))
theorem c90 (n : Int) : Con Try.prog 90 [.int .i64 n] (undefs [.int .i64 n]) (.bool (badCell n)) := by
  refine Con.ev 6 T_ok mix Try.func90 rfl rfl rfl rfl [.tmp 2] rfl ?_
  conv => whnf
  repeat' (first
    | (refine rq_s (by first | rfl | (refine and_s rfl ?_; simp only [decide_eq_true_eq, List.length_map]; omega) | (simp only [Bool.and_eq_true, decide_eq_true_eq, List.length_map]; omega) | (simp; done) | (simp; omega) ) ?_; conv => whnf)
    | (refine aft_s (by first | rfl | (simp [AV.rowsN, List.length_map, mkB_len, mkI_len, mkD_len]; done)) rfl ?_; conv => whnf)
    | (refine nil_s (fun hz => ?_) ?_ <;> conv => whnf)
    | (refine row_s (by first | rfl) ?_; conv => whnf)
    | (refine rows_s (by first | (refine sub_all ?_; simp [List.length_map, mkB_len, mkI_len, mkD_len]; done) | exact sub_map _ _ _ _ | rfl) ?_; conv => whnf)
    | (refine fac_s (fun hf => ?_); conv => whnf)
    | (refine ChkS.mk (by kernel_rfl) ?_; conv => whnf)
    | (refine br_t rfl ?_; conv => whnf)
    | (refine br_f rfl ?_; conv => whnf)
    | (refine br_t (by assumption) ?_; conv => whnf)
    | (refine br_f (by assumption) ?_; conv => whnf)
    | (refine br_s (fun hb => ?_) (fun hb => ?_) <;> (try simp only [beq_iff_eq, bne_iff_ne, ne_eq, decide_eq_true_eq, decide_eq_false_iff_not, Int.not_lt, Int.not_le, Bool.false_eq_true, if_false, if_true, beq_eq_false_iff_ne, bne_eq_false_iff_eq, Bool.not_eq_true', Bool.not_eq_false', Int.ofNat_lt, Int.ofNat_le, Int.ofNat_inj, List.length_map, List.length_nil, List.length_cons] at hb) <;> conv => whnf)
    | (refine lend_s ?_; conv => whnf)
    | ((first | refine call_s (c42 ..) ?_); conv => whnf)
    | (refine sh_s ?_; rfl))

theorem c91 (rs : List (Deal)) : Con Try.prog 91 [roD rs, .fn 79 []] (undefs [roD rs, .fn 79 []]) (.int .i64 (findI badDeal rs)) := by
  refine Con.evF 19 T_ok mix Try.func91 rfl rfl rfl rfl [.tmp 4] rfl fun ⟨hx, _⟩ => ?_
  have hx := facts_len hx
  conv => whnf
  repeat' (first
    | (refine rq_s (by first | rfl | (refine and_s rfl ?_; simp only [decide_eq_true_eq, List.length_map]; omega) | (simp only [Bool.and_eq_true, decide_eq_true_eq, List.length_map]; omega) | (simp; done) | (simp; omega) ) ?_; conv => whnf)
    | (refine aft_s (by first | rfl | (simp [AV.rowsN, List.length_map, mkB_len, mkI_len, mkD_len]; done)) rfl ?_; conv => whnf)
    | (refine nil_s (fun hz => ?_) ?_ <;> conv => whnf)
    | (refine row_s (by first | (try simp only [Int.toNat_natCast]); exact row_map dealR _ _ _ default (by first | omega | (simp; omega))) ?_; conv => whnf)
    | (refine rows_s (by first | (refine sub_all ?_; simp [List.length_map, mkB_len, mkI_len, mkD_len]; done) | exact sub_map _ _ _ _ | rfl) ?_; conv => whnf)
    | (refine fac_s (fun hf => ?_); conv => whnf)
    | (refine ChkS.mk (by kernel_rfl) ?_; conv => whnf)
    | (refine br_t rfl ?_; conv => whnf)
    | (refine br_f rfl ?_; conv => whnf)
    | (refine br_t (by assumption) ?_; conv => whnf)
    | (refine br_f (by assumption) ?_; conv => whnf)
    | (refine br_s (fun hb => ?_) (fun hb => ?_) <;> (try simp only [beq_iff_eq, bne_iff_ne, ne_eq, decide_eq_true_eq, decide_eq_false_iff_not, Int.not_lt, Int.not_le, Bool.false_eq_true, if_false, if_true, beq_eq_false_iff_ne, bne_eq_false_iff_eq, Bool.not_eq_true', Bool.not_eq_false', Int.ofNat_lt, Int.ofNat_le, Int.ofNat_inj, List.length_map, List.length_nil, List.length_cons] at hb) <;> conv => whnf)
    | (refine lend_s ?_; conv => whnf)
    
    )
  refine LoopG.rounds (α := Nat) T_ok mix [0, 1, 7, 8] [] (fun i => [(0, roD rs), (1, .fn 79 []), (7, .int .i64 rs.length), (8, .int .i64 i)]) (fun _ => []) (fun i => i ≤ rs.length ∧ ∀ j, j < i → badDeal (rs.getD j default) = false) (fun i => rs.length - i) ?_ ?_
  · conv => whnf
    exact head_s 0 ⟨by simp, fun j hj => by omega⟩ (by simp [roD]) rfl
  · rintro i ⟨h1, h2⟩ - -
    conv => whnf
    repeat' (first
    | (refine rq_s (by first | rfl | (refine and_s rfl ?_; simp only [decide_eq_true_eq, List.length_map]; omega) | (simp only [Bool.and_eq_true, decide_eq_true_eq, List.length_map]; omega) | (simp; done) | (simp; omega) ) ?_; conv => whnf)
    | (refine aft_s (by first | rfl | (simp [AV.rowsN, List.length_map, mkB_len, mkI_len, mkD_len]; done)) rfl ?_; conv => whnf)
    | (refine nil_s (fun hz => ?_) ?_ <;> conv => whnf)
    | (refine row_s (by first | (try simp only [Int.toNat_natCast]); exact row_map dealR _ _ _ default (by first | omega | (simp; omega))) ?_; conv => whnf)
    | (refine rows_s (by first | (refine sub_all ?_; simp [List.length_map, mkB_len, mkI_len, mkD_len]; done) | exact sub_map _ _ _ _ | rfl) ?_; conv => whnf)
    | (refine fac_s (fun hf => ?_); conv => whnf)
    | (refine ChkS.mk (by kernel_rfl) ?_; conv => whnf)
    | (refine br_t rfl ?_; conv => whnf)
    | (refine br_f rfl ?_; conv => whnf)
    | (refine br_t (by assumption) ?_; conv => whnf)
    | (refine br_f (by assumption) ?_; conv => whnf)
    | (refine br_s (fun hb => ?_) (fun hb => ?_) <;> (try simp only [beq_iff_eq, bne_iff_ne, ne_eq, decide_eq_true_eq, decide_eq_false_iff_not, Int.not_lt, Int.not_le, Bool.false_eq_true, if_false, if_true, beq_eq_false_iff_ne, bne_eq_false_iff_eq, Bool.not_eq_true', Bool.not_eq_false', Int.ofNat_lt, Int.ofNat_le, Int.ofNat_inj, List.length_map, List.length_nil, List.length_cons] at hb) <;> conv => whnf)
    | (refine lend_s ?_; conv => whnf)
    | ((first | refine call_s (c79 ..) ?_); conv => whnf)
    )
    · refine sh_s ?_
      rw [findI_hit default (by assumption) hb h2]
    · refine head_s (i + 1) ⟨⟨by omega, fun j hj => ?_⟩, by omega⟩ (by rw [wrap64 (by omega) (by omega)]; rfl) rfl
      by_cases hji : j = i
      · subst hji; exact hb
      · exact h2 j (by omega)
    · refine sh_s ?_
      rw [findI_none default fun j hj => h2 j (by omega)]
theorem c78 (rs : List (Deal)) : Con Try.prog 78 [roD rs, .fn 79 []] (undefs [roD rs, .fn 79 []]) (.bool (rs.any badDeal)) := by
  refine Con.ev 9 T_ok mix Try.func78 rfl rfl rfl rfl [.tmp 4] rfl ?_
  conv => whnf
  repeat' (first
    | (refine rq_s (by first | rfl | (refine and_s rfl ?_; simp only [decide_eq_true_eq, List.length_map]; omega) | (simp only [Bool.and_eq_true, decide_eq_true_eq, List.length_map]; omega) | (simp; done) | (simp; omega) ) ?_; conv => whnf)
    | (refine aft_s (by first | rfl | (simp [AV.rowsN, List.length_map, mkB_len, mkI_len, mkD_len]; done)) rfl ?_; conv => whnf)
    | (refine nil_s (fun hz => ?_) ?_ <;> conv => whnf)
    | (refine row_s (by first | (try simp only [Int.toNat_natCast]); exact row_map dealR _ _ _ default (by first | omega | (simp; omega))) ?_; conv => whnf)
    | (refine rows_s (by first | (refine sub_all ?_; simp [List.length_map, mkB_len, mkI_len, mkD_len]; done) | exact sub_map _ _ _ _ | rfl) ?_; conv => whnf)
    | (refine fac_s (fun hf => ?_); conv => whnf)
    | (refine ChkS.mk (by kernel_rfl) ?_; conv => whnf)
    | (refine br_t rfl ?_; conv => whnf)
    | (refine br_f rfl ?_; conv => whnf)
    | (refine br_t (by assumption) ?_; conv => whnf)
    | (refine br_f (by assumption) ?_; conv => whnf)
    | (refine br_s (fun hb => ?_) (fun hb => ?_) <;> (try simp only [beq_iff_eq, bne_iff_ne, ne_eq, decide_eq_true_eq, decide_eq_false_iff_not, Int.not_lt, Int.not_le, Bool.false_eq_true, if_false, if_true, beq_eq_false_iff_ne, bne_eq_false_iff_eq, Bool.not_eq_true', Bool.not_eq_false', Int.ofNat_lt, Int.ofNat_le, Int.ofNat_inj, List.length_map, List.length_nil, List.length_cons] at hb) <;> conv => whnf)
    | (refine lend_s ?_; conv => whnf)
    | ((first | refine call_s (c91 ..) ?_); conv => whnf)
    | (refine sh_s ?_; (rw [← findI_any])))

theorem c93 (rs : List (Int)) : Con Try.prog 93 [roI rs, .fn 90 []] (undefs [roI rs, .fn 90 []]) (.int .i64 (findI badCell rs)) := by
  refine Con.evF 19 T_ok mix Try.func93 rfl rfl rfl rfl [.tmp 4] rfl fun ⟨hx, _⟩ => ?_
  have hx := facts_len hx
  conv => whnf
  repeat' (first
    | (refine rq_s (by first | rfl | (refine and_s rfl ?_; simp only [decide_eq_true_eq, List.length_map]; omega) | (simp only [Bool.and_eq_true, decide_eq_true_eq, List.length_map]; omega) | (simp; done) | (simp; omega) ) ?_; conv => whnf)
    | (refine aft_s (by first | rfl | (simp [AV.rowsN, List.length_map, mkB_len, mkI_len, mkD_len]; done)) rfl ?_; conv => whnf)
    | (refine nil_s (fun hz => ?_) ?_ <;> conv => whnf)
    | (refine row_s (by first | (try simp only [Int.toNat_natCast]); exact row_map intR _ _ _ default (by first | omega | (simp; omega))) ?_; conv => whnf)
    | (refine rows_s (by first | (refine sub_all ?_; simp [List.length_map, mkB_len, mkI_len, mkD_len]; done) | exact sub_map _ _ _ _ | rfl) ?_; conv => whnf)
    | (refine fac_s (fun hf => ?_); conv => whnf)
    | (refine ChkS.mk (by kernel_rfl) ?_; conv => whnf)
    | (refine br_t rfl ?_; conv => whnf)
    | (refine br_f rfl ?_; conv => whnf)
    | (refine br_t (by assumption) ?_; conv => whnf)
    | (refine br_f (by assumption) ?_; conv => whnf)
    | (refine br_s (fun hb => ?_) (fun hb => ?_) <;> (try simp only [beq_iff_eq, bne_iff_ne, ne_eq, decide_eq_true_eq, decide_eq_false_iff_not, Int.not_lt, Int.not_le, Bool.false_eq_true, if_false, if_true, beq_eq_false_iff_ne, bne_eq_false_iff_eq, Bool.not_eq_true', Bool.not_eq_false', Int.ofNat_lt, Int.ofNat_le, Int.ofNat_inj, List.length_map, List.length_nil, List.length_cons] at hb) <;> conv => whnf)
    | (refine lend_s ?_; conv => whnf)
    
    )
  refine LoopG.rounds (α := Nat) T_ok mix [0, 1, 7, 8] [] (fun i => [(0, roI rs), (1, .fn 90 []), (7, .int .i64 rs.length), (8, .int .i64 i)]) (fun _ => []) (fun i => i ≤ rs.length ∧ ∀ j, j < i → badCell (rs.getD j default) = false) (fun i => rs.length - i) ?_ ?_
  · conv => whnf
    exact head_s 0 ⟨by simp, fun j hj => by omega⟩ (by simp [roI]) rfl
  · rintro i ⟨h1, h2⟩ - -
    conv => whnf
    repeat' (first
    | (refine rq_s (by first | rfl | (refine and_s rfl ?_; simp only [decide_eq_true_eq, List.length_map]; omega) | (simp only [Bool.and_eq_true, decide_eq_true_eq, List.length_map]; omega) | (simp; done) | (simp; omega) ) ?_; conv => whnf)
    | (refine aft_s (by first | rfl | (simp [AV.rowsN, List.length_map, mkB_len, mkI_len, mkD_len]; done)) rfl ?_; conv => whnf)
    | (refine nil_s (fun hz => ?_) ?_ <;> conv => whnf)
    | (refine row_s (by first | (try simp only [Int.toNat_natCast]); exact row_map intR _ _ _ default (by first | omega | (simp; omega))) ?_; conv => whnf)
    | (refine rows_s (by first | (refine sub_all ?_; simp [List.length_map, mkB_len, mkI_len, mkD_len]; done) | exact sub_map _ _ _ _ | rfl) ?_; conv => whnf)
    | (refine fac_s (fun hf => ?_); conv => whnf)
    | (refine ChkS.mk (by kernel_rfl) ?_; conv => whnf)
    | (refine br_t rfl ?_; conv => whnf)
    | (refine br_f rfl ?_; conv => whnf)
    | (refine br_t (by assumption) ?_; conv => whnf)
    | (refine br_f (by assumption) ?_; conv => whnf)
    | (refine br_s (fun hb => ?_) (fun hb => ?_) <;> (try simp only [beq_iff_eq, bne_iff_ne, ne_eq, decide_eq_true_eq, decide_eq_false_iff_not, Int.not_lt, Int.not_le, Bool.false_eq_true, if_false, if_true, beq_eq_false_iff_ne, bne_eq_false_iff_eq, Bool.not_eq_true', Bool.not_eq_false', Int.ofNat_lt, Int.ofNat_le, Int.ofNat_inj, List.length_map, List.length_nil, List.length_cons] at hb) <;> conv => whnf)
    | (refine lend_s ?_; conv => whnf)
    | ((first | refine call_s (c90 ..) ?_); conv => whnf)
    )
    · refine sh_s ?_
      rw [findI_hit default (by assumption) hb h2]
    · refine head_s (i + 1) ⟨⟨by omega, fun j hj => ?_⟩, by omega⟩ (by rw [wrap64 (by omega) (by omega)]; rfl) rfl
      by_cases hji : j = i
      · subst hji; exact hb
      · exact h2 j (by omega)
    · refine sh_s ?_
      rw [findI_none default fun j hj => h2 j (by omega)]
theorem c89 (rs : List (Int)) : Con Try.prog 89 [roI rs, .fn 90 []] (undefs [roI rs, .fn 90 []]) (.bool (rs.any badCell)) := by
  refine Con.ev 9 T_ok mix Try.func89 rfl rfl rfl rfl [.tmp 4] rfl ?_
  conv => whnf
  repeat' (first
    | (refine rq_s (by first | rfl | (refine and_s rfl ?_; simp only [decide_eq_true_eq, List.length_map]; omega) | (simp only [Bool.and_eq_true, decide_eq_true_eq, List.length_map]; omega) | (simp; done) | (simp; omega) ) ?_; conv => whnf)
    | (refine aft_s (by first | rfl | (simp [AV.rowsN, List.length_map, mkB_len, mkI_len, mkD_len]; done)) rfl ?_; conv => whnf)
    | (refine nil_s (fun hz => ?_) ?_ <;> conv => whnf)
    | (refine row_s (by first | (try simp only [Int.toNat_natCast]); exact row_map intR _ _ _ default (by first | omega | (simp; omega))) ?_; conv => whnf)
    | (refine rows_s (by first | (refine sub_all ?_; simp [List.length_map, mkB_len, mkI_len, mkD_len]; done) | exact sub_map _ _ _ _ | rfl) ?_; conv => whnf)
    | (refine fac_s (fun hf => ?_); conv => whnf)
    | (refine ChkS.mk (by kernel_rfl) ?_; conv => whnf)
    | (refine br_t rfl ?_; conv => whnf)
    | (refine br_f rfl ?_; conv => whnf)
    | (refine br_t (by assumption) ?_; conv => whnf)
    | (refine br_f (by assumption) ?_; conv => whnf)
    | (refine br_s (fun hb => ?_) (fun hb => ?_) <;> (try simp only [beq_iff_eq, bne_iff_ne, ne_eq, decide_eq_true_eq, decide_eq_false_iff_not, Int.not_lt, Int.not_le, Bool.false_eq_true, if_false, if_true, beq_eq_false_iff_ne, bne_eq_false_iff_eq, Bool.not_eq_true', Bool.not_eq_false', Int.ofNat_lt, Int.ofNat_le, Int.ofNat_inj, List.length_map, List.length_nil, List.length_cons] at hb) <;> conv => whnf)
    | (refine lend_s ?_; conv => whnf)
    | ((first | refine call_s (c93 ..) ?_); conv => whnf)
    | (refine sh_s ?_; (rw [← findI_any])))
def cellsBad (xs : List Int) : Bool := xs.any badCell
def dealsBad (xs : List Deal) : Bool := xs.any badDeal
theorem c89b (xs : List Int) : Con Try.prog 89 [roI xs, .fn 90 []] (undefs [roI xs, .fn 90 []]) (.bool (cellsBad xs)) := c89 xs
theorem c78b (xs : List Deal) : Con Try.prog 78 [roD xs, .fn 79 []] (undefs [roD xs, .fn 79 []]) (.bool (dealsBad xs)) := c78 xs
theorem c77 (xs : List Int) (n : Int) : Con Try.prog 77 [roI xs, .int .i64 n] (undefs [roI xs, .int .i64 n]) (.bool (decide ((xs.length : Int) ≤ n) && !cellsBad xs)) := by
  refine Con.ev 14 T_ok mix Try.func77 rfl rfl rfl rfl [.tmp 4] rfl ?_
  conv => whnf
  repeat' (first
    | (refine rq_s (by first | rfl | (refine and_s rfl ?_; simp only [decide_eq_true_eq, List.length_map]; omega) | (simp only [Bool.and_eq_true, decide_eq_true_eq, List.length_map]; omega) | (simp; done) | (simp; omega) ) ?_; conv => whnf)
    | (refine aft_s (by first | rfl | (simp [AV.rowsN, List.length_map, mkB_len, mkI_len, mkD_len]; done)) rfl ?_; conv => whnf)
    | (refine nil_s (fun hz => ?_) ?_ <;> conv => whnf)
    | (refine row_s (by first | (try simp only [Int.toNat_natCast]); exact row_map intR _ _ _ default (by first | omega | (simp; omega))) ?_; conv => whnf)
    | (refine rows_s (by first | (refine sub_all ?_; simp [List.length_map, mkB_len, mkI_len, mkD_len]; done) | exact sub_map _ _ _ _ | rfl) ?_; conv => whnf)
    | (refine fac_s (fun hf => ?_); conv => whnf)
    | (refine ChkS.mk (by kernel_rfl) ?_; conv => whnf)
    | (refine br_t rfl ?_; conv => whnf)
    | (refine br_f rfl ?_; conv => whnf)
    | (refine br_t (by assumption) ?_; conv => whnf)
    | (refine br_f (by assumption) ?_; conv => whnf)
    | (refine br_s (fun hb => ?_) (fun hb => ?_) <;> (try simp only [beq_iff_eq, bne_iff_ne, ne_eq, decide_eq_true_eq, decide_eq_false_iff_not, Int.not_lt, Int.not_le, Bool.false_eq_true, if_false, if_true, beq_eq_false_iff_ne, bne_eq_false_iff_eq, Bool.not_eq_true', Bool.not_eq_false', Int.ofNat_lt, Int.ofNat_le, Int.ofNat_inj, List.length_map, List.length_nil, List.length_cons] at hb) <;> conv => whnf)
    | (refine lend_s ?_; conv => whnf)
    | ((first | refine call_s (c89b ..) ?_); conv => whnf)
    | (refine sh_s ?_; first | (simp_all; done) | (simp_all; omega)))
theorem c76 (xs : List Int) : Con Try.prog 76 [roI xs] (undefs [roI xs]) (.bool (decide (xs.length = 8) && !cellsBad xs)) := by
  refine Con.ev 10 T_ok mix Try.func76 rfl rfl rfl rfl [.tmp 2] rfl ?_
  conv => whnf
  repeat' (first
    | (refine rq_s (by first | rfl | (refine and_s rfl ?_; simp only [decide_eq_true_eq, List.length_map]; omega) | (simp only [Bool.and_eq_true, decide_eq_true_eq, List.length_map]; omega) | (simp; done) | (simp; omega) ) ?_; conv => whnf)
    | (refine aft_s (by first | rfl | (simp [AV.rowsN, List.length_map, mkB_len, mkI_len, mkD_len]; done)) rfl ?_; conv => whnf)
    | (refine nil_s (fun hz => ?_) ?_ <;> conv => whnf)
    | (refine row_s (by first | (try simp only [Int.toNat_natCast]); exact row_map intR _ _ _ default (by first | omega | (simp; omega))) ?_; conv => whnf)
    | (refine rows_s (by first | (refine sub_all ?_; simp [List.length_map, mkB_len, mkI_len, mkD_len]; done) | exact sub_map _ _ _ _ | rfl) ?_; conv => whnf)
    | (refine fac_s (fun hf => ?_); conv => whnf)
    | (refine ChkS.mk (by kernel_rfl) ?_; conv => whnf)
    | (refine br_t rfl ?_; conv => whnf)
    | (refine br_f rfl ?_; conv => whnf)
    | (refine br_t (by assumption) ?_; conv => whnf)
    | (refine br_f (by assumption) ?_; conv => whnf)
    | (refine br_s (fun hb => ?_) (fun hb => ?_) <;> (try simp only [beq_iff_eq, bne_iff_ne, ne_eq, decide_eq_true_eq, decide_eq_false_iff_not, Int.not_lt, Int.not_le, Bool.false_eq_true, if_false, if_true, beq_eq_false_iff_ne, bne_eq_false_iff_eq, Bool.not_eq_true', Bool.not_eq_false', Int.ofNat_lt, Int.ofNat_le, Int.ofNat_inj, List.length_map, List.length_nil, List.length_cons] at hb) <;> conv => whnf)
    | (refine lend_s ?_; conv => whnf)
    | ((first | refine call_s (c77 ..) ?_); conv => whnf)
    | (refine sh_s ?_; first | (simp_all; done) | (simp_all; omega)))
end U13
