import Derived.Test.YtdbjklhadnnbdaaDoorHlC
import Derived.Test.YtdbjklhadnnbdaaDoorAbs6
/- HostLines: both functions; the law. -/
set_option linter.unusedVariables false
set_option linter.unusedSimpArgs false
set_option maxRecDepth 100000
open Go Go.Abs Go.Proofs V1 H1 D2 D3 D4
namespace D5

def hlF (h : Hst) : List (List UInt8) × Int := if hostOK h = true then (hostT h, 0) else ([], 1)
def hlV (r : List (List UInt8) × Int) : AV := .tup [ownS r.1, .int .i64 r.2]
theorem hl_sh : Sh (.tup [.emp, .int .i64 1]) (hlV ([], 1)) := Sh.tup ⟨Sh.emp_own _ _, Sh.refl _, trivial⟩
theorem c17 (h : Hst) : Con Tryd.prog 17 [hstV h] (undefs [hstV h]) (hlV (hlF h)) := by
  unfold hlF
  by_cases ok : hostOK h = true
  · rw [if_pos ok]
    refine Con.ev 9 T_ok mix Tryd.func17 rfl rfl rfl rfl [.tmp 2, .tmp 3] rfl ?_
    conv => whnf
    iterate 6 (refine rq_s (by (rfl)) ?_; conv => whnf)
    (refine lend_s ?_; conv => whnf)
    iterate 4 (refine rows_s (by (rfl)) ?_; conv => whnf)
    (refine call_s (c59 ..) ?_; conv => whnf)
    (refine br_s (fun hb => ?_) (fun hb => ?_) <;> (try simp only [beq_iff_eq, bne_iff_ne, ne_eq, decide_eq_true_eq, decide_eq_false_iff_not, Int.not_lt, Int.not_le, Bool.false_eq_true, if_false, if_true, beq_eq_false_iff_ne, bne_eq_false_iff_eq, Bool.not_eq_true', Bool.not_eq_false', Int.ofNat_lt, Int.ofNat_le, Int.ofNat_inj, List.length_map, List.length_nil, List.length_cons] at hb) <;> conv => whnf)
    iterate 2 (refine rq_s (by (rfl)) ?_; conv => whnf)
    rotate_left
    iterate 5 (refine rq_s (by (rfl)) ?_; conv => whnf)
    (refine lend_s ?_; conv => whnf)
    iterate 4 (refine rows_s (by (rfl)) ?_; conv => whnf)
    (refine call_s (c60 _ ((hostOK_iff h).1 ok)) ?_; conv => whnf)
    (refine fac_s (fun hf => ?_); conv => whnf)
    (refine rq_s (by ((simp only [decide_eq_true_eq, List.length_map, mkS_len, setRow_len, mkHost, ownI, ownB, ownD, ownS]; done))) ?_; conv => whnf)
    iterate 2 (refine rq_s (by (rfl)) ?_; conv => whnf)
    (refine rows_s (by ((refine sub_all ?_; simp [List.length_map, mkS_len, setRow_len, mkHost, ownI, ownB, ownD, ownS]; done))) ?_; conv => whnf)
    rotate_left
    · simp_all
    · exact ⟨Sh.refl _⟩
  · rw [if_neg ok]
    refine Con.ev 9 T_ok mix Tryd.func17 rfl rfl rfl rfl [.tmp 2, .tmp 3] rfl ?_
    conv => whnf
    iterate 6 (refine rq_s (by (rfl)) ?_; conv => whnf)
    (refine lend_s ?_; conv => whnf)
    iterate 4 (refine rows_s (by (rfl)) ?_; conv => whnf)
    (refine call_s (c59 ..) ?_; conv => whnf)
    (refine br_s (fun hb => ?_) (fun hb => ?_) <;> (try simp only [beq_iff_eq, bne_iff_ne, ne_eq, decide_eq_true_eq, decide_eq_false_iff_not, Int.not_lt, Int.not_le, Bool.false_eq_true, if_false, if_true, beq_eq_false_iff_ne, bne_eq_false_iff_eq, Bool.not_eq_true', Bool.not_eq_false', Int.ofNat_lt, Int.ofNat_le, Int.ofNat_inj, List.length_map, List.length_nil, List.length_cons] at hb) <;> conv => whnf)
    iterate 2 (refine rq_s (by (rfl)) ?_; conv => whnf)
    rotate_left
    iterate 5 (refine rq_s (by (rfl)) ?_; conv => whnf)
    (refine lend_s ?_; conv => whnf)
    iterate 4 (refine rows_s (by (rfl)) ?_; conv => whnf)
    rotate_left
    · exact ⟨hl_sh⟩
    · simp_all
theorem c15 (h : Hst) : Con Tryd.prog 15 [hstV h] (undefs [hstV h]) (hlV (hlF h)) := by
  unfold hlF
  by_cases ok : hostOK h = true
  · rw [if_pos ok]
    refine Con.ev 10 T_ok mix Tryd.func15 rfl rfl rfl rfl [.tmp 2, .tmp 3] rfl ?_
    conv => whnf
    iterate 6 (refine rq_s (by (rfl)) ?_; conv => whnf)
    (refine lend_s ?_; conv => whnf)
    iterate 4 (refine rows_s (by (rfl)) ?_; conv => whnf)
    (refine call_s (c55 ..) ?_; conv => whnf)
    (refine br_s (fun hb => ?_) (fun hb => ?_) <;> (try simp only [beq_iff_eq, bne_iff_ne, ne_eq, decide_eq_true_eq, decide_eq_false_iff_not, Int.not_lt, Int.not_le, Bool.false_eq_true, if_false, if_true, beq_eq_false_iff_ne, bne_eq_false_iff_eq, Bool.not_eq_true', Bool.not_eq_false', Int.ofNat_lt, Int.ofNat_le, Int.ofNat_inj, List.length_map, List.length_nil, List.length_cons] at hb) <;> conv => whnf)
    iterate 3 (refine rq_s (by (rfl)) ?_; conv => whnf)
    rotate_left
    iterate 5 (refine rq_s (by (rfl)) ?_; conv => whnf)
    (refine lend_s ?_; conv => whnf)
    iterate 4 (refine rows_s (by (rfl)) ?_; conv => whnf)
    (refine call_s (c56 _ ((hostOK_iff h).1 ok)) ?_; conv => whnf)
    (refine fac_s (fun hf => ?_); conv => whnf)
    (refine rq_s (by ((simp only [decide_eq_true_eq, List.length_map, mkS_len, setRow_len, mkHost, ownI, ownB, ownD, ownS]; done))) ?_; conv => whnf)
    iterate 2 (refine rq_s (by (rfl)) ?_; conv => whnf)
    (refine rows_s (by ((refine sub_all ?_; simp [List.length_map, mkS_len, setRow_len, mkHost, ownI, ownB, ownD, ownS]; done))) ?_; conv => whnf)
    rotate_left
    · simp_all
    · exact ⟨Sh.refl _⟩
  · rw [if_neg ok]
    refine Con.ev 10 T_ok mix Tryd.func15 rfl rfl rfl rfl [.tmp 2, .tmp 3] rfl ?_
    conv => whnf
    iterate 6 (refine rq_s (by (rfl)) ?_; conv => whnf)
    (refine lend_s ?_; conv => whnf)
    iterate 4 (refine rows_s (by (rfl)) ?_; conv => whnf)
    (refine call_s (c55 ..) ?_; conv => whnf)
    (refine br_s (fun hb => ?_) (fun hb => ?_) <;> (try simp only [beq_iff_eq, bne_iff_ne, ne_eq, decide_eq_true_eq, decide_eq_false_iff_not, Int.not_lt, Int.not_le, Bool.false_eq_true, if_false, if_true, beq_eq_false_iff_ne, bne_eq_false_iff_eq, Bool.not_eq_true', Bool.not_eq_false', Int.ofNat_lt, Int.ofNat_le, Int.ofNat_inj, List.length_map, List.length_nil, List.length_cons] at hb) <;> conv => whnf)
    iterate 3 (refine rq_s (by (rfl)) ?_; conv => whnf)
    rotate_left
    iterate 5 (refine rq_s (by (rfl)) ?_; conv => whnf)
    (refine lend_s ?_; conv => whnf)
    iterate 4 (refine rows_s (by (rfl)) ?_; conv => whnf)
    rotate_left
    · exact ⟨hl_sh⟩
    · simp_all
end D5

/- HostLines: the law. -/
set_option linter.unusedVariables false
set_option linter.unusedSimpArgs false
set_option maxRecDepth 100000
open Go Go.Abs Go.Proofs V1 H1 D2 D3 D4 D5
namespace D6

theorem hl_len (h : Hst) : (hlF h).1.length ≤ 60 := by
  unfold hlF
  split
  · rename_i ok
    have o := (hostOK_iff h).1 ok
    have := o.ds
    have := storeT_len h.st 8
    simp only [hostT, List.length_append, List.length_cons, List.length_nil, List.length_map]
    omega
  · simp
set_option maxHeartbeats 40000000 in
theorem law (h : Hst) : Con Tryd.prog 4 [hstV h] (undefs [hstV h]) (.bool true) := by
  have k1 := c17 h
  have k2 := c15 h
  have k3 := hl_len h
  generalize hlF h = r at k1 k2 k3
  obtain ⟨ls, e⟩ := r
  dsimp only [hlV] at k1 k2 k3
  have eH : ∀ a : Hst, Con Tryd.prog 19 [hstV a, hstV a] (undefs [hstV a, hstV a]) (.bool true) := fun a => by simpa using c19 a a
  have eS : ∀ a : List (List UInt8), Con Tryd.prog 18 [roS a, roS a] (undefs [roS a, roS a]) (.bool true) := fun a => by simpa using c18 a a
  have q1 := c22 (mkS mksS 1 ls.length 1) 1 (by omega) (by rw [mkS_len]; omega)
  rw [heldS_mk] at q1
  refine Con.evFK [(0, [1, 2]), (1, [1, 2, 3]), (2, [1, 2, 3]), (3, [1, 2, 18]), (4, [1, 2]), (5, [1, 2, 4, 5]), (6, [1, 2, 4, 5, 6]), (7, [1, 2, 4, 5, 6, 7, 8]), (8, [1, 2, 4, 5, 6, 7, 8, 40]), (9, [1, 2, 4, 5, 6, 7, 8]), (10, [1, 2, 4, 5, 6, 7, 8, 45]), (11, [1, 2, 4, 5, 6, 7, 8]), (12, [1, 2, 4, 5, 6, 7, 8, 9]), (13, [1, 2, 4, 5, 7, 8, 9]), (14, [1, 2, 4, 5, 7, 61]), (15, [1, 2, 4, 5, 7]), (16, [1, 2, 4, 5, 7, 10]), (17, [1, 2, 4, 5, 7, 10]), (18, [1, 2, 4, 5, 7, 10, 11]), (19, [1, 2, 4, 5, 7, 10, 11]), (20, [1, 2, 4, 5, 7, 10, 11, 69]), (21, [1, 2, 4, 5, 7, 10, 11]), (22, [1, 2, 4, 5, 7, 10, 11, 72]), (23, [1, 2, 4, 5, 7, 10, 11]), (24, [2, 4, 5, 7, 10, 11, 12, 13]), (25, [2, 7, 10, 11, 87]), (26, [2, 7, 10, 11]), (27, [2, 7, 10, 11]), (28, [2, 10, 11]), (29, [2, 10, 11, 92]), (30, [2, 10, 11]), (31, [2, 95]), (32, [2]), (33, [2])] 96 T_ok mix Tryd.func4 rfl rfl rfl rfl [.tmp 2] rfl fun ⟨hx, _⟩ => ?_
  have x1 := facts_len fun d => hx (d + 1) (roB h.gr) (by simp [hstR])
  have x2 := facts_len fun d => hx (d + 1) (roI h.st) (by simp [hstR])
  have x3 := facts_len fun d => hx (d + 1) (roI h.q) (by simp [hstR])
  have x4 := facts_len fun d => hx (d + 1) (roD h.ds) (by simp [hstR])
  clear hx
  conv => whnf
  iterate 7 (refine rq_s (by (rfl)) ?_; conv => whnf)
  (refine lend_s ?_; conv => whnf)
  iterate 4 (refine rows_s (by (rfl)) ?_; conv => whnf)
  (refine call_s (c14 ..) ?_; conv => whnf)
  (refine fac_s (fun hf => ?_); conv => whnf)
  (refine br_s (fun hb => ?_) (fun hb => ?_) <;> (try simp only [beq_iff_eq, bne_iff_ne, ne_eq, decide_eq_true_eq, decide_eq_false_iff_not, Int.not_lt, Int.not_le, Bool.false_eq_true, if_false, if_true, beq_eq_false_iff_ne, bne_eq_false_iff_eq, Bool.not_eq_true', Bool.not_eq_false', Int.ofNat_lt, Int.ofNat_le, Int.ofNat_inj, List.length_map, List.length_nil, List.length_cons] at hb) <;> conv => whnf)
  (refine rq_s (by (rfl)) ?_; conv => whnf)
  (refine sh_s ?_; (rfl))
  iterate 5 (refine rq_s (by (rfl)) ?_; conv => whnf)
  (refine lend_s ?_; conv => whnf)
  iterate 4 (refine rows_s (by (rfl)) ?_; conv => whnf)
  rotate_left
  have a1 : 0 ≤ szHost h 1048576 := by omega
  obtain ⟨a2, s1⟩ := smallHost_of (by omega) (by omega) x1 x2 x3 x4 a1
  have n3 := lenHost_le s1
  (refine call_s (c16 _ s1) ?_; conv => whnf)
  (refine rq_s (by ((simp only [decide_eq_true_eq, List.length_map, mkS_len, setRow_len, mkHost, ownI, ownB, ownD, ownS]; done))) ?_; conv => whnf)
  (refine rq_s (by (rfl)) ?_; conv => whnf)
  (refine rq_s (by ((simp only [decide_eq_true_eq, List.length_map, mkS_len, setRow_len, mkHost, ownI, ownB, ownD, ownS]; done))) ?_; conv => whnf)
  (refine rq_s (by (rfl)) ?_; conv => whnf)
  (refine rq_s (by ((simp only [decide_eq_true_eq, List.length_map, mkS_len, setRow_len, mkHost, ownI, ownB, ownD, ownS]; done))) ?_; conv => whnf)
  iterate 2 (refine rq_s (by (rfl)) ?_; conv => whnf)
  (refine rq_s (by ((simp only [decide_eq_true_eq, List.length_map, mkS_len, setRow_len, mkHost, ownI, ownB, ownD, ownS]; done))) ?_; conv => whnf)
  (refine rq_s (by (rfl)) ?_; conv => whnf)
  (refine lend_s ?_; conv => whnf)
  iterate 4 (refine rows_s (by ((refine sub_all ?_; simp [List.length_map, mkS_len, setRow_len, mkHost, ownI, ownB, ownD, ownS]; done))) ?_; conv => whnf)
  (refine call_s (k2 ..) ?_; conv => whnf)
  iterate 7 (refine fac_s (fun hf => ?_); conv => whnf)
  iterate 5 (refine rq_s (by (rfl)) ?_; conv => whnf)
  (refine lend_s ?_; conv => whnf)
  iterate 4 (refine rows_s (by (rfl)) ?_; conv => whnf)
  (refine call_s (c16 _ s1) ?_; conv => whnf)
  iterate 5 (refine fac_s (fun hf => ?_); conv => whnf)
  (refine rq_s (by ((simp only [decide_eq_true_eq, List.length_map, mkS_len, setRow_len, mkHost, ownI, ownB, ownD, ownS]; done))) ?_; conv => whnf)
  (refine rq_s (by (rfl)) ?_; conv => whnf)
  (refine rq_s (by ((simp only [decide_eq_true_eq, List.length_map, mkS_len, setRow_len, mkHost, ownI, ownB, ownD, ownS]; done))) ?_; conv => whnf)
  (refine rq_s (by (rfl)) ?_; conv => whnf)
  (refine rq_s (by ((simp only [decide_eq_true_eq, List.length_map, mkS_len, setRow_len, mkHost, ownI, ownB, ownD, ownS]; done))) ?_; conv => whnf)
  iterate 2 (refine rq_s (by (rfl)) ?_; conv => whnf)
  (refine rq_s (by ((simp only [decide_eq_true_eq, List.length_map, mkS_len, setRow_len, mkHost, ownI, ownB, ownD, ownS]; done))) ?_; conv => whnf)
  (refine rq_s (by (rfl)) ?_; conv => whnf)
  (refine lend_s ?_; conv => whnf)
  iterate 4 (refine rows_s (by ((refine sub_all ?_; simp [List.length_map, mkS_len, setRow_len, mkHost, ownI, ownB, ownD, ownS]; done))) ?_; conv => whnf)
  (refine call_s (k1 ..) ?_; conv => whnf)
  iterate 2 (refine fac_s (fun hf => ?_); conv => whnf)
  (refine rq_s (by ((simp only [decide_eq_true_eq, List.length_map, mkS_len, setRow_len, mkHost, ownI, ownB, ownD, ownS]; done))) ?_; conv => whnf)
  (refine rq_s (by (rfl)) ?_; conv => whnf)
  (refine rq_s (by ((simp only [decide_eq_true_eq, List.length_map, mkS_len, setRow_len, mkHost, ownI, ownB, ownD, ownS]; done))) ?_; conv => whnf)
  (refine rq_s (by (rfl)) ?_; conv => whnf)
  (refine lend_s ?_; conv => whnf)
  iterate 2 (refine rows_s (by ((refine sub_all ?_; simp [List.length_map, mkS_len, setRow_len, mkHost, ownI, ownB, ownD, ownS]; done))) ?_; conv => whnf)
  (refine call_s (eS ls ..) ?_; conv => whnf)
  iterate 3 (refine br_f rfl ?_; conv => whnf)
  (focus (refine br_f (by (simp; done)) ?_; conv => whnf))
  iterate 3 (refine ChkS.mk (by kernel_rfl) ?_; conv => whnf)
  iterate 5 (refine rq_s (by (rfl)) ?_; conv => whnf)
  iterate 4 (refine rows_s (by (rfl)) ?_; conv => whnf)
  (refine call_s (c16 _ s1) ?_; conv => whnf)
  (refine ChkS.mk (by kernel_rfl) ?_; conv => whnf)
  (refine rq_s (by ((simp only [decide_eq_true_eq, List.length_map, mkS_len, setRow_len, mkHost, ownI, ownB, ownD, ownS]; done))) ?_; conv => whnf)
  (refine rq_s (by (rfl)) ?_; conv => whnf)
  (refine rq_s (by ((simp only [decide_eq_true_eq, List.length_map, mkS_len, setRow_len, mkHost, ownI, ownB, ownD, ownS]; done))) ?_; conv => whnf)
  (refine rq_s (by (rfl)) ?_; conv => whnf)
  (refine rq_s (by ((simp only [decide_eq_true_eq, List.length_map, mkS_len, setRow_len, mkHost, ownI, ownB, ownD, ownS]; done))) ?_; conv => whnf)
  iterate 2 (refine rq_s (by (rfl)) ?_; conv => whnf)
  (refine rq_s (by ((simp only [decide_eq_true_eq, List.length_map, mkS_len, setRow_len, mkHost, ownI, ownB, ownD, ownS]; done))) ?_; conv => whnf)
  (refine rq_s (by (rfl)) ?_; conv => whnf)
  (refine rq_s (by ((simp only [decide_eq_true_eq, List.length_map, mkS_len, setRow_len, mkHost, ownI, ownB, ownD, ownS]; done))) ?_; conv => whnf)
  (refine rq_s (by (rfl)) ?_; conv => whnf)
  (refine rq_s (by ((simp only [decide_eq_true_eq, List.length_map, mkS_len, setRow_len, mkHost, ownI, ownB, ownD, ownS]; done))) ?_; conv => whnf)
  (refine rq_s (by (rfl)) ?_; conv => whnf)
  (refine rq_s (by ((simp only [decide_eq_true_eq, List.length_map, mkS_len, setRow_len, mkHost, ownI, ownB, ownD, ownS]; done))) ?_; conv => whnf)
  iterate 2 (refine rq_s (by (rfl)) ?_; conv => whnf)
  (refine rq_s (by ((simp only [decide_eq_true_eq, List.length_map, mkS_len, setRow_len, mkHost, ownI, ownB, ownD, ownS]; done))) ?_; conv => whnf)
  (refine rq_s (by (rfl)) ?_; conv => whnf)
  iterate 8 (refine rows_s (by ((refine sub_all ?_; simp [List.length_map, mkS_len, setRow_len, mkHost, ownI, ownB, ownD, ownS]; done))) ?_; conv => whnf)
  (refine call_s (eH h ..) ?_; conv => whnf)
  iterate 2 (refine ChkS.mk (by kernel_rfl) ?_; conv => whnf)
  iterate 5 (refine fac_s (fun hf => ?_); conv => whnf)
  (refine br_f rfl ?_; conv => whnf)
  (refine rq_s (by ((simp only [decide_eq_true_eq, List.length_map, mkS_len, setRow_len, mkHost, ownI, ownB, ownD, ownS]; done))) ?_; conv => whnf)
  (refine rq_s (by (rfl)) ?_; conv => whnf)
  (refine rq_s (by ((simp only [decide_eq_true_eq, List.length_map, mkS_len, setRow_len, mkHost, ownI, ownB, ownD, ownS]; done))) ?_; conv => whnf)
  (refine rq_s (by (rfl)) ?_; conv => whnf)
  (refine rq_s (by ((simp only [decide_eq_true_eq, List.length_map, mkS_len, setRow_len, mkHost, ownI, ownB, ownD, ownS]; done))) ?_; conv => whnf)
  iterate 2 (refine rq_s (by (rfl)) ?_; conv => whnf)
  (refine rq_s (by ((simp only [decide_eq_true_eq, List.length_map, mkS_len, setRow_len, mkHost, ownI, ownB, ownD, ownS]; done))) ?_; conv => whnf)
  iterate 2 (refine rq_s (by (rfl)) ?_; conv => whnf)
  (refine handA_s 20 ?_; conv => whnf)
  (refine rq_s (by (rfl)) ?_; conv => whnf)
  iterate 4 (refine rq_s (by ((simp only [decide_eq_true_eq, List.length_map, mkS_len, setRow_len, mkHost, ownI, ownB, ownD, ownS]; done))) ?_; conv => whnf)
  iterate 4 (refine rows_s (by (rfl)) ?_; conv => whnf)
  (refine handAc_s (f := 20) (c20 h 1 (by omega) (by omega) ..) (by simp [szOk, List.length_map, mkS_len, setRow_len, mkHost, ownI, ownB, ownD, ownS]) ?_; conv => whnf)
  (refine fac_s (fun hf => ?_); conv => whnf)
  iterate 3 (refine br_f rfl ?_; conv => whnf)
  (refine rq_s (by ((simp only [decide_eq_true_eq, List.length_map, mkS_len, setRow_len, mkHost, ownI, ownB, ownD, ownS]; done))) ?_; conv => whnf)
  (refine rq_s (by (rfl)) ?_; conv => whnf)
  (refine rq_s (by ((simp only [decide_eq_true_eq, List.length_map, mkS_len, setRow_len, mkHost, ownI, ownB, ownD, ownS]; done))) ?_; conv => whnf)
  (refine rq_s (by (rfl)) ?_; conv => whnf)
  (refine lend_s ?_; conv => whnf)
  iterate 2 (refine rows_s (by ((refine sub_all ?_; simp [List.length_map, mkS_len, setRow_len, mkHost, ownI, ownB, ownD, ownS]; done))) ?_; conv => whnf)
  (refine call_s (eS ls ..) ?_; conv => whnf)
  iterate 4 (refine br_f rfl ?_; conv => whnf)
  (focus (refine br_f (by (simp; done)) ?_; conv => whnf))
  (refine rq_s (by ((simp only [decide_eq_true_eq, List.length_map, mkS_len, setRow_len, mkHost, ownI, ownB, ownD, ownS]; done))) ?_; conv => whnf)
  iterate 2 (refine rq_s (by (rfl)) ?_; conv => whnf)
  (refine hand_s 21 0 ?_; conv => whnf)
  (refine rq_s (by ((simp only [decide_eq_true_eq, List.length_map, mkS_len, setRow_len, mkHost, ownI, ownB, ownD, ownS]; done))) ?_; conv => whnf)
  iterate 2 (refine rq_s (by (rfl)) ?_; conv => whnf)
  (refine rows_s (by (rfl)) ?_; conv => whnf)
  (refine handc_s (f := 21) (j := 0) (c21 ls 1 (by omega) (by omega) ..) (by simp [List.length_map, mkS_len, setRow_len, mkHost, ownI, ownB, ownD, ownS]) (by rfl) (by rfl) ?_; conv => whnf)
  (refine fac_s (fun hf => ?_); conv => whnf)
  (refine rq_s (by ((simp only [decide_eq_true_eq, List.length_map, mkS_len, setRow_len, mkHost, ownI, ownB, ownD, ownS]; done))) ?_; conv => whnf)
  iterate 2 (refine rq_s (by (rfl)) ?_; conv => whnf)
  (refine lend_s ?_; conv => whnf)
  (refine rows_s (by ((refine sub_all ?_; simp [List.length_map, mkS_len, setRow_len, mkHost, ownI, ownB, ownD, ownS]; done))) ?_; conv => whnf)
  (refine call_s (q1 ..) ?_; conv => whnf)
  (refine fac_s (fun hf => ?_); conv => whnf)
  (refine br_f rfl ?_; conv => whnf)
  (focus (refine br_f (by (simp; done)) ?_; conv => whnf))
  iterate 5 (refine rq_s (by (rfl)) ?_; conv => whnf)
  (refine lend_s ?_; conv => whnf)
  iterate 4 (refine rows_s (by (rfl)) ?_; conv => whnf)
  (refine call_s (c16 _ s1) ?_; conv => whnf)
  (refine rq_s (by ((simp only [decide_eq_true_eq, List.length_map, mkS_len, setRow_len, mkHost, ownI, ownB, ownD, ownS]; done))) ?_; conv => whnf)
  (refine rq_s (by (rfl)) ?_; conv => whnf)
  (refine rq_s (by ((simp only [decide_eq_true_eq, List.length_map, mkS_len, setRow_len, mkHost, ownI, ownB, ownD, ownS]; done))) ?_; conv => whnf)
  (refine rq_s (by (rfl)) ?_; conv => whnf)
  (refine rq_s (by ((simp only [decide_eq_true_eq, List.length_map, mkS_len, setRow_len, mkHost, ownI, ownB, ownD, ownS]; done))) ?_; conv => whnf)
  iterate 2 (refine rq_s (by (rfl)) ?_; conv => whnf)
  (refine rq_s (by ((simp only [decide_eq_true_eq, List.length_map, mkS_len, setRow_len, mkHost, ownI, ownB, ownD, ownS]; done))) ?_; conv => whnf)
  (refine rq_s (by (rfl)) ?_; conv => whnf)
  (refine lend_s ?_; conv => whnf)
  iterate 4 (refine rows_s (by ((refine sub_all ?_; simp [List.length_map, mkS_len, setRow_len, mkHost, ownI, ownB, ownD, ownS]; done))) ?_; conv => whnf)
  (refine call_s (k1 ..) ?_; conv => whnf)
  iterate 7 (refine fac_s (fun hf => ?_); conv => whnf)
  (refine rq_s (by ((simp only [decide_eq_true_eq, List.length_map, mkS_len, setRow_len, mkHost, ownI, ownB, ownD, ownS]; done))) ?_; conv => whnf)
  (refine rq_s (by (rfl)) ?_; conv => whnf)
  (refine rq_s (by ((simp only [decide_eq_true_eq, List.length_map, mkS_len, setRow_len, mkHost, ownI, ownB, ownD, ownS]; done))) ?_; conv => whnf)
  (refine rq_s (by (rfl)) ?_; conv => whnf)
  (refine lend_s ?_; conv => whnf)
  iterate 2 (refine rows_s (by ((refine sub_all ?_; simp [List.length_map, mkS_len, setRow_len, mkHost, ownI, ownB, ownD, ownS]; done))) ?_; conv => whnf)
  (refine call_s (eS ls ..) ?_; conv => whnf)
  iterate 3 (refine br_f rfl ?_; conv => whnf)
  (focus (refine br_f (by (simp; done)) ?_; conv => whnf))
  (refine rq_s (by ((simp only [decide_eq_true_eq, List.length_map, mkS_len, setRow_len, mkHost, ownI, ownB, ownD, ownS]; done))) ?_; conv => whnf)
  iterate 2 (refine rq_s (by (rfl)) ?_; conv => whnf)
  (refine lend_s ?_; conv => whnf)
  (refine rows_s (by ((refine sub_all ?_; simp [List.length_map, mkS_len, setRow_len, mkHost, ownI, ownB, ownD, ownS]; done))) ?_; conv => whnf)
  (refine call_s (q1 ..) ?_; conv => whnf)
  (refine fac_s (fun hf => ?_); conv => whnf)
  (refine br_f rfl ?_; conv => whnf)
  (focus (refine br_f (by (simp; done)) ?_; conv => whnf))
  (refine rq_s (by (rfl)) ?_; conv => whnf)
  (refine sh_s ?_; (first | rfl | (exfalso; omega)))
end D6

/- HostLines: what the arguments are. -/
set_option linter.unusedVariables false
set_option linter.unusedSimpArgs false
open Go Go.Abs Go.Proofs V1
namespace D7
theorem deal_of {d : Nat} {l : List AV} (h : OfT T (d + 2) 137 l) : ∃ r : Deal, l = dealR r := by
  obtain ⟨_, _, rfl, ⟨k, rfl⟩, _, _, rfl, ⟨n, rfl⟩, _, _, rfl, ⟨s, rfl⟩, _, _, rfl, ⟨t, rfl⟩, rfl⟩ := h
  exact ⟨⟨k, n, s, t⟩, rfl⟩
theorem host_of {l : List AV} (h : OfT T 10 35 l) : ∃ gr st q tk ds, l = hstR ⟨gr, st, q, tk, ds⟩ := by
  obtain ⟨_, _, rfl, ⟨r1, rfl, h1⟩, _, _, rfl, ⟨r2, rfl, h2⟩, _, _, rfl, ⟨r3, rfl, h3⟩, _, _, rfl, ⟨tk, rfl⟩, _, _, rfl, ⟨r5, rfl, h5⟩, rfl⟩ := h
  obtain ⟨gr, rfl⟩ := rows_map boolR h1
  obtain ⟨st, rfl⟩ := rows_map intR h2
  obtain ⟨q, rfl⟩ := rows_map intR h3
  obtain ⟨ds, rfl⟩ := rows_map dealR fun row hr => deal_of (d := 6) (h5 row hr)
  exact ⟨gr, st, q, tk, ds, rfl⟩
end D7
