/- The law FnExactGrantsAt returns true. -/
import Derived.Test.YtbngkaiocdpliaaGrantB
set_option linter.unusedVariables false
set_option linter.unusedSimpArgs false
set_option maxRecDepth 100000
open Go Go.Abs Go.Proofs U8 U9
namespace U10

theorem szAct_le (x : Doing) (hs : x.l.length ≤ 9223372036854775807) (l : Int) (h1 : 0 ≤ l) (h2 : l ≤ 1048576) (h : 0 ≤ szAct x l) : szAct x l ≤ l ∧ True := by
  unfold szAct at h ⊢
  rw [wr h1 h2 hs] at h ⊢
  by_cases h3 : l - (x.l.length : Int) < 0
  · rw [if_pos h3] at h; omega
  · rw [if_neg h3]; exact ⟨by omega, trivial⟩
theorem facts_acts {rs : List Doing} (h : ∀ d, (roA rs).facts d) : ∀ r ∈ rs, r.l.length ≤ 9223372036854775807 := by
  intro r hr
  exact (h 3).2 (actR r) (List.mem_map.2 ⟨r, hr, rfl⟩) (.str r.l) (by simp [actR])
theorem ga_len (rs : List Doing) (n : Int) : (gaP rs n).1.length ≤ 4 := by
  unfold gaP
  split
  · simp
  · split
    · simp [gr_len]
    · simp
theorem held_mk (m : Nat) (k : Int) : heldB (mkB m k) k = k + m := by simp [heldB, mkB_len]
set_option maxHeartbeats 4000000 in
theorem c6 (rs : List Doing) (n : Int) : Con Try.prog 6 [roA rs, .int .i64 n] (undefs [roA rs, .int .i64 n]) (.bool true) := by
  refine Con.evF 101 T_ok mix Try.func6 rfl rfl rfl rfl [.tmp 4] rfl fun ⟨hx, _⟩ => ?_
  have hl := facts_len hx
  have hr := facts_acts hx
  clear hx
  conv => whnf
  repeat' (first
    | (refine rq_s (by first | rfl | (refine and_s rfl ?_; simp only [decide_eq_true_eq, List.length_map]; omega) | (simp only [Bool.and_eq_true, decide_eq_true_eq, List.length_map]; omega) | (simp; done) | (simp; omega) ) ?_; conv => whnf)
    | (refine aft_s rfl rfl ?_; conv => whnf)
    | (refine row_s (by first | rfl) ?_; conv => whnf)
    | (refine rows_s (by first | (refine sub_all ?_; simp [List.length_map, gr_len, mkB_len, mkA_len]; done) | exact sub_map _ _ _ _ | rfl) ?_; conv => whnf)
    | (refine fac_s (fun hf => ?_); conv => whnf)
    | (refine ChkS.mk (by kernel_rfl) ?_; conv => whnf)
    | (refine br_t rfl ?_; conv => whnf)
    | (refine br_f rfl ?_; conv => whnf)
    | (refine br_t (by assumption) ?_; conv => whnf)
    | (refine br_f (by assumption) ?_; conv => whnf)
    | (refine br_s (fun hb => ?_) (fun hb => ?_) <;> (try simp only [beq_iff_eq, bne_iff_ne, ne_eq, decide_eq_true_eq, decide_eq_false_iff_not, Int.not_lt, Int.not_le, Bool.false_eq_true, if_false, if_true, beq_eq_false_iff_ne, bne_eq_false_iff_eq, Bool.not_eq_true', Bool.not_eq_false', Int.ofNat_lt, Int.ofNat_le, Int.ofNat_inj, List.length_map, List.length_nil, List.length_cons] at hb) <;> conv => whnf)
    | (refine lend_s ?_; conv => whnf)
    | ((first | refine call_s (c22 ..) ?_); conv => whnf)
    | (refine sh_s ?_; rfl))
  obtain ⟨k1, k2, k3⟩ := szS_le (q := fun _ : Doing => True) hl (fun x hx l => szAct_le x (hr x hx) l) (by omega) (by omega) hb
  have hg := ga_len rs n
  have hh := held_mk (gaP rs n).1.length 1
  repeat' (first
    | (refine rq_s (by first | rfl | (refine and_s rfl ?_; simp only [decide_eq_true_eq, List.length_map]; omega) | (simp only [Bool.and_eq_true, decide_eq_true_eq, List.length_map]; omega) | (simp; done) | (simp; omega) ) ?_; conv => whnf)
    | (refine aft_s rfl rfl ?_; conv => whnf)
    | (refine row_s (by first | rfl) ?_; conv => whnf)
    | (refine rows_s (by first | (refine sub_all ?_; simp [List.length_map, gr_len, mkB_len, mkA_len]; done) | exact sub_map _ _ _ _ | rfl) ?_; conv => whnf)
    | (refine fac_s (fun hf => ?_); conv => whnf)
    | (refine ChkS.mk (by kernel_rfl) ?_; conv => whnf)
    | (refine br_t rfl ?_; conv => whnf)
    | (refine br_f rfl ?_; conv => whnf)
    | (refine br_t (by assumption) ?_; conv => whnf)
    | (refine br_f (by assumption) ?_; conv => whnf)
    | (refine br_s (fun hb => ?_) (fun hb => ?_) <;> (try simp only [beq_iff_eq, bne_iff_ne, ne_eq, decide_eq_true_eq, decide_eq_false_iff_not, Int.not_lt, Int.not_le, Bool.false_eq_true, if_false, if_true, beq_eq_false_iff_ne, bne_eq_false_iff_eq, Bool.not_eq_true', Bool.not_eq_false', Int.ofNat_lt, Int.ofNat_le, Int.ofNat_inj, List.length_map, List.length_nil, List.length_cons] at hb) <;> conv => whnf)
    | (refine hand_s 28 0 ?_; conv => whnf)
    | (refine handc_s (f := 28) (j := 0) (c28 _ 1 (by omega)) (by simp [List.length_map, gr_len, mkB_len, mkA_len]) (by rfl) (by rfl) ?_; conv => whnf)
    | (refine hand_s 29 0 ?_; conv => whnf)
    | (refine handc_s (f := 29) (j := 0) (c29 _ 1 (by omega) (by omega)) (by simp [List.length_map, gr_len, mkB_len, mkA_len]) (by rfl) (by rfl) ?_; conv => whnf)
    | (refine lend_s ?_; conv => whnf)
    | ((first | refine call_s (c24 _ k2) ?_ | refine call_s (c23 ..) ?_ | refine call_s (c25 ..) ?_ | refine call_s (c26 ..) ?_ | refine call_s (c27 ..) ?_ | refine call_s (c30 _ 1 (by omega) (by rw [mkB_len]; omega)) ?_); conv => whnf)
    | (refine sh_s ?_; first | rfl | (simp_all; done) | (simp_all; omega)))
theorem act_of {d : Nat} {l : List AV} (h : OfT T (d + 2) 23 l) : ∃ r : Doing, l = actR r := by
  obtain ⟨_, _, rfl, ⟨k, rfl⟩, _, _, rfl, ⟨n, rfl⟩, _, _, rfl, ⟨s, rfl⟩, rfl⟩ := h
  exact ⟨⟨k, n, s⟩, rfl⟩
theorem acts_of {x : AV} (h : OfT T 10 45 [x]) : ∃ rs : List Doing, x = roA rs := by
  obtain ⟨rows, h1, hr⟩ := h
  obtain ⟨rs, rfl⟩ := rows_map actR fun row hrow => act_of (d := 7) (hr row hrow)
  injection h1 with h1
  exact ⟨rs, h1⟩
theorem int_of {x : AV} (h : OfT T 10 3 [x]) : ∃ n, x = .int .i64 n := by
  obtain ⟨n, h1⟩ := h
  injection h1 with h1
  exact ⟨n, h1⟩
end U10
