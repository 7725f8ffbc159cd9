/- The functions that the law FnExactAnswerHost reaches, continued: the answer. -/
import Derived.Test.YtbngkaiocdpliaaHostB
set_option linter.unusedVariables false
set_option linter.unusedSimpArgs false
set_option maxRecDepth 100000
open Go Go.Abs Go.Proofs U12 U13
namespace U14

theorem any_hit {α : Type} [Inhabited α] {p : α → Bool} {xs : List α} {i : Nat} (h : i < xs.length) (hp : p (xs.getD i default) = true) : xs.any p = true := List.any_eq_true.2 ⟨xs[i], List.getElem_mem h, by simpa [h] using hp⟩
theorem any_none {α : Type} [Inhabited α] {p : α → Bool} {xs : List α} (h : ∀ j, j < xs.length → p (xs.getD j default) = false) : xs.any p = false := by
  rw [List.any_eq_false]
  intro x hx
  obtain ⟨j, hj, rfl⟩ := List.mem_iff_getElem.1 hx
  have := h j hj
  simpa [hj] using this

theorem c73 (xs : List Int) : Con Try.prog 73 [roI xs] (undefs [roI xs]) (.bool (!cellsBad xs)) := by
  refine Con.evF 16 T_ok mix Try.func73 rfl rfl rfl rfl [.tmp 2] rfl fun ⟨hx, _⟩ => ?_
  have hx := facts_len hx
  conv => whnf
  repeat' (first
    | (refine rq_s (by first | rfl | (refine and_s rfl ?_; simp only [decide_eq_true_eq, List.length_map]; omega) | (simp only [Bool.and_eq_true, decide_eq_true_eq, List.length_map]; omega) | (simp; done) | (simp; omega) ) ?_; conv => whnf)
    | (refine aft_s (by first | rfl | (simp [AV.rowsN, List.length_map, mkB_len, mkI_len, mkD_len]; done)) rfl ?_; conv => whnf)
    | (refine nil_s (fun hz => ?_) ?_ <;> conv => whnf)
    | (refine row_s (by first | (try simp only [Int.toNat_natCast]); exact row_map intR _ _ _ default (by first | omega | (simp; omega))) ?_; conv => whnf)
    | (refine rows_s (by first | (refine sub_all ?_; simp [List.length_map, mkB_len, mkI_len, mkD_len]; done) | exact sub_map _ _ _ _ | rfl) ?_; conv => whnf)
    | (refine fac_s (fun hf => ?_); conv => whnf)
    | (refine ChkS.mk (by kernel_rfl) ?_; conv => whnf)
    | (refine br_t rfl ?_; conv => whnf)
    | (refine br_f rfl ?_; conv => whnf)
    | (refine br_t (by assumption) ?_; conv => whnf)
    | (refine br_f (by assumption) ?_; conv => whnf)
    | (refine br_s (fun hb => ?_) (fun hb => ?_) <;> (try simp only [beq_iff_eq, bne_iff_ne, ne_eq, decide_eq_true_eq, decide_eq_false_iff_not, Int.not_lt, Int.not_le, Bool.false_eq_true, if_false, if_true, beq_eq_false_iff_ne, bne_eq_false_iff_eq, Bool.not_eq_true', Bool.not_eq_false', Int.ofNat_lt, Int.ofNat_le, Int.ofNat_inj, List.length_map, List.length_nil, List.length_cons] at hb) <;> conv => whnf)
    | (refine lend_s ?_; conv => whnf)
    
    )
  refine LoopG.rounds (α := Nat) T_ok mix [0, 3] [] (fun i => [(0, roI xs), (3, .int .i64 i)]) (fun _ => []) (fun i => i ≤ xs.length ∧ ∀ j, j < i → badCell (xs.getD j default) = false) (fun i => xs.length - i) ?_ ?_
  · conv => whnf
    exact head_s 0 ⟨by simp, fun j hj => by omega⟩ (by simp [roI]) rfl
  · rintro i ⟨h1, h2⟩ - -
    conv => whnf
    repeat' (first
    | (refine rq_s (by first | rfl | (refine and_s rfl ?_; simp only [decide_eq_true_eq, List.length_map]; omega) | (simp only [Bool.and_eq_true, decide_eq_true_eq, List.length_map]; omega) | (simp; done) | (simp; omega) ) ?_; conv => whnf)
    | (refine aft_s (by first | rfl | (simp [AV.rowsN, List.length_map, mkB_len, mkI_len, mkD_len]; done)) rfl ?_; conv => whnf)
    | (refine nil_s (fun hz => ?_) ?_ <;> conv => whnf)
    | (refine row_s (by first | (try simp only [Int.toNat_natCast]); exact row_map intR _ _ _ default (by first | omega | (simp; omega))) ?_; conv => whnf)
    | (refine rows_s (by first | (refine sub_all ?_; simp [List.length_map, mkB_len, mkI_len, mkD_len]; done) | exact sub_map _ _ _ _ | rfl) ?_; conv => whnf)
    | (refine fac_s (fun hf => ?_); conv => whnf)
    | (refine ChkS.mk (by kernel_rfl) ?_; conv => whnf)
    | (refine br_t rfl ?_; conv => whnf)
    | (refine br_f rfl ?_; conv => whnf)
    | (refine br_t (by assumption) ?_; conv => whnf)
    | (refine br_f (by assumption) ?_; conv => whnf)
    | (refine br_s (fun hb => ?_) (fun hb => ?_) <;> (try simp only [beq_iff_eq, bne_iff_ne, ne_eq, decide_eq_true_eq, decide_eq_false_iff_not, Int.not_lt, Int.not_le, Bool.false_eq_true, if_false, if_true, beq_eq_false_iff_ne, bne_eq_false_iff_eq, Bool.not_eq_true', Bool.not_eq_false', Int.ofNat_lt, Int.ofNat_le, Int.ofNat_inj, List.length_map, List.length_nil, List.length_cons] at hb) <;> conv => whnf)
    | (refine lend_s ?_; conv => whnf)
    | ((first | refine call_s (c39 ..) ?_); conv => whnf)
    )
    · refine sh_s ?_
      have : badCell (xs.getD i default) = true := by unfold badCell; simp only [Bool.not_eq_true']; exact hb
      rw [cellsBad, any_hit (by assumption) this]; rfl
    · refine head_s (i + 1) ⟨⟨by omega, fun j hj => ?_⟩, by omega⟩ (by rw [wrap64 (by omega) (by omega)]; rfl) rfl
      by_cases hji : j = i
      · subst hji; unfold badCell; simp only [Bool.not_eq_false']; exact hb
      · exact h2 j (by omega)
    · refine sh_s ?_
      rw [cellsBad, any_none fun j hj => h2 j (by omega)]; rfl
def hostOK (h : Hst) : Bool := decide (h.gr.length = 4) && decide (h.st.length = 8) && !cellsBad h.st && decide (h.q.length ≤ 20) && !cellsBad h.q && inR h.tk 0 2147483647 && decide (h.ds.length ≤ 40) && !dealsBad h.ds
theorem c60 (h : Hst) : Con Try.prog 60 [hostV h] (undefs [hostV h]) (.bool (hostOK h)) := by
  have e : ((h.q.length : Int) ≤ 20) = (h.q.length ≤ 20) := propext ⟨fun _ => by omega, fun _ => by omega⟩
  refine Con.ev 34 T_ok mix Try.func60 rfl rfl rfl rfl [.tmp 2] rfl ?_
  conv => whnf
  repeat' (first
    | (refine rq_s (by first | rfl | (refine and_s rfl ?_; simp only [decide_eq_true_eq, List.length_map]; omega) | (simp only [Bool.and_eq_true, decide_eq_true_eq, List.length_map]; omega) | (simp; done) | (simp; omega) ) ?_; conv => whnf)
    | (refine aft_s (by first | rfl | (simp [AV.rowsN, List.length_map, mkB_len, mkI_len, mkD_len]; done)) rfl ?_; conv => whnf)
    | (refine nil_s (fun hz => ?_) ?_ <;> conv => whnf)
    | (refine row_s (by first | (try simp only [Int.toNat_natCast]); exact row_map intR _ _ _ default (by first | omega | (simp; omega))) ?_; conv => whnf)
    | (refine rows_s (by first | (refine sub_all ?_; simp [List.length_map, mkB_len, mkI_len, mkD_len]; done) | exact sub_map _ _ _ _ | rfl) ?_; conv => whnf)
    | (refine fac_s (fun hf => ?_); conv => whnf)
    | (refine ChkS.mk (by kernel_rfl) ?_; conv => whnf)
    | (refine br_t rfl ?_; conv => whnf)
    | (refine br_f rfl ?_; conv => whnf)
    | (refine br_t (by assumption) ?_; conv => whnf)
    | (refine br_f (by assumption) ?_; conv => whnf)
    | (refine br_s (fun hb => ?_) (fun hb => ?_) <;> (try simp only [beq_iff_eq, bne_iff_ne, ne_eq, decide_eq_true_eq, decide_eq_false_iff_not, Int.not_lt, Int.not_le, Bool.false_eq_true, if_false, if_true, beq_eq_false_iff_ne, bne_eq_false_iff_eq, Bool.not_eq_true', Bool.not_eq_false', Int.ofNat_lt, Int.ofNat_le, Int.ofNat_inj, List.length_map, List.length_nil, List.length_cons] at hb) <;> conv => whnf)
    | (refine lend_s ?_; conv => whnf)
    | ((first | refine call_s (c76 ..) ?_ | refine call_s (c77 ..) ?_ | refine call_s (c41 ..) ?_ | refine call_s (c78b ..) ?_); conv => whnf)
    | (refine sh_s ?_; first | (simp_all [hostOK]; done) | (simp_all [hostOK]; omega) | (congr 1; rw [Bool.eq_iff_iff]; simp_all [hostOK]; done) | (congr 1; rw [Bool.eq_iff_iff]; simp_all [hostOK]; omega)))

theorem c56 (h : Hst) : Con Try.prog 56 [hostV h] (undefs [hostV h]) (.bool (hostOK h)) := by
  refine Con.evF 58 T_ok mix Try.func56 rfl rfl rfl rfl [.tmp 2] rfl fun ⟨hx, _⟩ => ?_
  have hx := facts_len (fun d => hx (d + 1) (roD h.ds) (by simp))
  conv => whnf
  repeat' (first
    | (refine rq_s (by first | rfl | (refine and_s rfl ?_; simp only [decide_eq_true_eq, List.length_map]; omega) | (simp only [Bool.and_eq_true, decide_eq_true_eq, List.length_map]; omega) | (simp; done) | (simp; omega) ) ?_; conv => whnf)
    | (refine aft_s (by first | rfl | (simp [AV.rowsN, List.length_map, mkB_len, mkI_len, mkD_len]; done)) rfl ?_; conv => whnf)
    | (refine nil_s (fun hz => ?_) ?_ <;> conv => whnf)
    | (refine row_s (by first | (try simp only [Int.toNat_natCast]); exact row_map dealR _ _ _ default (by first | omega | (simp; omega))) ?_; conv => whnf)
    | (refine rows_s (by first | (refine sub_all ?_; simp [List.length_map, mkB_len, mkI_len, mkD_len]; done) | exact sub_map _ _ _ _ | rfl) ?_; conv => whnf)
    | (refine fac_s (fun hf => ?_); conv => whnf)
    | (refine ChkS.mk (by kernel_rfl) ?_; conv => whnf)
    | (refine br_t rfl ?_; conv => whnf)
    | (refine br_f rfl ?_; conv => whnf)
    | (refine br_t (by assumption) ?_; conv => whnf)
    | (refine br_f (by assumption) ?_; conv => whnf)
    | (refine br_s (fun hb => ?_) (fun hb => ?_) <;> (try simp only [beq_iff_eq, bne_iff_ne, ne_eq, decide_eq_true_eq, decide_eq_false_iff_not, Int.not_lt, Int.not_le, Bool.false_eq_true, if_false, if_true, beq_eq_false_iff_ne, bne_eq_false_iff_eq, Bool.not_eq_true', Bool.not_eq_false', Int.ofNat_lt, Int.ofNat_le, Int.ofNat_inj, List.length_map, List.length_nil, List.length_cons] at hb) <;> conv => whnf)
    | (refine lend_s ?_; conv => whnf)
    | ((first | refine call_s (c73 ..) ?_ | refine call_s (c38 ..) ?_); conv => whnf)
    | (refine sh_s ?_; first | (simp_all [hostOK]; done) | (simp_all [hostOK]; omega)))
  have g1 : h.gr.length = 4 := by omega
  have g2 : h.st.length = 8 := by omega
  have g3 : h.q.length ≤ 20 := by omega
  have g4 : h.ds.length ≤ 40 := by omega
  have g5 : cellsBad h.st = false := by assumption
  have g6 : cellsBad h.q = false := by assumption
  have g7 : inR h.tk 0 2147483647 = true := hb
  have fin : hostOK h = !dealsBad h.ds := by simp [hostOK, g1, g2, g3, g4, g5, g6, g7]
  rw [fin]
  refine LoopG.rounds (α := Nat) T_ok mix [3, 1] [(1, 1)] (fun i => [(3, .int .i64 i), (1, .ptr 1 0 0)]) (fun _ => [(1, .live ⟨false, 0, [roB h.gr, roI h.st, roI h.q, .int .i64 h.tk, roD h.ds], [[roB h.gr, roI h.st, roI h.q, .int .i64 h.tk, roD h.ds]]⟩)]) (fun i => i ≤ h.ds.length ∧ ∀ j, j < i → badDeal (h.ds.getD j default) = false) (fun i => h.ds.length - i) ?_ ?_
  · conv => whnf
    exact head_s 0 ⟨by simp, fun j hj => by omega⟩ rfl rfl
  · rintro i ⟨h1, h2⟩ - -
    conv => whnf
    repeat' (first
    | (refine rq_s (by first | rfl | (refine and_s rfl ?_; simp only [decide_eq_true_eq, List.length_map]; omega) | (simp only [Bool.and_eq_true, decide_eq_true_eq, List.length_map]; omega) | (simp; done) | (simp; omega) ) ?_; conv => whnf)
    | (refine aft_s (by first | rfl | (simp [AV.rowsN, List.length_map, mkB_len, mkI_len, mkD_len]; done)) rfl ?_; conv => whnf)
    | (refine nil_s (fun hz => ?_) ?_ <;> conv => whnf)
    | (refine row_s (by first | (try simp only [Int.toNat_natCast]); exact row_map dealR _ _ _ default (by first | omega | (simp; omega))) ?_; conv => whnf)
    | (refine rows_s (by first | (refine sub_all ?_; simp [List.length_map, mkB_len, mkI_len, mkD_len]; done) | exact sub_map _ _ _ _ | rfl) ?_; conv => whnf)
    | (refine fac_s (fun hf => ?_); conv => whnf)
    | (refine ChkS.mk (by kernel_rfl) ?_; conv => whnf)
    | (refine br_t rfl ?_; conv => whnf)
    | (refine br_f rfl ?_; conv => whnf)
    | (refine br_t (by assumption) ?_; conv => whnf)
    | (refine br_f (by assumption) ?_; conv => whnf)
    | (refine br_s (fun hb => ?_) (fun hb => ?_) <;> (try simp only [beq_iff_eq, bne_iff_ne, ne_eq, decide_eq_true_eq, decide_eq_false_iff_not, Int.not_lt, Int.not_le, Bool.false_eq_true, if_false, if_true, beq_eq_false_iff_ne, bne_eq_false_iff_eq, Bool.not_eq_true', Bool.not_eq_false', Int.ofNat_lt, Int.ofNat_le, Int.ofNat_inj, List.length_map, List.length_nil, List.length_cons] at hb) <;> conv => whnf)
    | (refine lend_s ?_; conv => whnf)
    | ((first | refine call_s (c74 ..) ?_); conv => whnf)
    )
    · refine sh_s ?_
      have : badDeal (h.ds.getD i default) = true := by unfold badDeal; simp only [Bool.not_eq_true']; exact hb
      rw [dealsBad, any_hit (by assumption) this]; rfl
    · refine head_s (i + 1) ⟨⟨by omega, fun j hj => ?_⟩, by omega⟩ (by rw [wrap64 (by omega) (by omega)]; rfl) rfl
      by_cases hji : j = i
      · subst hji; unfold badDeal; simp only [Bool.not_eq_false']; exact hb
      · exact h2 j (by omega)
    · refine sh_s ?_
      rw [dealsBad, any_none fun j hj => h2 j (by omega)]; rfl
theorem own_sh {α : Type} {z : List AV} {f : α → List AV} {xs : List α} (h : xs.length = 0) : Sh .emp (.own 0 z (xs.map f)) := by
  have : xs = [] := List.length_eq_zero_iff.1 h
  subst this
  exact Sh.emp_own 0 z
theorem c81 (xs : List Bool) (h : xs.length ≤ 1048576) : Con Try.prog 81 [roB xs] (undefs [roB xs]) (.own 0 [.bool false] (xs.map boolR)) := by
  refine Con.ev 8 T_ok mix Try.func81 rfl rfl rfl rfl [.tmp 2] rfl ?_
  conv => whnf
  repeat' (first
    | (refine rq_s (by first | rfl | (refine and_s rfl ?_; simp only [decide_eq_true_eq, List.length_map]; omega) | (simp only [Bool.and_eq_true, decide_eq_true_eq, List.length_map]; omega) | (simp; done) | (simp; omega) | ((simp [maxBytes, AV.plain]; omega))) ?_; conv => whnf)
    | (refine aft_s (by first | rfl | (simp [AV.rowsN, List.length_map, mkB_len, mkI_len, mkD_len]; done)) rfl ?_; conv => whnf)
    | (refine nil_s (fun hz => ?_) ?_ <;> conv => whnf)
    | (refine row_s (by first | (try simp only [Int.toNat_natCast]); exact row_map dealR _ _ _ default (by first | omega | (simp; omega))) ?_; conv => whnf)
    | (refine rows_s (by first | (refine sub_all ?_; simp [List.length_map, mkB_len, mkI_len, mkD_len]; done) | exact sub_map _ _ _ _ | rfl) ?_; conv => whnf)
    | (refine fac_s (fun hf => ?_); conv => whnf)
    | (refine ChkS.mk (by kernel_rfl) ?_; conv => whnf)
    | (refine br_t rfl ?_; conv => whnf)
    | (refine br_f rfl ?_; conv => whnf)
    | (refine br_t (by assumption) ?_; conv => whnf)
    | (refine br_f (by assumption) ?_; conv => whnf)
    | (refine br_s (fun hb => ?_) (fun hb => ?_) <;> (try simp only [beq_iff_eq, bne_iff_ne, ne_eq, decide_eq_true_eq, decide_eq_false_iff_not, Int.not_lt, Int.not_le, Bool.false_eq_true, if_false, if_true, beq_eq_false_iff_ne, bne_eq_false_iff_eq, Bool.not_eq_true', Bool.not_eq_false', Int.ofNat_lt, Int.ofNat_le, Int.ofNat_inj, List.length_map, List.length_nil, List.length_cons] at hb) <;> conv => whnf)
    | (refine lend_s ?_; conv => whnf)
    
    )
  · exact ⟨own_sh (by simpa using hz)⟩
  · exact ⟨Sh.flat_map (fun _ => rfl) _⟩
theorem c82 (xs : List Int) (h : xs.length ≤ 1048576) : Con Try.prog 82 [roI xs] (undefs [roI xs]) (.own 0 [.int .i64 0] (xs.map intR)) := by
  refine Con.ev 8 T_ok mix Try.func82 rfl rfl rfl rfl [.tmp 2] rfl ?_
  conv => whnf
  repeat' (first
    | (refine rq_s (by first | rfl | (refine and_s rfl ?_; simp only [decide_eq_true_eq, List.length_map]; omega) | (simp only [Bool.and_eq_true, decide_eq_true_eq, List.length_map]; omega) | (simp; done) | (simp; omega) | ((simp [maxBytes, AV.plain]; omega))) ?_; conv => whnf)
    | (refine aft_s (by first | rfl | (simp [AV.rowsN, List.length_map, mkB_len, mkI_len, mkD_len]; done)) rfl ?_; conv => whnf)
    | (refine nil_s (fun hz => ?_) ?_ <;> conv => whnf)
    | (refine row_s (by first | (try simp only [Int.toNat_natCast]); exact row_map dealR _ _ _ default (by first | omega | (simp; omega))) ?_; conv => whnf)
    | (refine rows_s (by first | (refine sub_all ?_; simp [List.length_map, mkB_len, mkI_len, mkD_len]; done) | exact sub_map _ _ _ _ | rfl) ?_; conv => whnf)
    | (refine fac_s (fun hf => ?_); conv => whnf)
    | (refine ChkS.mk (by kernel_rfl) ?_; conv => whnf)
    | (refine br_t rfl ?_; conv => whnf)
    | (refine br_f rfl ?_; conv => whnf)
    | (refine br_t (by assumption) ?_; conv => whnf)
    | (refine br_f (by assumption) ?_; conv => whnf)
    | (refine br_s (fun hb => ?_) (fun hb => ?_) <;> (try simp only [beq_iff_eq, bne_iff_ne, ne_eq, decide_eq_true_eq, decide_eq_false_iff_not, Int.not_lt, Int.not_le, Bool.false_eq_true, if_false, if_true, beq_eq_false_iff_ne, bne_eq_false_iff_eq, Bool.not_eq_true', Bool.not_eq_false', Int.ofNat_lt, Int.ofNat_le, Int.ofNat_inj, List.length_map, List.length_nil, List.length_cons] at hb) <;> conv => whnf)
    | (refine lend_s ?_; conv => whnf)
    
    )
  · exact ⟨own_sh (by simpa using hz)⟩
  · exact ⟨Sh.flat_map (fun _ => rfl) _⟩
theorem c83 (xs : List Deal) (h : xs.length ≤ 1048576) : Con Try.prog 83 [roD xs] (undefs [roD xs]) (.own 0 zDeal (xs.map dealR)) := by
  refine Con.ev 8 T_ok mix Try.func83 rfl rfl rfl rfl [.tmp 2] rfl ?_
  conv => whnf
  repeat' (first
    | (refine rq_s (by first | rfl | (refine and_s rfl ?_; simp only [decide_eq_true_eq, List.length_map]; omega) | (simp only [Bool.and_eq_true, decide_eq_true_eq, List.length_map]; omega) | (simp; done) | (simp; omega) | ((simp [maxBytes, AV.plain]; omega))) ?_; conv => whnf)
    | (refine aft_s (by first | rfl | (simp [AV.rowsN, List.length_map, mkB_len, mkI_len, mkD_len]; done)) rfl ?_; conv => whnf)
    | (refine nil_s (fun hz => ?_) ?_ <;> conv => whnf)
    | (refine row_s (by first | (try simp only [Int.toNat_natCast]); exact row_map dealR _ _ _ default (by first | omega | (simp; omega))) ?_; conv => whnf)
    | (refine rows_s (by first | (refine sub_all ?_; simp [List.length_map, mkB_len, mkI_len, mkD_len]; done) | exact sub_map _ _ _ _ | rfl) ?_; conv => whnf)
    | (refine fac_s (fun hf => ?_); conv => whnf)
    | (refine ChkS.mk (by kernel_rfl) ?_; conv => whnf)
    | (refine br_t rfl ?_; conv => whnf)
    | (refine br_f rfl ?_; conv => whnf)
    | (refine br_t (by assumption) ?_; conv => whnf)
    | (refine br_f (by assumption) ?_; conv => whnf)
    | (refine br_s (fun hb => ?_) (fun hb => ?_) <;> (try simp only [beq_iff_eq, bne_iff_ne, ne_eq, decide_eq_true_eq, decide_eq_false_iff_not, Int.not_lt, Int.not_le, Bool.false_eq_true, if_false, if_true, beq_eq_false_iff_ne, bne_eq_false_iff_eq, Bool.not_eq_true', Bool.not_eq_false', Int.ofNat_lt, Int.ofNat_le, Int.ofNat_inj, List.length_map, List.length_nil, List.length_cons] at hb) <;> conv => whnf)
    | (refine lend_s ?_; conv => whnf)
    
    )
  · exact ⟨own_sh (by simpa using hz)⟩
  · exact ⟨Sh.flat_map (fun _ => rfl) _⟩
theorem c61 (h : Hst) (hs : Small h) : Con Try.prog 61 [hostV h] (undefs [hostV h]) (hostO h) := by
  refine Con.ev 20 T_ok mix Try.func61 rfl rfl rfl rfl [.cell 2 63] rfl ?_
  conv => whnf
  repeat' (first
    | (refine rq_s (by first | rfl | (refine and_s rfl ?_; simp only [decide_eq_true_eq, List.length_map]; omega) | (simp only [Bool.and_eq_true, decide_eq_true_eq, List.length_map]; omega) | (simp; done) | (simp; omega) ) ?_; conv => whnf)
    | (refine aft_s (by first | rfl | (simp [AV.rowsN, List.length_map, mkB_len, mkI_len, mkD_len]; done)) rfl ?_; conv => whnf)
    | (refine nil_s (fun hz => ?_) ?_ <;> conv => whnf)
    | (refine row_s (by first | (try simp only [Int.toNat_natCast]); exact row_map dealR _ _ _ default (by first | omega | (simp; omega))) ?_; conv => whnf)
    | (refine rows_s (by first | (refine sub_all ?_; simp [List.length_map, mkB_len, mkI_len, mkD_len]; done) | exact sub_map _ _ _ _ | rfl) ?_; conv => whnf)
    | (refine fac_s (fun hf => ?_); conv => whnf)
    | (refine ChkS.mk (by kernel_rfl) ?_; conv => whnf)
    | (refine br_t rfl ?_; conv => whnf)
    | (refine br_f rfl ?_; conv => whnf)
    | (refine br_t (by assumption) ?_; conv => whnf)
    | (refine br_f (by assumption) ?_; conv => whnf)
    | (refine br_s (fun hb => ?_) (fun hb => ?_) <;> (try simp only [beq_iff_eq, bne_iff_ne, ne_eq, decide_eq_true_eq, decide_eq_false_iff_not, Int.not_lt, Int.not_le, Bool.false_eq_true, if_false, if_true, beq_eq_false_iff_ne, bne_eq_false_iff_eq, Bool.not_eq_true', Bool.not_eq_false', Int.ofNat_lt, Int.ofNat_le, Int.ofNat_inj, List.length_map, List.length_nil, List.length_cons] at hb) <;> conv => whnf)
    | (refine lend_s ?_; conv => whnf)
    | ((first | refine call_s (c81 _ hs.gr) ?_ | refine call_s (c82 _ hs.st) ?_ | refine call_s (c82 _ hs.q) ?_ | refine call_s (c83 _ hs.ds) ?_); conv => whnf)
    | (refine sh_s ?_; rfl))
end U14
