/- The texts of actions: contracts. -/
import Derived.Test.YtbngkaiocdpliaaDoorTextB
set_option linter.unusedVariables false
set_option linter.unusedSimpArgs false
set_option maxRecDepth 100000
open Go Go.Abs Go.Proofs U20 U21
namespace U22

def strR (s : List UInt8) : List AV := [.str s]
def actW : List (List UInt8) := [[103, 114, 97, 110, 116], [114, 101, 118, 111, 107, 101], [114, 101, 102, 117, 101, 108], [97, 110, 115, 119, 101, 114], [116, 105, 99, 107]]
def actX : List (List UInt8) := [[103, 114, 97, 110, 116], [114, 101, 118, 111, 107, 101], [114, 101, 102, 117, 101, 108], [97, 110, 115, 119, 101, 114], [116, 105, 99, 107], [101, 118, 97, 108]]
def capW : List (List UInt8) := [[114, 101, 97, 100], [119, 114, 105, 116, 101], [97, 115, 107], [116, 105, 109, 101]]
theorem c11 : Con Tryd.prog 11 [] (undefs []) (.own 0 [.str []] (actW.map strR)) := by
  refine Con.ev 2 T_ok mix Tryd.func11 rfl rfl rfl rfl [.tmp 0] rfl ?_
  conv => whnf
  repeat' (first
    | (refine rq_s (by first | rfl | (refine and_s rfl ?_; simp only [decide_eq_true_eq, List.length_map]; omega) | (simp only [Bool.and_eq_true, decide_eq_true_eq, List.length_map]; omega) | (simp; done) | (simp; omega) ) ?_; conv => whnf)
    | (refine aft_s (by first | rfl | (simp [AV.rowsN, List.length_map]; done)) rfl ?_; conv => whnf)
    | (refine nil_s (fun hz => ?_) ?_ <;> conv => whnf)
    | (refine row_s (by first | rfl) ?_; conv => whnf)
    | (refine rows_s (by first | (refine sub_all ?_; simp [List.length_map]; done) | exact sub_map _ _ _ _ | rfl) ?_; conv => whnf)
    | (refine fac_s (fun hf => ?_); conv => whnf)
    | (refine ChkS.mk (by kernel_rfl) ?_; conv => whnf)
    | (refine br_t rfl ?_; conv => whnf)
    | (refine br_f rfl ?_; conv => whnf)
    | (refine br_t (by assumption) ?_; conv => whnf)
    | (refine br_f (by assumption) ?_; conv => whnf)
    | (refine br_s (fun hb => ?_) (fun hb => ?_) <;> (try simp only [beq_iff_eq, bne_iff_ne, ne_eq, decide_eq_true_eq, decide_eq_false_iff_not, Int.not_lt, Int.not_le, Bool.false_eq_true, if_false, if_true, beq_eq_false_iff_ne, bne_eq_false_iff_eq, Bool.not_eq_true', Bool.not_eq_false', Int.ofNat_lt, Int.ofNat_le, Int.ofNat_inj, List.length_map, List.length_nil, List.length_cons] at hb) <;> conv => whnf)
    | (refine lend_s ?_; conv => whnf)
    
    | (refine sh_s ?_; rfl))
theorem c16 : Con Tryd.prog 16 [] (undefs []) (.own 0 [.str []] (actX.map strR)) := by
  refine Con.ev 2 T_ok mix Tryd.func16 rfl rfl rfl rfl [.tmp 0] rfl ?_
  conv => whnf
  repeat' (first
    | (refine rq_s (by first | rfl | (refine and_s rfl ?_; simp only [decide_eq_true_eq, List.length_map]; omega) | (simp only [Bool.and_eq_true, decide_eq_true_eq, List.length_map]; omega) | (simp; done) | (simp; omega) ) ?_; conv => whnf)
    | (refine aft_s (by first | rfl | (simp [AV.rowsN, List.length_map]; done)) rfl ?_; conv => whnf)
    | (refine nil_s (fun hz => ?_) ?_ <;> conv => whnf)
    | (refine row_s (by first | rfl) ?_; conv => whnf)
    | (refine rows_s (by first | (refine sub_all ?_; simp [List.length_map]; done) | exact sub_map _ _ _ _ | rfl) ?_; conv => whnf)
    | (refine fac_s (fun hf => ?_); conv => whnf)
    | (refine ChkS.mk (by kernel_rfl) ?_; conv => whnf)
    | (refine br_t rfl ?_; conv => whnf)
    | (refine br_f rfl ?_; conv => whnf)
    | (refine br_t (by assumption) ?_; conv => whnf)
    | (refine br_f (by assumption) ?_; conv => whnf)
    | (refine br_s (fun hb => ?_) (fun hb => ?_) <;> (try simp only [beq_iff_eq, bne_iff_ne, ne_eq, decide_eq_true_eq, decide_eq_false_iff_not, Int.not_lt, Int.not_le, Bool.false_eq_true, if_false, if_true, beq_eq_false_iff_ne, bne_eq_false_iff_eq, Bool.not_eq_true', Bool.not_eq_false', Int.ofNat_lt, Int.ofNat_le, Int.ofNat_inj, List.length_map, List.length_nil, List.length_cons] at hb) <;> conv => whnf)
    | (refine lend_s ?_; conv => whnf)
    
    | (refine sh_s ?_; rfl))
theorem c12 : Con Tryd.prog 12 [] (undefs []) (.own 0 [.str []] (capW.map strR)) := by
  refine Con.ev 2 T_ok mix Tryd.func12 rfl rfl rfl rfl [.tmp 0] rfl ?_
  conv => whnf
  repeat' (first
    | (refine rq_s (by first | rfl | (refine and_s rfl ?_; simp only [decide_eq_true_eq, List.length_map]; omega) | (simp only [Bool.and_eq_true, decide_eq_true_eq, List.length_map]; omega) | (simp; done) | (simp; omega) ) ?_; conv => whnf)
    | (refine aft_s (by first | rfl | (simp [AV.rowsN, List.length_map]; done)) rfl ?_; conv => whnf)
    | (refine nil_s (fun hz => ?_) ?_ <;> conv => whnf)
    | (refine row_s (by first | rfl) ?_; conv => whnf)
    | (refine rows_s (by first | (refine sub_all ?_; simp [List.length_map]; done) | exact sub_map _ _ _ _ | rfl) ?_; conv => whnf)
    | (refine fac_s (fun hf => ?_); conv => whnf)
    | (refine ChkS.mk (by kernel_rfl) ?_; conv => whnf)
    | (refine br_t rfl ?_; conv => whnf)
    | (refine br_f rfl ?_; conv => whnf)
    | (refine br_t (by assumption) ?_; conv => whnf)
    | (refine br_f (by assumption) ?_; conv => whnf)
    | (refine br_s (fun hb => ?_) (fun hb => ?_) <;> (try simp only [beq_iff_eq, bne_iff_ne, ne_eq, decide_eq_true_eq, decide_eq_false_iff_not, Int.not_lt, Int.not_le, Bool.false_eq_true, if_false, if_true, beq_eq_false_iff_ne, bne_eq_false_iff_eq, Bool.not_eq_true', Bool.not_eq_false', Int.ofNat_lt, Int.ofNat_le, Int.ofNat_inj, List.length_map, List.length_nil, List.length_cons] at hb) <;> conv => whnf)
    | (refine lend_s ?_; conv => whnf)
    
    | (refine sh_s ?_; rfl))
theorem c17 : Con Tryd.prog 17 [] (undefs []) (.own 0 [.str []] (capW.map strR)) := by
  refine Con.ev 2 T_ok mix Tryd.func17 rfl rfl rfl rfl [.tmp 0] rfl ?_
  conv => whnf
  repeat' (first
    | (refine rq_s (by first | rfl | (refine and_s rfl ?_; simp only [decide_eq_true_eq, List.length_map]; omega) | (simp only [Bool.and_eq_true, decide_eq_true_eq, List.length_map]; omega) | (simp; done) | (simp; omega) ) ?_; conv => whnf)
    | (refine aft_s (by first | rfl | (simp [AV.rowsN, List.length_map]; done)) rfl ?_; conv => whnf)
    | (refine nil_s (fun hz => ?_) ?_ <;> conv => whnf)
    | (refine row_s (by first | rfl) ?_; conv => whnf)
    | (refine rows_s (by first | (refine sub_all ?_; simp [List.length_map]; done) | exact sub_map _ _ _ _ | rfl) ?_; conv => whnf)
    | (refine fac_s (fun hf => ?_); conv => whnf)
    | (refine ChkS.mk (by kernel_rfl) ?_; conv => whnf)
    | (refine br_t rfl ?_; conv => whnf)
    | (refine br_f rfl ?_; conv => whnf)
    | (refine br_t (by assumption) ?_; conv => whnf)
    | (refine br_f (by assumption) ?_; conv => whnf)
    | (refine br_s (fun hb => ?_) (fun hb => ?_) <;> (try simp only [beq_iff_eq, bne_iff_ne, ne_eq, decide_eq_true_eq, decide_eq_false_iff_not, Int.not_lt, Int.not_le, Bool.false_eq_true, if_false, if_true, beq_eq_false_iff_ne, bne_eq_false_iff_eq, Bool.not_eq_true', Bool.not_eq_false', Int.ofNat_lt, Int.ofNat_le, Int.ofNat_inj, List.length_map, List.length_nil, List.length_cons] at hb) <;> conv => whnf)
    | (refine lend_s ?_; conv => whnf)
    
    | (refine sh_s ?_; rfl))
def spacedL (xs : List Int) : List UInt8 := xs.flatMap fun n => 32 :: Lib.itoa n
theorem itoa_len {n : Int} (h0 : -9223372036854775808 ≤ n) (h1 : n ≤ 9223372036854775807) : (Lib.itoa n).length ≤ 21 := Lib.itoa_length_le n h0 h1
theorem spaced_len (xs : List Int) (h : ∀ x ∈ xs, -9223372036854775808 ≤ x ∧ x ≤ 9223372036854775807) : (spacedL xs).length ≤ 22 * xs.length := by
  induction xs with
  | nil => simp [spacedL]
  | cons x xs ih =>
    have h1 := itoa_len (h x (by simp)).1 (h x (by simp)).2
    have h2 := ih fun y hy => h y (by simp [hy])
    simp only [spacedL, List.flatMap_cons, List.length_append, List.length_cons] at h2 ⊢
    omega

theorem c13 (xs : List Int) (hl : xs.length ≤ 1000) (hx : ∀ x ∈ xs, -9223372036854775808 ≤ x ∧ x ≤ 9223372036854775807) : Con Tryd.prog 13 [roI xs] (undefs [roI xs]) (.str (spacedL xs)) := by
  refine Con.ev 19 T_ok mix Tryd.func13 rfl rfl rfl rfl [.tmp 2] rfl ?_
  conv => whnf
  repeat' (first
    | (refine rq_s (by first | rfl | (refine and_s rfl ?_; simp only [decide_eq_true_eq, List.length_map]; omega) | (simp only [Bool.and_eq_true, decide_eq_true_eq, List.length_map]; omega) | (simp; done) | (simp; omega) ) ?_; conv => whnf)
    | (refine aft_s (by first | rfl | (simp [AV.rowsN, List.length_map]; done)) rfl ?_; conv => whnf)
    | (refine nil_s (fun hz => ?_) ?_ <;> conv => whnf)
    | (refine row_s (by first | (try simp only [Int.toNat_natCast]); exact row_map intR _ _ _ default (by first | omega | (simp; omega))) ?_; conv => whnf)
    | (refine rows_s (by first | (refine sub_all ?_; simp [List.length_map]; done) | exact sub_map _ _ _ _ | rfl) ?_; conv => whnf)
    | (refine fac_s (fun hf => ?_); conv => whnf)
    | (refine ChkS.mk (by kernel_rfl) ?_; conv => whnf)
    | (refine br_t rfl ?_; conv => whnf)
    | (refine br_f rfl ?_; conv => whnf)
    | (refine br_t (by assumption) ?_; conv => whnf)
    | (refine br_f (by assumption) ?_; conv => whnf)
    | (refine br_s (fun hb => ?_) (fun hb => ?_) <;> (try simp only [beq_iff_eq, bne_iff_ne, ne_eq, decide_eq_true_eq, decide_eq_false_iff_not, Int.not_lt, Int.not_le, Bool.false_eq_true, if_false, if_true, beq_eq_false_iff_ne, bne_eq_false_iff_eq, Bool.not_eq_true', Bool.not_eq_false', Int.ofNat_lt, Int.ofNat_le, Int.ofNat_inj, List.length_map, List.length_nil, List.length_cons] at hb) <;> conv => whnf)
    | (refine lend_s ?_; conv => whnf)
    
    )
  refine LoopG.rounds (α := Nat) T_ok mix [3, 6, 7, 8] [] (fun i => [(3, .str (spacedL (xs.take i))), (6, roI xs), (7, .int .i64 xs.length), (8, .int .i64 i)]) (fun _ => []) (fun i => i ≤ xs.length) (fun i => xs.length - i) ?_ ?_
  · conv => whnf
    exact head_s 0 (by simp) (by simp [roI, spacedL]) rfl
  · intro i hi _ _
    have hsl := spaced_len (xs.take i) fun x h => hx x (List.mem_of_mem_take h)
    have hti : (xs.take i).length ≤ 1000 := by simp; omega
    conv => whnf
    repeat' (first
    | (refine rq_s (by first | rfl | (refine and_s rfl ?_; simp only [decide_eq_true_eq, List.length_map]; omega) | (simp only [Bool.and_eq_true, decide_eq_true_eq, List.length_map]; omega) | (simp; done) | (simp; omega) ) ?_; conv => whnf)
    | (refine aft_s (by first | rfl | (simp [AV.rowsN, List.length_map]; done)) rfl ?_; conv => whnf)
    | (refine nil_s (fun hz => ?_) ?_ <;> conv => whnf)
    | (refine row_s (by first | (try simp only [Int.toNat_natCast]); exact row_map intR _ _ _ default (by first | omega | (simp; omega))) ?_; conv => whnf)
    | (refine rows_s (by first | (refine sub_all ?_; simp [List.length_map]; done) | exact sub_map _ _ _ _ | rfl) ?_; conv => whnf)
    | (refine fac_s (fun hf => ?_); conv => whnf)
    | (refine ChkS.mk (by kernel_rfl) ?_; conv => whnf)
    | (refine br_t rfl ?_; conv => whnf)
    | (refine br_f rfl ?_; conv => whnf)
    | (refine br_t (by assumption) ?_; conv => whnf)
    | (refine br_f (by assumption) ?_; conv => whnf)
    | (refine br_s (fun hb => ?_) (fun hb => ?_) <;> (try simp only [beq_iff_eq, bne_iff_ne, ne_eq, decide_eq_true_eq, decide_eq_false_iff_not, Int.not_lt, Int.not_le, Bool.false_eq_true, if_false, if_true, beq_eq_false_iff_ne, bne_eq_false_iff_eq, Bool.not_eq_true', Bool.not_eq_false', Int.ofNat_lt, Int.ofNat_le, Int.ofNat_inj, List.length_map, List.length_nil, List.length_cons] at hb) <;> conv => whnf)
    | (refine lend_s ?_; conv => whnf)
    
    )
    · have hi2 : i < xs.length := by omega
      have hxi : xs.getD i default = xs[i] := by simp [hi2]
      have hil := itoa_len (hx xs[i] (List.getElem_mem hi2)).1 (hx xs[i] (List.getElem_mem hi2)).2
      repeat' (first
    | (refine rq_s (by first | rfl | (refine and_s rfl ?_; simp only [decide_eq_true_eq, List.length_map]; omega) | (simp only [Bool.and_eq_true, decide_eq_true_eq, List.length_map]; omega) | (simp; done) | (simp; omega) | ((simp only [maxStr, List.length_append, List.length_cons, hxi, decide_eq_true_eq]; simp; omega))) ?_; conv => whnf)
    | (refine aft_s (by first | rfl | (simp [AV.rowsN, List.length_map]; done)) rfl ?_; conv => whnf)
    | (refine nil_s (fun hz => ?_) ?_ <;> conv => whnf)
    | (refine row_s (by first | (try simp only [Int.toNat_natCast]); exact row_map intR _ _ _ default (by first | omega | (simp; omega))) ?_; conv => whnf)
    | (refine rows_s (by first | (refine sub_all ?_; simp [List.length_map]; done) | exact sub_map _ _ _ _ | rfl) ?_; conv => whnf)
    | (refine fac_s (fun hf => ?_); conv => whnf)
    | (refine ChkS.mk (by kernel_rfl) ?_; conv => whnf)
    | (refine br_t rfl ?_; conv => whnf)
    | (refine br_f rfl ?_; conv => whnf)
    | (refine br_t (by assumption) ?_; conv => whnf)
    | (refine br_f (by assumption) ?_; conv => whnf)
    | (refine br_s (fun hb => ?_) (fun hb => ?_) <;> (try simp only [beq_iff_eq, bne_iff_ne, ne_eq, decide_eq_true_eq, decide_eq_false_iff_not, Int.not_lt, Int.not_le, Bool.false_eq_true, if_false, if_true, beq_eq_false_iff_ne, bne_eq_false_iff_eq, Bool.not_eq_true', Bool.not_eq_false', Int.ofNat_lt, Int.ofNat_le, Int.ofNat_inj, List.length_map, List.length_nil, List.length_cons] at hb) <;> conv => whnf)
    | (refine lend_s ?_; conv => whnf)
    | ((first | refine call_s (c22 ..) ?_); conv => whnf)
    )
      have e : spacedL (xs.take (i + 1)) = spacedL (xs.take i) ++ (32 :: Lib.itoa (xs.getD i default)) := by
        rw [hxi, List.take_succ_eq_append_getElem hi2, spacedL, List.flatMap_append]
        simp only [List.flatMap_cons, List.flatMap_nil, List.append_nil]
        rfl
      refine head_s (i + 1) ⟨by omega, by omega⟩ ?_ rfl
      rw [wrap64 (by omega) (by omega), e]
      rfl
    · obtain rfl : i = xs.length := by omega
      refine sh_s ?_
      rw [List.take_length]
/-- The text of an action that may stand. -/
def actT (a : Doing) : List UInt8 :=
  if a.k = 6 then [101, 118, 97, 108, 32] ++ a.l else if a.k ≤ 2 then actW.getD (a.k - 1).toNat [] ++ [32] ++ capW.getD a.n.toNat [] else actW.getD (a.k - 1).toNat [] ++ (32 :: Lib.itoa a.n)
theorem act_cases {a : Doing} (h : actOK a = true) : (∃ k n, (k = 1 ∨ k = 2) ∧ (n = 0 ∨ n = 1 ∨ n = 2 ∨ n = 3) ∧ a = ⟨k, n, []⟩) ∨ (∃ k n, (k = 3 ∨ k = 4 ∨ k = 5) ∧ (-2147483648 ≤ n ∧ n ≤ 2147483647) ∧ a = ⟨k, n, []⟩) ∨ ∃ l : List UInt8, l.length ≤ 400 ∧ a = ⟨6, 0, l⟩ := by
  obtain ⟨k, n, l⟩ := a
  unfold actOK inR at h
  simp only at h
  by_cases h12 : k = 1 ∨ k = 2
  · rw [if_pos h12] at h
    simp only [Bool.and_eq_true, decide_eq_true_eq] at h
    obtain ⟨⟨h1, h2⟩, rfl⟩ := h
    exact .inl ⟨k, n, h12, by omega, rfl⟩
  · rw [if_neg h12] at h
    by_cases h3 : k = 3
    · rw [if_pos h3] at h
      simp only [Bool.and_eq_true, decide_eq_true_eq] at h
      obtain ⟨⟨h1, h2⟩, rfl⟩ := h
      exact .inr (.inl ⟨k, n, .inl h3, by omega, rfl⟩)
    · rw [if_neg h3] at h
      by_cases h4 : k = 4
      · rw [if_pos h4] at h
        simp only [Bool.and_eq_true, decide_eq_true_eq] at h
        obtain ⟨⟨h1, h2⟩, rfl⟩ := h
        exact .inr (.inl ⟨k, n, .inr (.inl h4), by omega, rfl⟩)
      · rw [if_neg h4] at h
        by_cases h5 : k = 5
        · rw [if_pos h5] at h
          simp only [Bool.and_eq_true, decide_eq_true_eq] at h
          obtain ⟨⟨h1, h2⟩, rfl⟩ := h
          exact .inr (.inl ⟨k, n, .inr (.inr h5), by omega, rfl⟩)
        · rw [if_neg h5] at h
          simp only [Bool.and_eq_true, decide_eq_true_eq] at h
          obtain ⟨⟨rfl, rfl⟩, h⟩ := h
          exact .inr (.inr ⟨l, h, rfl⟩)

theorem c9 (a : Doing) (h : actOK a = true) : Con Tryd.prog 9 [actV a] (undefs [actV a]) (.str (actT a)) := by
  rcases act_cases h with ⟨k, n, hk, hn, rfl⟩ | ⟨k, n, hk, hn, rfl⟩ | ⟨l, hl, rfl⟩
  · rcases hk with rfl | rfl <;> rcases hn with rfl | rfl | rfl | rfl <;>
    (refine Con.ev 36 T_ok mix Tryd.func9 rfl rfl rfl rfl [.tmp 2] rfl ?_
     conv => whnf
     repeat' (first
    | (refine rq_s (by first | rfl | (refine and_s rfl ?_; simp only [decide_eq_true_eq, List.length_map]; omega) | (simp only [Bool.and_eq_true, decide_eq_true_eq, List.length_map]; omega) | (simp; done) | (simp; omega) ) ?_; conv => whnf)
    | (refine aft_s (by first | rfl | (simp [AV.rowsN, List.length_map]; done)) rfl ?_; conv => whnf)
    | (refine nil_s (fun hz => ?_) ?_ <;> conv => whnf)
    | (refine row_s (by first | rfl) ?_; conv => whnf)
    | (refine rows_s (by first | (refine sub_all ?_; simp [List.length_map]; done) | exact sub_map _ _ _ _ | rfl) ?_; conv => whnf)
    | (refine fac_s (fun hf => ?_); conv => whnf)
    | (refine ChkS.mk (by kernel_rfl) ?_; conv => whnf)
    | (refine br_t rfl ?_; conv => whnf)
    | (refine br_f rfl ?_; conv => whnf)
    | (refine br_t (by assumption) ?_; conv => whnf)
    | (refine br_f (by assumption) ?_; conv => whnf)
    | (refine br_s (fun hb => ?_) (fun hb => ?_) <;> (try simp only [beq_iff_eq, bne_iff_ne, ne_eq, decide_eq_true_eq, decide_eq_false_iff_not, Int.not_lt, Int.not_le, Bool.false_eq_true, if_false, if_true, beq_eq_false_iff_ne, bne_eq_false_iff_eq, Bool.not_eq_true', Bool.not_eq_false', Int.ofNat_lt, Int.ofNat_le, Int.ofNat_inj, List.length_map, List.length_nil, List.length_cons] at hb) <;> conv => whnf)
    | (refine lend_s ?_; conv => whnf)
    | ((first | refine call_s (c16 ..) ?_ | refine call_s (c17 ..) ?_); conv => whnf)
    | (refine sh_s ?_; rfl)))
  · have hil := itoa_len (n := n) (by omega) (by omega)
    rcases hk with rfl | rfl | rfl <;>
    (refine Con.ev 36 T_ok mix Tryd.func9 rfl rfl rfl rfl [.tmp 2] rfl ?_
     conv => whnf
     repeat' (first
    | (refine rq_s (by first | rfl | (refine and_s rfl ?_; simp only [decide_eq_true_eq, List.length_map]; omega) | (simp only [Bool.and_eq_true, decide_eq_true_eq, List.length_map]; omega) | (simp; done) | (simp; omega) | ((simp [maxStr]; omega))) ?_; conv => whnf)
    | (refine aft_s (by first | rfl | (simp [AV.rowsN, List.length_map]; done)) rfl ?_; conv => whnf)
    | (refine nil_s (fun hz => ?_) ?_ <;> conv => whnf)
    | (refine row_s (by first | rfl) ?_; conv => whnf)
    | (refine rows_s (by first | (refine sub_all ?_; simp [List.length_map]; done) | exact sub_map _ _ _ _ | rfl) ?_; conv => whnf)
    | (refine fac_s (fun hf => ?_); conv => whnf)
    | (refine ChkS.mk (by kernel_rfl) ?_; conv => whnf)
    | (refine br_t rfl ?_; conv => whnf)
    | (refine br_f rfl ?_; conv => whnf)
    | (refine br_t (by assumption) ?_; conv => whnf)
    | (refine br_f (by assumption) ?_; conv => whnf)
    | (refine br_s (fun hb => ?_) (fun hb => ?_) <;> (try simp only [beq_iff_eq, bne_iff_ne, ne_eq, decide_eq_true_eq, decide_eq_false_iff_not, Int.not_lt, Int.not_le, Bool.false_eq_true, if_false, if_true, beq_eq_false_iff_ne, bne_eq_false_iff_eq, Bool.not_eq_true', Bool.not_eq_false', Int.ofNat_lt, Int.ofNat_le, Int.ofNat_inj, List.length_map, List.length_nil, List.length_cons] at hb) <;> conv => whnf)
    | (refine lend_s ?_; conv => whnf)
    | ((first | refine call_s (c16 ..) ?_ | refine call_s (c17 ..) ?_ | refine call_s (c18 ..) ?_); conv => whnf)
    | (refine sh_s ?_; rfl)))
  · refine Con.ev 36 T_ok mix Tryd.func9 rfl rfl rfl rfl [.tmp 2] rfl ?_
    conv => whnf
    repeat' (first
    | (refine rq_s (by first | rfl | (refine and_s rfl ?_; simp only [decide_eq_true_eq, List.length_map]; omega) | (simp only [Bool.and_eq_true, decide_eq_true_eq, List.length_map]; omega) | (simp; done) | (simp; omega) | ((simp [maxStr]; omega))) ?_; conv => whnf)
    | (refine aft_s (by first | rfl | (simp [AV.rowsN, List.length_map]; done)) rfl ?_; conv => whnf)
    | (refine nil_s (fun hz => ?_) ?_ <;> conv => whnf)
    | (refine row_s (by first | rfl) ?_; conv => whnf)
    | (refine rows_s (by first | (refine sub_all ?_; simp [List.length_map]; done) | exact sub_map _ _ _ _ | rfl) ?_; conv => whnf)
    | (refine fac_s (fun hf => ?_); conv => whnf)
    | (refine ChkS.mk (by kernel_rfl) ?_; conv => whnf)
    | (refine br_t rfl ?_; conv => whnf)
    | (refine br_f rfl ?_; conv => whnf)
    | (refine br_t (by assumption) ?_; conv => whnf)
    | (refine br_f (by assumption) ?_; conv => whnf)
    | (refine br_s (fun hb => ?_) (fun hb => ?_) <;> (try simp only [beq_iff_eq, bne_iff_ne, ne_eq, decide_eq_true_eq, decide_eq_false_iff_not, Int.not_lt, Int.not_le, Bool.false_eq_true, if_false, if_true, beq_eq_false_iff_ne, bne_eq_false_iff_eq, Bool.not_eq_true', Bool.not_eq_false', Int.ofNat_lt, Int.ofNat_le, Int.ofNat_inj, List.length_map, List.length_nil, List.length_cons] at hb) <;> conv => whnf)
    | (refine lend_s ?_; conv => whnf)
    | ((first | refine call_s (c16 ..) ?_ | refine call_s (c17 ..) ?_); conv => whnf)
    | (refine sh_s ?_; rfl))
def tT (a : Doing) : List UInt8 := if actOK a = true then actT a else []
def tC (a : Doing) : Int := if actOK a = true then 0 else 1
def textV (a : Doing) : AV := .tup [.str (tT a), .int .i64 (tC a)]
theorem c5 (a : Doing) : Con Tryd.prog 5 [actV a] (undefs [actV a]) (textV a) := by
  by_cases h : actOK a = true
  · refine Con.ev 9 T_ok mix Tryd.func5 rfl rfl rfl rfl [.tmp 2, .tmp 3] rfl ?_
    conv => whnf
    repeat' (first
    | (refine rq_s (by first | rfl | (refine and_s rfl ?_; simp only [decide_eq_true_eq, List.length_map]; omega) | (simp only [Bool.and_eq_true, decide_eq_true_eq, List.length_map]; omega) | (simp; done) | (simp; omega) ) ?_; conv => whnf)
    | (refine aft_s (by first | rfl | (simp [AV.rowsN, List.length_map]; done)) rfl ?_; conv => whnf)
    | (refine nil_s (fun hz => ?_) ?_ <;> conv => whnf)
    | (refine row_s (by first | rfl) ?_; conv => whnf)
    | (refine rows_s (by first | (refine sub_all ?_; simp [List.length_map]; done) | exact sub_map _ _ _ _ | rfl) ?_; conv => whnf)
    | (refine fac_s (fun hf => ?_); conv => whnf)
    | (refine ChkS.mk (by kernel_rfl) ?_; conv => whnf)
    | (refine br_t rfl ?_; conv => whnf)
    | (refine br_f rfl ?_; conv => whnf)
    | (refine br_t (by assumption) ?_; conv => whnf)
    | (refine br_f (by assumption) ?_; conv => whnf)
    | (refine br_s (fun hb => ?_) (fun hb => ?_) <;> (try simp only [beq_iff_eq, bne_iff_ne, ne_eq, decide_eq_true_eq, decide_eq_false_iff_not, Int.not_lt, Int.not_le, Bool.false_eq_true, if_false, if_true, beq_eq_false_iff_ne, bne_eq_false_iff_eq, Bool.not_eq_true', Bool.not_eq_false', Int.ofNat_lt, Int.ofNat_le, Int.ofNat_inj, List.length_map, List.length_nil, List.length_cons] at hb) <;> conv => whnf)
    | (refine lend_s ?_; conv => whnf)
    | ((first | refine call_s (c8 ..) ?_ | refine call_s (c9 _ h) ?_); conv => whnf)
    | (refine sh_s ?_; simp_all [textV, tT, tC]))
  · refine Con.ev 9 T_ok mix Tryd.func5 rfl rfl rfl rfl [.tmp 2, .tmp 3] rfl ?_
    conv => whnf
    repeat' (first
    | (refine rq_s (by first | rfl | (refine and_s rfl ?_; simp only [decide_eq_true_eq, List.length_map]; omega) | (simp only [Bool.and_eq_true, decide_eq_true_eq, List.length_map]; omega) | (simp; done) | (simp; omega) ) ?_; conv => whnf)
    | (refine aft_s (by first | rfl | (simp [AV.rowsN, List.length_map]; done)) rfl ?_; conv => whnf)
    | (refine nil_s (fun hz => ?_) ?_ <;> conv => whnf)
    | (refine row_s (by first | rfl) ?_; conv => whnf)
    | (refine rows_s (by first | (refine sub_all ?_; simp [List.length_map]; done) | exact sub_map _ _ _ _ | rfl) ?_; conv => whnf)
    | (refine fac_s (fun hf => ?_); conv => whnf)
    | (refine ChkS.mk (by kernel_rfl) ?_; conv => whnf)
    | (refine br_t rfl ?_; conv => whnf)
    | (refine br_f rfl ?_; conv => whnf)
    | (refine br_t (by assumption) ?_; conv => whnf)
    | (refine br_f (by assumption) ?_; conv => whnf)
    | (refine br_s (fun hb => ?_) (fun hb => ?_) <;> (try simp only [beq_iff_eq, bne_iff_ne, ne_eq, decide_eq_true_eq, decide_eq_false_iff_not, Int.not_lt, Int.not_le, Bool.false_eq_true, if_false, if_true, beq_eq_false_iff_ne, bne_eq_false_iff_eq, Bool.not_eq_true', Bool.not_eq_false', Int.ofNat_lt, Int.ofNat_le, Int.ofNat_inj, List.length_map, List.length_nil, List.length_cons] at hb) <;> conv => whnf)
    | (refine lend_s ?_; conv => whnf)
    | ((first | refine call_s (c8 ..) ?_); conv => whnf)
    | (refine sh_s ?_; simp_all [textV, tT, tC]))
    simp_all
theorem c7 (a : Doing) : Con Tryd.prog 7 [actV a] (undefs [actV a]) (textV a) := by
  by_cases h : actOK a = true
  · have e : textV a = .tup [.str (actT a), .int .i64 0] := by simp [textV, tT, tC, h]
    rw [e]
    have hk0 : (!actOK a) = false := by simp [h]
    rcases act_cases h with ⟨k, n, hk, hn, rfl⟩ | ⟨k, n, hk, hn, rfl⟩ | ⟨l, hl, rfl⟩
    · rcases hk with rfl | rfl <;> rcases hn with rfl | rfl | rfl | rfl <;>
      (refine Con.ev 43 T_ok mix Tryd.func7 rfl rfl rfl rfl [.tmp 2, .tmp 3] rfl ?_
       conv => whnf
       repeat' (first
    | (refine rq_s (by first | rfl | (refine and_s rfl ?_; simp only [decide_eq_true_eq, List.length_map]; omega) | (simp only [Bool.and_eq_true, decide_eq_true_eq, List.length_map]; omega) | (simp; done) | (simp; omega) ) ?_; conv => whnf)
    | (refine aft_s (by first | rfl | (simp [AV.rowsN, List.length_map]; done)) rfl ?_; conv => whnf)
    | (refine nil_s (fun hz => ?_) ?_ <;> conv => whnf)
    | (refine row_s (by first | rfl) ?_; conv => whnf)
    | (refine rows_s (by first | (refine sub_all ?_; simp [List.length_map]; done) | exact sub_map _ _ _ _ | rfl) ?_; conv => whnf)
    | (refine fac_s (fun hf => ?_); conv => whnf)
    | (refine ChkS.mk (by kernel_rfl) ?_; conv => whnf)
    | (refine br_t rfl ?_; conv => whnf)
    | (refine br_f rfl ?_; conv => whnf)
    | (refine br_t (by assumption) ?_; conv => whnf)
    | (refine br_f (by assumption) ?_; conv => whnf)
    | (refine br_s (fun hb => ?_) (fun hb => ?_) <;> (try simp only [beq_iff_eq, bne_iff_ne, ne_eq, decide_eq_true_eq, decide_eq_false_iff_not, Int.not_lt, Int.not_le, Bool.false_eq_true, if_false, if_true, beq_eq_false_iff_ne, bne_eq_false_iff_eq, Bool.not_eq_true', Bool.not_eq_false', Int.ofNat_lt, Int.ofNat_le, Int.ofNat_inj, List.length_map, List.length_nil, List.length_cons] at hb) <;> conv => whnf)
    | (refine lend_s ?_; conv => whnf)
    | ((first | refine call_s (c10 ..) ?_ | refine call_s (c11 ..) ?_ | refine call_s (c12 ..) ?_); conv => whnf)
    | (refine sh_s ?_; rfl)))
    · have hil := itoa_len (n := n) (by omega) (by omega)
      have h_sp : Con Tryd.prog 13 [roI [n]] (undefs [roI [n]]) (.str (32 :: Lib.itoa n)) := by
        have := c13 [n] (by simp) (by simp; omega)
        simpa [spacedL] using this
      rcases hk with rfl | rfl | rfl <;>
      (refine Con.ev 43 T_ok mix Tryd.func7 rfl rfl rfl rfl [.tmp 2, .tmp 3] rfl ?_
       conv => whnf
       repeat' (first
    | (refine rq_s (by first | rfl | (refine and_s rfl ?_; simp only [decide_eq_true_eq, List.length_map]; omega) | (simp only [Bool.and_eq_true, decide_eq_true_eq, List.length_map]; omega) | (simp; done) | (simp; omega) | ((simp [maxStr]; omega))) ?_; conv => whnf)
    | (refine aft_s (by first | rfl | (simp [AV.rowsN, List.length_map]; done)) rfl ?_; conv => whnf)
    | (refine nil_s (fun hz => ?_) ?_ <;> conv => whnf)
    | (refine row_s (by first | rfl) ?_; conv => whnf)
    | (refine rows_s (by first | (refine sub_all ?_; simp [List.length_map]; done) | exact sub_map _ _ _ _ | rfl) ?_; conv => whnf)
    | (refine fac_s (fun hf => ?_); conv => whnf)
    | (refine ChkS.mk (by kernel_rfl) ?_; conv => whnf)
    | (refine br_t rfl ?_; conv => whnf)
    | (refine br_f rfl ?_; conv => whnf)
    | (refine br_t (by assumption) ?_; conv => whnf)
    | (refine br_f (by assumption) ?_; conv => whnf)
    | (refine br_s (fun hb => ?_) (fun hb => ?_) <;> (try simp only [beq_iff_eq, bne_iff_ne, ne_eq, decide_eq_true_eq, decide_eq_false_iff_not, Int.not_lt, Int.not_le, Bool.false_eq_true, if_false, if_true, beq_eq_false_iff_ne, bne_eq_false_iff_eq, Bool.not_eq_true', Bool.not_eq_false', Int.ofNat_lt, Int.ofNat_le, Int.ofNat_inj, List.length_map, List.length_nil, List.length_cons] at hb) <;> conv => whnf)
    | (refine lend_s ?_; conv => whnf)
    | ((first | refine call_s (c10 ..) ?_ | refine call_s (c11 ..) ?_ | refine call_s (c12 ..) ?_ | refine call_s (h_sp) ?_); conv => whnf)
    | (refine sh_s ?_; rfl)))
    · refine Con.ev 43 T_ok mix Tryd.func7 rfl rfl rfl rfl [.tmp 2, .tmp 3] rfl ?_
      conv => whnf
      repeat' (first
    | (refine rq_s (by first | rfl | (refine and_s rfl ?_; simp only [decide_eq_true_eq, List.length_map]; omega) | (simp only [Bool.and_eq_true, decide_eq_true_eq, List.length_map]; omega) | (simp; done) | (simp; omega) | ((simp [maxStr]; omega))) ?_; conv => whnf)
    | (refine aft_s (by first | rfl | (simp [AV.rowsN, List.length_map]; done)) rfl ?_; conv => whnf)
    | (refine nil_s (fun hz => ?_) ?_ <;> conv => whnf)
    | (refine row_s (by first | rfl) ?_; conv => whnf)
    | (refine rows_s (by first | (refine sub_all ?_; simp [List.length_map]; done) | exact sub_map _ _ _ _ | rfl) ?_; conv => whnf)
    | (refine fac_s (fun hf => ?_); conv => whnf)
    | (refine ChkS.mk (by kernel_rfl) ?_; conv => whnf)
    | (refine br_t rfl ?_; conv => whnf)
    | (refine br_f rfl ?_; conv => whnf)
    | (refine br_t (by assumption) ?_; conv => whnf)
    | (refine br_f (by assumption) ?_; conv => whnf)
    | (refine br_s (fun hb => ?_) (fun hb => ?_) <;> (try simp only [beq_iff_eq, bne_iff_ne, ne_eq, decide_eq_true_eq, decide_eq_false_iff_not, Int.not_lt, Int.not_le, Bool.false_eq_true, if_false, if_true, beq_eq_false_iff_ne, bne_eq_false_iff_eq, Bool.not_eq_true', Bool.not_eq_false', Int.ofNat_lt, Int.ofNat_le, Int.ofNat_inj, List.length_map, List.length_nil, List.length_cons] at hb) <;> conv => whnf)
    | (refine lend_s ?_; conv => whnf)
    | ((first | refine call_s (c10 ..) ?_ | refine call_s (c11 ..) ?_ | refine call_s (c12 ..) ?_); conv => whnf)
    | (refine sh_s ?_; rfl))
  · have hk0 : (!actOK a) = true := by simp [h]
    refine Con.ev 43 T_ok mix Tryd.func7 rfl rfl rfl rfl [.tmp 2, .tmp 3] rfl ?_
    conv => whnf
    repeat' (first
    | (refine rq_s (by first | rfl | (refine and_s rfl ?_; simp only [decide_eq_true_eq, List.length_map]; omega) | (simp only [Bool.and_eq_true, decide_eq_true_eq, List.length_map]; omega) | (simp; done) | (simp; omega) ) ?_; conv => whnf)
    | (refine aft_s (by first | rfl | (simp [AV.rowsN, List.length_map]; done)) rfl ?_; conv => whnf)
    | (refine nil_s (fun hz => ?_) ?_ <;> conv => whnf)
    | (refine row_s (by first | rfl) ?_; conv => whnf)
    | (refine rows_s (by first | (refine sub_all ?_; simp [List.length_map]; done) | exact sub_map _ _ _ _ | rfl) ?_; conv => whnf)
    | (refine fac_s (fun hf => ?_); conv => whnf)
    | (refine ChkS.mk (by kernel_rfl) ?_; conv => whnf)
    | (refine br_t rfl ?_; conv => whnf)
    | (refine br_f rfl ?_; conv => whnf)
    | (refine br_t (by assumption) ?_; conv => whnf)
    | (refine br_f (by assumption) ?_; conv => whnf)
    | (refine br_s (fun hb => ?_) (fun hb => ?_) <;> (try simp only [beq_iff_eq, bne_iff_ne, ne_eq, decide_eq_true_eq, decide_eq_false_iff_not, Int.not_lt, Int.not_le, Bool.false_eq_true, if_false, if_true, beq_eq_false_iff_ne, bne_eq_false_iff_eq, Bool.not_eq_true', Bool.not_eq_false', Int.ofNat_lt, Int.ofNat_le, Int.ofNat_inj, List.length_map, List.length_nil, List.length_cons] at hb) <;> conv => whnf)
    | (refine lend_s ?_; conv => whnf)
    | ((first | refine call_s (c10 ..) ?_); conv => whnf)
    | (refine sh_s ?_; simp_all [textV, tT, tC]))
theorem c3 (a : Doing) : Con Tryd.prog 3 [actV a] (undefs [actV a]) (.bool true) := by
  refine Con.ev 33 T_ok mix Tryd.func3 rfl rfl rfl rfl [.tmp 2] rfl ?_
  conv => whnf
  repeat' (first
    | (refine rq_s (by first | rfl | (refine and_s rfl ?_; simp only [decide_eq_true_eq, List.length_map]; omega) | (simp only [Bool.and_eq_true, decide_eq_true_eq, List.length_map]; omega) | (simp; done) | (simp; omega) ) ?_; conv => whnf)
    | (refine aft_s (by first | rfl | (simp [AV.rowsN, List.length_map]; done)) rfl ?_; conv => whnf)
    | (refine nil_s (fun hz => ?_) ?_ <;> conv => whnf)
    | (refine row_s (by first | rfl) ?_; conv => whnf)
    | (refine rows_s (by first | (refine sub_all ?_; simp [List.length_map]; done) | exact sub_map _ _ _ _ | rfl) ?_; conv => whnf)
    | (refine fac_s (fun hf => ?_); conv => whnf)
    | (refine ChkS.mk (by kernel_rfl) ?_; conv => whnf)
    | (refine br_t rfl ?_; conv => whnf)
    | (refine br_f rfl ?_; conv => whnf)
    | (refine br_t (by assumption) ?_; conv => whnf)
    | (refine br_f (by assumption) ?_; conv => whnf)
    | (refine br_s (fun hb => ?_) (fun hb => ?_) <;> (try simp only [beq_iff_eq, bne_iff_ne, ne_eq, decide_eq_true_eq, decide_eq_false_iff_not, Int.not_lt, Int.not_le, Bool.false_eq_true, if_false, if_true, beq_eq_false_iff_ne, bne_eq_false_iff_eq, Bool.not_eq_true', Bool.not_eq_false', Int.ofNat_lt, Int.ofNat_le, Int.ofNat_inj, List.length_map, List.length_nil, List.length_cons] at hb) <;> conv => whnf)
    | (refine lend_s ?_; conv => whnf)
    | ((first | refine call_s (c4 ..) ?_ | refine call_s (c6 ..) ?_ | refine call_s (c5 ..) ?_ | refine call_s (c7 ..) ?_); conv => whnf)
    | (refine sh_s ?_; first | rfl | (simp_all; done)))
theorem act_of {l : List AV} (h : OfT T 10 23 l) : ∃ a : Doing, l = actR a := by
  obtain ⟨_, _, rfl, ⟨k, rfl⟩, _, _, rfl, ⟨n, rfl⟩, _, _, rfl, ⟨s, rfl⟩, rfl⟩ := h
  exact ⟨⟨k, n, s⟩, rfl⟩
end U22
