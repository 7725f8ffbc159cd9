import Derived.Test.YtdbjklhadnnbdaaDoorItB
import Derived.Test.YtdbjklhadnnbdaaDoorItA
import Derived.Test.YtdbjklhadnnbdaaDoorAbse
/- Dictionaries: what is valid; contracts. -/
set_option linter.unusedVariables false
set_option linter.unusedSimpArgs false
set_option maxRecDepth 100000
open Go Go.Abs Go.Proofs V1 H1 K1 K2 K3
namespace K4


theorem wq (a b : Wd) : ((a.nm == b.nm) && ((a.k == b.k) && ((a.v == b.v) && true))) = decide (a = b) := by
  cases a; cases b
  rw [Bool.eq_iff_iff]
  simp
theorem eqW (xs ys : List Wd) : Con Tryd.prog 154 [roW xs, roW ys] (undefs [roW xs, roW ys]) (.bool (decide (xs = ys))) := by
  refine Con.evF 26 T_ok mix Tryd.func154 rfl rfl rfl rfl [.tmp 4] rfl fun ⟨hx, _⟩ => ?_
  have hx := facts_len hx
  conv => whnf
  (refine br_s (fun hb => ?_) (fun hb => ?_) <;> (try simp only [beq_iff_eq, bne_iff_ne, ne_eq, decide_eq_true_eq, decide_eq_false_iff_not, Int.not_lt, Int.not_le, Bool.false_eq_true, if_false, if_true, beq_eq_false_iff_ne, bne_eq_false_iff_eq, Bool.not_eq_true', Bool.not_eq_false', Int.ofNat_lt, Int.ofNat_le, Int.ofNat_inj, List.length_map, List.length_nil, List.length_cons] at hb) <;> conv => whnf)
  (refine rq_s (by (rfl)) ?_; conv => whnf)
  iterate 2 (rotate_left)
  · refine sh_s ?_
    have : xs ≠ ys := fun e => hb (by rw [e])
    simp [this]
  · refine LoopG.rounds (α := Nat) T_ok mix [0, 1, 12, 13] [] (fun i => [(0, roW xs), (1, roW ys), (12, .int .i64 xs.length), (13, .int .i64 i)]) (fun _ => []) (fun i => i ≤ xs.length ∧ xs.take i = ys.take i) (fun i => xs.length - i) ?_ ?_
    · conv => whnf
      exact head_s 0 ⟨by simp, by simp⟩ (by simp [roW]) rfl
    · rintro i ⟨h1, h2⟩ - -
      conv => whnf
      (refine br_s (fun hb => ?_) (fun hb => ?_) <;> (try simp only [beq_iff_eq, bne_iff_ne, ne_eq, decide_eq_true_eq, decide_eq_false_iff_not, Int.not_lt, Int.not_le, Bool.false_eq_true, if_false, if_true, beq_eq_false_iff_ne, bne_eq_false_iff_eq, Bool.not_eq_true', Bool.not_eq_false', Int.ofNat_lt, Int.ofNat_le, Int.ofNat_inj, List.length_map, List.length_nil, List.length_cons] at hb) <;> conv => whnf)
      iterate 3 (refine ChkS.mk (by kernel_rfl) ?_; conv => whnf)
      (refine rq_s (by (rfl)) ?_; conv => whnf)
      (refine rq_s (by ((refine and_s rfl ?_; simp only [decide_eq_true_eq, List.length_map]; omega))) ?_; conv => whnf)
      (refine ChkS.mk (by kernel_rfl) ?_; conv => whnf)
      (refine row_s (by ((try simp only [Int.toNat_natCast]); exact row_map wdR _ _ _ default (by first | omega | (simp; omega)))) ?_; conv => whnf)
      iterate 3 (refine ChkS.mk (by kernel_rfl) ?_; conv => whnf)
      (refine rq_s (by (rfl)) ?_; conv => whnf)
      (refine rq_s (by ((refine and_s rfl ?_; simp only [decide_eq_true_eq, List.length_map]; omega))) ?_; conv => whnf)
      (refine ChkS.mk (by kernel_rfl) ?_; conv => whnf)
      (refine row_s (by ((try simp only [Int.toNat_natCast]); exact row_map wdR _ _ _ default (by first | omega | (simp; omega)))) ?_; conv => whnf)
      (refine ChkS.mk (by kernel_rfl) ?_; conv => whnf)
      (refine rq_s (by ((simp only [decide_eq_true_eq, List.length_map]; done))) ?_; conv => whnf)
      (refine ChkS.mk (by kernel_rfl) ?_; conv => whnf)
      (refine br_s (fun hb => ?_) (fun hb => ?_) <;> (try simp only [beq_iff_eq, bne_iff_ne, ne_eq, decide_eq_true_eq, decide_eq_false_iff_not, Int.not_lt, Int.not_le, Bool.false_eq_true, if_false, if_true, beq_eq_false_iff_ne, bne_eq_false_iff_eq, Bool.not_eq_true', Bool.not_eq_false', Int.ofNat_lt, Int.ofNat_le, Int.ofNat_inj, List.length_map, List.length_nil, List.length_cons] at hb) <;> conv => whnf)
      (refine rq_s (by (rfl)) ?_; conv => whnf)
      iterate 2 (rotate_left)
      (refine rq_s (by (rfl)) ?_; conv => whnf)
      rotate_left
      · rw [wq] at hb
        refine sh_s ?_
        have : xs ≠ ys := fun e => by rw [e] at hb; simp at hb
        simp [this]
      · rw [wq] at hb
        exact head_s (i + 1) ⟨⟨by omega, take_next default h2 (by omega) (by omega) (of_decide_eq_true hb)⟩, by omega⟩ (by rw [wrap64 (by omega) (by omega)]; rfl) rfl
      · refine sh_s ?_
        simp [take_done h2 (by omega) (by omega)]
def longT (rs : List Wd) : Bool := decide (4096 < rs.length)
theorem c115 (rs : List Wd) : Con Tryd.prog 115 [roW rs] (undefs [roW rs]) (.bool (longT rs)) := by
  refine Con.ev 6 T_ok mix Tryd.func115 rfl rfl rfl rfl [.tmp 2] rfl ?_
  conv => whnf
  (refine rq_s (by (rfl)) ?_; conv => whnf)
  (refine sh_s ?_; ((simp [longT]; omega)))
def rrT (rs : List Wd) : List AV := [roW rs]
def roRRT (rss : List (List Wd)) : AV := .ro [.emp] (rss.map rrT)

theorem c153 (rss : List (List Wd)) : Con Tryd.prog 153 [roRRT rss, .fn 115 []] (undefs [roRRT rss, .fn 115 []]) (.int .i64 (findI longT rss)) := by
  refine Con.evF 19 T_ok mix Tryd.func153 rfl rfl rfl rfl [.tmp 4] rfl fun ⟨hx, _⟩ => ?_
  have hx := facts_len hx
  conv => whnf
  rotate_left
  refine LoopG.rounds (α := Nat) T_ok mix [0, 1, 7, 8] [] (fun i => [(0, roRRT rss), (1, .fn 115 []), (7, .int .i64 rss.length), (8, .int .i64 i)]) (fun _ => []) (fun i => i ≤ rss.length ∧ ∀ j, j < i → longT (rss.getD j default) = false) (fun i => rss.length - i) ?_ ?_
  · conv => whnf
    exact head_s 0 ⟨by simp, fun j hj => by omega⟩ (by simp [roRRT]) rfl
  · rintro i ⟨h1, h2⟩ - -
    conv => whnf
    (refine br_s (fun hb => ?_) (fun hb => ?_) <;> (try simp only [beq_iff_eq, bne_iff_ne, ne_eq, decide_eq_true_eq, decide_eq_false_iff_not, Int.not_lt, Int.not_le, Bool.false_eq_true, if_false, if_true, beq_eq_false_iff_ne, bne_eq_false_iff_eq, Bool.not_eq_true', Bool.not_eq_false', Int.ofNat_lt, Int.ofNat_le, Int.ofNat_inj, List.length_map, List.length_nil, List.length_cons] at hb) <;> conv => whnf)
    (refine rq_s (by (rfl)) ?_; conv => whnf)
    (refine rq_s (by ((refine and_s rfl ?_; simp only [decide_eq_true_eq, List.length_map]; omega))) ?_; conv => whnf)
    (refine row_s (by ((try simp only [Int.toNat_natCast]); exact row_map rrT _ _ _ default (by first | omega | (simp; omega)))) ?_; conv => whnf)
    (refine rq_s (by (rfl)) ?_; conv => whnf)
    (refine lend_s ?_; conv => whnf)
    (refine rows_s (by (rfl)) ?_; conv => whnf)
    (refine call_s (c115 ..) ?_; conv => whnf)
    (refine br_s (fun hb => ?_) (fun hb => ?_) <;> (try simp only [beq_iff_eq, bne_iff_ne, ne_eq, decide_eq_true_eq, decide_eq_false_iff_not, Int.not_lt, Int.not_le, Bool.false_eq_true, if_false, if_true, beq_eq_false_iff_ne, bne_eq_false_iff_eq, Bool.not_eq_true', Bool.not_eq_false', Int.ofNat_lt, Int.ofNat_le, Int.ofNat_inj, List.length_map, List.length_nil, List.length_cons] at hb) <;> conv => whnf)
    (refine rq_s (by (rfl)) ?_; conv => whnf)
    iterate 2 (rotate_left)
    (refine rq_s (by (rfl)) ?_; conv => whnf)
    rotate_left
    · refine sh_s ?_
      rw [findI_hit default (by assumption) hb h2]
    · refine head_s (i + 1) ⟨⟨by omega, fun j hj => ?_⟩, by omega⟩ (by rw [wrap64 (by omega) (by omega)]; rfl) rfl
      by_cases hji : j = i
      · subst hji; exact hb
      · exact h2 j (by omega)
    · refine sh_s ?_
      rw [findI_none default fun j hj => h2 j (by omega)]
theorem c114 (rss : List (List Wd)) : Con Tryd.prog 114 [roRRT rss, .fn 115 []] (undefs [roRRT rss, .fn 115 []]) (.bool (rss.any longT)) := by
  refine Con.ev 9 T_ok mix Tryd.func114 rfl rfl rfl rfl [.tmp 4] rfl ?_
  conv => whnf
  iterate 2 (refine rq_s (by (rfl)) ?_; conv => whnf)
  (refine lend_s ?_; conv => whnf)
  (refine rows_s (by (rfl)) ?_; conv => whnf)
  (refine call_s (c153 ..) ?_; conv => whnf)
  (refine fac_s (fun hf => ?_); conv => whnf)
  (refine rq_s (by (rfl)) ?_; conv => whnf)
  (refine sh_s ?_; ((rw [← findI_any])))
theorem c72 (rs : List Wd) : Con Tryd.prog 72 [.ro [.emp] [[roW rs]]] (undefs [.ro [.emp] [[roW rs]]]) (.bool (decide (4096 < rs.length))) := by
  have e : (.bool (decide (4096 < rs.length)) : AV) = .bool ([rs].any longT) := by simp [longT]
  rw [e]
  show Con Tryd.prog 72 [roRRT [rs]] (undefs [roRRT [rs]]) _
  refine Con.ev 5 T_ok mix Tryd.func72 rfl rfl rfl rfl [.tmp 2] rfl ?_
  conv => whnf
  iterate 2 (refine rq_s (by (rfl)) ?_; conv => whnf)
  (refine lend_s ?_; conv => whnf)
  (refine rows_s (by (rfl)) ?_; conv => whnf)
  (refine call_s (c114 ..) ?_; conv => whnf)
  (refine rq_s (by (rfl)) ?_; conv => whnf)
  (refine sh_s ?_; (rfl))

theorem c116 (xs : List Wd) : Con Tryd.prog 116 [roW xs] (undefs [roW xs]) (.bool (kernSame xs)) := by
  have k1 := eqW (xs.take 83) kernelW
  have k0 := c72 xs
  by_cases h1 : 83 ≤ xs.length
  · have hb1 : decide (((xs.map wdR).length : Int) ≥ 83) = true := by simp; omega
    by_cases h2 : 4096 < xs.length
    · rw [show decide (4096 < xs.length) = true by simpa using h2] at k0
      have hg : (if decide (((xs.map wdR).length : Int) ≥ 83) = true then !true else false) = false := by rw [hb1]; rfl
      have e : kernSame xs = false := by simp [kernSame]; omega
      rw [e]
      refine Con.ev 18 T_ok mix Tryd.func116 rfl rfl rfl rfl [.tmp 2] rfl ?_
      conv => whnf
      iterate 5 (refine ChkS.mk (by kernel_rfl) ?_; conv => whnf)
      (refine br_t (by assumption) ?_; conv => whnf)
      (refine ChkS.mk (by kernel_rfl) ?_; conv => whnf)
      (refine br_t (by assumption) ?_; conv => whnf)
      (refine rq_s (by (rfl)) ?_; conv => whnf)
      (refine ChkS.mk (by kernel_rfl) ?_; conv => whnf)
      (refine br_t (by assumption) ?_; conv => whnf)
      (refine rq_s (by ((simp only [decide_eq_true_eq, List.length_map]; done))) ?_; conv => whnf)
      (refine rq_s (by (rfl)) ?_; conv => whnf)
      (refine rows_s (by ((refine sub_all ?_; simp [List.length_map]; done))) ?_; conv => whnf)
      (refine call_s (k0 ..) ?_; conv => whnf)
      (refine ChkS.mk (by kernel_rfl) ?_; conv => whnf)
      (refine br_t (by assumption) ?_; conv => whnf)
      iterate 3 (refine ChkS.mk (by kernel_rfl) ?_; conv => whnf)
      (focus (refine br_f (by (simp; done)) ?_; conv => whnf))
      (refine ChkS.mk (by kernel_rfl) ?_; conv => whnf)
      (focus (refine br_f (by (simp; done)) ?_; conv => whnf))
      (refine ChkS.mk (by kernel_rfl) ?_; conv => whnf)
      (focus (refine br_f (by (simp; done)) ?_; conv => whnf))
      (refine ChkS.mk (by kernel_rfl) ?_; conv => whnf)
      (focus (refine br_f (by (simp; done)) ?_; conv => whnf))
      (refine ChkS.mk (by kernel_rfl) ?_; conv => whnf)
      (focus (refine br_f (by (simp; done)) ?_; conv => whnf))
      iterate 2 (refine ChkS.mk (by kernel_rfl) ?_; conv => whnf)
      (refine rq_s (by (rfl)) ?_; conv => whnf)
      (refine sh_s ?_; (rfl))
    · rw [show decide (4096 < xs.length) = false by simpa using h2] at k0
      have hg : (if decide (((xs.map wdR).length : Int) ≥ 83) = true then !false else false) = true := by rw [hb1]; rfl
      have e : kernSame xs = decide (xs.take 83 = kernelW) := by simp [kernSame, h1]; omega
      have hs : subA (xs.map wdR) 0 (Int.toNat 83 - 0) = (xs.take 83).map wdR := by simp [subA, List.map_take]
      rw [e]
      refine Con.ev 18 T_ok mix Tryd.func116 rfl rfl rfl rfl [.tmp 2] rfl ?_
      conv => whnf
      iterate 5 (refine ChkS.mk (by kernel_rfl) ?_; conv => whnf)
      (refine br_t (by assumption) ?_; conv => whnf)
      (refine ChkS.mk (by kernel_rfl) ?_; conv => whnf)
      (refine br_t (by assumption) ?_; conv => whnf)
      (refine rq_s (by (rfl)) ?_; conv => whnf)
      (refine ChkS.mk (by kernel_rfl) ?_; conv => whnf)
      (refine br_t (by assumption) ?_; conv => whnf)
      (refine rq_s (by ((simp only [decide_eq_true_eq, List.length_map]; done))) ?_; conv => whnf)
      (refine rq_s (by (rfl)) ?_; conv => whnf)
      (refine rows_s (by ((refine sub_all ?_; simp [List.length_map]; done))) ?_; conv => whnf)
      (refine call_s (k0 ..) ?_; conv => whnf)
      (refine ChkS.mk (by kernel_rfl) ?_; conv => whnf)
      (refine br_t (by assumption) ?_; conv => whnf)
      iterate 3 (refine ChkS.mk (by kernel_rfl) ?_; conv => whnf)
      (refine br_t (by assumption) ?_; conv => whnf)
      (refine ChkS.mk (by kernel_rfl) ?_; conv => whnf)
      (refine br_t (by assumption) ?_; conv => whnf)
      (refine rq_s (by (rfl)) ?_; conv => whnf)
      (refine rq_s (by ((refine and_s rfl ?_; simp only [decide_eq_true_eq, List.length_map]; omega))) ?_; conv => whnf)
      (refine rq_s (by (rfl)) ?_; conv => whnf)
      (refine ChkS.mk (by kernel_rfl) ?_; conv => whnf)
      (refine br_t (by assumption) ?_; conv => whnf)
      (refine call_s (c129 ..) ?_; conv => whnf)
      (refine ChkS.mk (by kernel_rfl) ?_; conv => whnf)
      (refine br_t (by assumption) ?_; conv => whnf)
      (refine rq_s (by (rfl)) ?_; conv => whnf)
      (refine rq_s (by ((simp only [decide_eq_true_eq, List.length_map]; done))) ?_; conv => whnf)
      (refine rq_s (by (rfl)) ?_; conv => whnf)
      (refine rows_s (by (exact sub_map _ _ _ _)) ?_; conv => whnf)
      (refine rows_s (by ((refine sub_all ?_; simp [List.length_map]; done))) ?_; conv => whnf)
      (refine call_s (k1 ..) ?_; conv => whnf)
      iterate 3 (refine ChkS.mk (by kernel_rfl) ?_; conv => whnf)
      (refine fac_s (fun hf => ?_); conv => whnf)
      (refine rq_s (by (rfl)) ?_; conv => whnf)
      rotate_left
      exact sh_s (by rw [hb1]; rfl)
  · have hb1 : decide (((xs.map wdR).length : Int) ≥ 83) = false := by simp; omega
    have e : kernSame xs = false := by simp [kernSame]; omega
    rw [e]
    refine Con.ev 18 T_ok mix Tryd.func116 rfl rfl rfl rfl [.tmp 2] rfl ?_
    conv => whnf
    iterate 5 (refine ChkS.mk (by kernel_rfl) ?_; conv => whnf)
    (refine br_f (by assumption) ?_; conv => whnf)
    (refine ChkS.mk (by kernel_rfl) ?_; conv => whnf)
    (refine br_f (by assumption) ?_; conv => whnf)
    (refine ChkS.mk (by kernel_rfl) ?_; conv => whnf)
    (refine br_f (by assumption) ?_; conv => whnf)
    (refine ChkS.mk (by kernel_rfl) ?_; conv => whnf)
    (refine br_f (by assumption) ?_; conv => whnf)
    (refine ChkS.mk (by kernel_rfl) ?_; conv => whnf)
    (refine br_f (by assumption) ?_; conv => whnf)
    iterate 2 (refine ChkS.mk (by kernel_rfl) ?_; conv => whnf)
    (refine br_f rfl ?_; conv => whnf)
    (refine ChkS.mk (by kernel_rfl) ?_; conv => whnf)
    (refine br_f rfl ?_; conv => whnf)
    (refine ChkS.mk (by kernel_rfl) ?_; conv => whnf)
    (refine br_f rfl ?_; conv => whnf)
    (refine ChkS.mk (by kernel_rfl) ?_; conv => whnf)
    (refine br_f rfl ?_; conv => whnf)
    (refine ChkS.mk (by kernel_rfl) ?_; conv => whnf)
    (refine br_f rfl ?_; conv => whnf)
    iterate 2 (refine ChkS.mk (by kernel_rfl) ?_; conv => whnf)
    (refine rq_s (by (rfl)) ?_; conv => whnf)
    (refine sh_s ?_; (rfl))
theorem words_any (xs : List Wd) : xs.any badScript = !xs.all scriptOK := by
  have := all_not_any scriptOK xs
  rw [← this, Bool.not_not]
  rfl

theorem c155 (rs : List (Wd)) : Con Tryd.prog 155 [roW rs, .fn 118 []] (undefs [roW rs, .fn 118 []]) (.int .i64 (findI badScript rs)) := by
  refine Con.evF 19 T_ok mix Tryd.func155 rfl rfl rfl rfl [.tmp 4] rfl fun ⟨hx, _⟩ => ?_
  have hx := facts_len hx
  conv => whnf
  rotate_left
  refine LoopG.rounds (α := Nat) T_ok mix [0, 1, 7, 8] [] (fun i => [(0, roW rs), (1, .fn 118 []), (7, .int .i64 rs.length), (8, .int .i64 i)]) (fun _ => []) (fun i => i ≤ rs.length ∧ ∀ j, j < i → badScript (rs.getD j default) = false) (fun i => rs.length - i) ?_ ?_
  · conv => whnf
    exact head_s 0 ⟨by simp, fun j hj => by omega⟩ (by simp [roW]) rfl
  · rintro i ⟨h1, h2⟩ - -
    conv => whnf
    (refine br_s (fun hb => ?_) (fun hb => ?_) <;> (try simp only [beq_iff_eq, bne_iff_ne, ne_eq, decide_eq_true_eq, decide_eq_false_iff_not, Int.not_lt, Int.not_le, Bool.false_eq_true, if_false, if_true, beq_eq_false_iff_ne, bne_eq_false_iff_eq, Bool.not_eq_true', Bool.not_eq_false', Int.ofNat_lt, Int.ofNat_le, Int.ofNat_inj, List.length_map, List.length_nil, List.length_cons] at hb) <;> conv => whnf)
    (refine rq_s (by (rfl)) ?_; conv => whnf)
    (refine rq_s (by ((refine and_s rfl ?_; simp only [decide_eq_true_eq, List.length_map]; omega))) ?_; conv => whnf)
    (refine row_s (by ((try simp only [Int.toNat_natCast]); exact row_map wdR _ _ _ default (by first | omega | (simp; omega)))) ?_; conv => whnf)
    iterate 3 (refine rq_s (by (rfl)) ?_; conv => whnf)
    (refine lend_s ?_; conv => whnf)
    (refine call_s (c118 ..) ?_; conv => whnf)
    (refine br_s (fun hb => ?_) (fun hb => ?_) <;> (try simp only [beq_iff_eq, bne_iff_ne, ne_eq, decide_eq_true_eq, decide_eq_false_iff_not, Int.not_lt, Int.not_le, Bool.false_eq_true, if_false, if_true, beq_eq_false_iff_ne, bne_eq_false_iff_eq, Bool.not_eq_true', Bool.not_eq_false', Int.ofNat_lt, Int.ofNat_le, Int.ofNat_inj, List.length_map, List.length_nil, List.length_cons] at hb) <;> conv => whnf)
    (refine rq_s (by (rfl)) ?_; conv => whnf)
    iterate 2 (rotate_left)
    (refine rq_s (by (rfl)) ?_; conv => whnf)
    rotate_left
    · refine sh_s ?_
      rw [findI_hit default (by assumption) hb h2]
    · refine head_s (i + 1) ⟨⟨by omega, fun j hj => ?_⟩, by omega⟩ (by rw [wrap64 (by omega) (by omega)]; rfl) rfl
      by_cases hji : j = i
      · subst hji; exact hb
      · exact h2 j (by omega)
    · refine sh_s ?_
      rw [findI_none default fun j hj => h2 j (by omega)]
theorem c117 (rs : List (Wd)) : Con Tryd.prog 117 [roW rs, .fn 118 []] (undefs [roW rs, .fn 118 []]) (.bool (rs.any badScript)) := by
  refine Con.ev 9 T_ok mix Tryd.func117 rfl rfl rfl rfl [.tmp 4] rfl ?_
  conv => whnf
  iterate 2 (refine rq_s (by (rfl)) ?_; conv => whnf)
  (refine lend_s ?_; conv => whnf)
  (refine rows_s (by (rfl)) ?_; conv => whnf)
  (refine call_s (c155 ..) ?_; conv => whnf)
  (refine fac_s (fun hf => ?_); conv => whnf)
  (refine rq_s (by (rfl)) ?_; conv => whnf)
  (refine sh_s ?_; ((rw [← findI_any])))
theorem wordsBad (xs : List Wd) : Con Tryd.prog 117 [roW xs, .fn 118 []] (undefs [roW xs, .fn 118 []]) (.bool (!xs.all scriptOK)) := words_any xs ▸ c117 xs
theorem kern_len {xs : List Wd} (h : kernSame xs = true) : 83 ≤ xs.length := by
  simp only [kernSame, Bool.and_eq_true, decide_eq_true_eq] at h
  exact h.1.1

theorem c73 (xs : List Wd) : Con Tryd.prog 73 [roW xs] (undefs [roW xs]) (.bool (dictOK xs)) := by
  have hs : subA (xs.map wdR) (Int.toNat 83) ((xs.map wdR).length - Int.toNat 83) = (xs.drop 83).map wdR := by
    simp [subA, List.map_drop, List.take_of_length_le]
  refine Con.ev 16 T_ok mix Tryd.func73 rfl rfl rfl rfl [.tmp 2] rfl ?_
  conv => whnf
  (refine br_s (fun hb => ?_) (fun hb => ?_) <;> (try simp only [beq_iff_eq, bne_iff_ne, ne_eq, decide_eq_true_eq, decide_eq_false_iff_not, Int.not_lt, Int.not_le, Bool.false_eq_true, if_false, if_true, beq_eq_false_iff_ne, bne_eq_false_iff_eq, Bool.not_eq_true', Bool.not_eq_false', Int.ofNat_lt, Int.ofNat_le, Int.ofNat_inj, List.length_map, List.length_nil, List.length_cons] at hb) <;> conv => whnf)
  (refine br_t rfl ?_; conv => whnf)
  (refine rq_s (by (rfl)) ?_; conv => whnf)
  (refine lend_s ?_; conv => whnf)
  (refine rows_s (by (rfl)) ?_; conv => whnf)
  (refine call_s (c116 ..) ?_; conv => whnf)
  (refine br_s (fun hb => ?_) (fun hb => ?_) <;> (try simp only [beq_iff_eq, bne_iff_ne, ne_eq, decide_eq_true_eq, decide_eq_false_iff_not, Int.not_lt, Int.not_le, Bool.false_eq_true, if_false, if_true, beq_eq_false_iff_ne, bne_eq_false_iff_eq, Bool.not_eq_true', Bool.not_eq_false', Int.ofNat_lt, Int.ofNat_le, Int.ofNat_inj, List.length_map, List.length_nil, List.length_cons] at hb) <;> conv => whnf)
  (refine br_t rfl ?_; conv => whnf)
  (refine rq_s (by (rfl)) ?_; conv => whnf)
  (refine rq_s (by (((have h83 := kern_len (by assumption); simp; omega)))) ?_; conv => whnf)
  (refine rq_s (by (rfl)) ?_; conv => whnf)
  (refine br_t rfl ?_; conv => whnf)
  iterate 2 (refine rq_s (by (rfl)) ?_; conv => whnf)
  (refine lend_s ?_; conv => whnf)
  (refine rows_s (by (exact hs)) ?_; conv => whnf)
  (refine call_s (wordsBad (xs.drop 83) ..) ?_; conv => whnf)
  (refine br_t rfl ?_; conv => whnf)
  (refine rq_s (by (rfl)) ?_; conv => whnf)
  rotate_left
  iterate 4 (refine br_f rfl ?_; conv => whnf)
  (refine rq_s (by (rfl)) ?_; conv => whnf)
  rotate_left
  iterate 7 (refine br_f rfl ?_; conv => whnf)
  (refine rq_s (by (rfl)) ?_; conv => whnf)
  rotate_left
  · have h103 : xs.length ≤ 103 := by omega
    exact sh_s (by simp [dictOK, hb, h103])
  · exact sh_s (by simp [dictOK, hb])
  · have h103 : ¬ xs.length ≤ 103 := by omega
    exact sh_s (by simp [dictOK, h103])

def sameS (xs : List Wd) : Bool := decide (83 ≤ xs.length) && decide (xs.take 83 = kernelW)
theorem c112 (xs : List Wd) : Con Tryd.prog 112 [roW xs] (undefs [roW xs]) (.bool (sameS xs)) := by
  have h83 := kernelW_len
  refine Con.ev 26 T_ok mix Tryd.func112 rfl rfl rfl rfl [.tmp 2] rfl ?_
  conv => whnf
  (refine lend_s ?_; conv => whnf)
  (refine call_s (c151 ..) ?_; conv => whnf)
  (refine fac_s (fun hf => ?_); conv => whnf)
  (refine br_s (fun hb => ?_) (fun hb => ?_) <;> (try simp only [beq_iff_eq, bne_iff_ne, ne_eq, decide_eq_true_eq, decide_eq_false_iff_not, Int.not_lt, Int.not_le, Bool.false_eq_true, if_false, if_true, beq_eq_false_iff_ne, bne_eq_false_iff_eq, Bool.not_eq_true', Bool.not_eq_false', Int.ofNat_lt, Int.ofNat_le, Int.ofNat_inj, List.length_map, List.length_nil, List.length_cons] at hb) <;> conv => whnf)
  (refine rq_s (by (rfl)) ?_; conv => whnf)
  iterate 2 (rotate_left)
  · exact sh_s (by have : ¬ 83 ≤ xs.length := (by omega); simp [sameS, this])
  refine LoopG.frz 3 ?_
  conv => whnf
  refine LoopG.rounds (α := Nat) T_ok mix [0, 3, 4] [] (fun i => [(0, roW xs), (3, roW kernelW), (4, .int .i64 i)]) (fun _ => []) (fun i => i ≤ 83 ∧ xs.take i = kernelW.take i) (fun i => 83 - i) ?_ ?_
  · conv => whnf
    exact head_s 0 ⟨by simp, by simp⟩ (by simp [roW, subA, List.take_of_length_le]) rfl
  · rintro i ⟨h1, h2⟩ - -
    conv => whnf
    (refine br_s (fun hb => ?_) (fun hb => ?_) <;> (try simp only [beq_iff_eq, bne_iff_ne, ne_eq, decide_eq_true_eq, decide_eq_false_iff_not, Int.not_lt, Int.not_le, Bool.false_eq_true, if_false, if_true, beq_eq_false_iff_ne, bne_eq_false_iff_eq, Bool.not_eq_true', Bool.not_eq_false', Int.ofNat_lt, Int.ofNat_le, Int.ofNat_inj, List.length_map, List.length_nil, List.length_cons] at hb) <;> conv => whnf)
    iterate 3 (refine ChkS.mk (by kernel_rfl) ?_; conv => whnf)
    (refine rq_s (by (rfl)) ?_; conv => whnf)
    (refine rq_s (by ((refine and_s rfl ?_; simp only [decide_eq_true_eq, List.length_map]; omega))) ?_; conv => whnf)
    (refine ChkS.mk (by kernel_rfl) ?_; conv => whnf)
    (refine row_s (by ((try simp only [Int.toNat_natCast]); exact row_map wdR _ _ _ default (by first | omega | (simp; omega)))) ?_; conv => whnf)
    iterate 3 (refine ChkS.mk (by kernel_rfl) ?_; conv => whnf)
    (refine rq_s (by (rfl)) ?_; conv => whnf)
    (refine rq_s (by ((refine and_s rfl ?_; simp only [decide_eq_true_eq, List.length_map]; omega))) ?_; conv => whnf)
    (refine ChkS.mk (by kernel_rfl) ?_; conv => whnf)
    (refine row_s (by ((try simp only [Int.toNat_natCast]); exact row_map wdR _ _ _ default (by first | omega | (simp; omega)))) ?_; conv => whnf)
    (refine ChkS.mk (by kernel_rfl) ?_; conv => whnf)
    (refine rq_s (by ((simp only [decide_eq_true_eq, List.length_map]; done))) ?_; conv => whnf)
    (refine ChkS.mk (by kernel_rfl) ?_; conv => whnf)
    (refine br_s (fun hb => ?_) (fun hb => ?_) <;> (try simp only [beq_iff_eq, bne_iff_ne, ne_eq, decide_eq_true_eq, decide_eq_false_iff_not, Int.not_lt, Int.not_le, Bool.false_eq_true, if_false, if_true, beq_eq_false_iff_ne, bne_eq_false_iff_eq, Bool.not_eq_true', Bool.not_eq_false', Int.ofNat_lt, Int.ofNat_le, Int.ofNat_inj, List.length_map, List.length_nil, List.length_cons] at hb) <;> conv => whnf)
    (refine rq_s (by (rfl)) ?_; conv => whnf)
    iterate 2 (rotate_left)
    (refine rq_s (by (rfl)) ?_; conv => whnf)
    rotate_left
    · rw [wq] at hb
      have : xs.take 83 ≠ kernelW := fun e => by
        have hk : xs.getD i default = kernelW.getD i default := by
          rw [← e]; simp [List.getElem?_take, show i < 83 by omega]
        rw [hk] at hb
        simp at hb
      exact sh_s (by simp [sameS, this])
    · rw [wq] at hb
      exact head_s (i + 1) ⟨⟨by omega, take_next default h2 (by omega) (by omega) (of_decide_eq_true hb)⟩, by omega⟩ (by rw [wrap64 (by omega) (by omega)]; rfl) rfl
    · obtain rfl : i = 83 := by omega
      have e : xs.take 83 = kernelW := by rw [h2, ← h83, List.take_length]
      have hl : 83 ≤ xs.length := by omega
      exact sh_s (by simp [sameS, e, hl])
theorem drop_getD (xs : List Wd) (j : Nat) : (xs.drop 83).getD j default = xs.getD (83 + j) default := by simp
theorem dict_same (xs : List Wd) (h : xs.length ≤ 103) : dictOK xs = (sameS xs && (xs.drop 83).all scriptOK) := by
  have h2 : xs.length ≤ 4096 := by omega
  simp [dictOK, kernSame, sameS, h, h2]

theorem c68 (xs : List Wd) : Con Tryd.prog 68 [roW xs] (undefs [roW xs]) (.bool (dictOK xs)) := by
  refine Con.ev 24 T_ok mix Tryd.func68 rfl rfl rfl rfl [.tmp 2] rfl ?_
  conv => whnf
  (refine br_s (fun hb => ?_) (fun hb => ?_) <;> (try simp only [beq_iff_eq, bne_iff_ne, ne_eq, decide_eq_true_eq, decide_eq_false_iff_not, Int.not_lt, Int.not_le, Bool.false_eq_true, if_false, if_true, beq_eq_false_iff_ne, bne_eq_false_iff_eq, Bool.not_eq_true', Bool.not_eq_false', Int.ofNat_lt, Int.ofNat_le, Int.ofNat_inj, List.length_map, List.length_nil, List.length_cons] at hb) <;> conv => whnf)
  iterate 4 (refine br_t rfl ?_; conv => whnf)
  (refine rq_s (by (rfl)) ?_; conv => whnf)
  rotate_left
  (refine br_f rfl ?_; conv => whnf)
  (refine rq_s (by (rfl)) ?_; conv => whnf)
  (refine lend_s ?_; conv => whnf)
  (refine rows_s (by (rfl)) ?_; conv => whnf)
  (refine call_s (c112 ..) ?_; conv => whnf)
  (refine br_f rfl ?_; conv => whnf)
  (refine br_s (fun hb => ?_) (fun hb => ?_) <;> (try simp only [beq_iff_eq, bne_iff_ne, ne_eq, decide_eq_true_eq, decide_eq_false_iff_not, Int.not_lt, Int.not_le, Bool.false_eq_true, if_false, if_true, beq_eq_false_iff_ne, bne_eq_false_iff_eq, Bool.not_eq_true', Bool.not_eq_false', Int.ofNat_lt, Int.ofNat_le, Int.ofNat_inj, List.length_map, List.length_nil, List.length_cons] at hb) <;> conv => whnf)
  (refine rq_s (by (rfl)) ?_; conv => whnf)
  iterate 2 (rotate_left)
  · have h103 : ¬ xs.length ≤ 103 := by omega
    exact sh_s (by simp [dictOK, h103])
  · exact sh_s (by rw [dict_same xs (by omega), hb]; rfl)
  rename_i q103
  have hsm := hb
  have h83 : 83 ≤ xs.length := by simp only [sameS, Bool.and_eq_true, decide_eq_true_eq] at hb; exact hb.1
  refine LoopG.rounds (α := Nat) T_ok mix [0, 3] [] (fun i => [(0, roW xs), (3, .int .i64 i)]) (fun _ => []) (fun i => (83 ≤ i ∧ i ≤ xs.length) ∧ ∀ j, 83 ≤ j → j < i → scriptOK (xs.getD j default) = true) (fun i => xs.length - i) ?_ ?_
  · conv => whnf
    exact head_s 83 ⟨⟨by omega, by omega⟩, fun j h1 h2 => by omega⟩ rfl rfl
  · rintro i ⟨h1, h2⟩ - -
    conv => whnf
    (refine br_s (fun hb => ?_) (fun hb => ?_) <;> (try simp only [beq_iff_eq, bne_iff_ne, ne_eq, decide_eq_true_eq, decide_eq_false_iff_not, Int.not_lt, Int.not_le, Bool.false_eq_true, if_false, if_true, beq_eq_false_iff_ne, bne_eq_false_iff_eq, Bool.not_eq_true', Bool.not_eq_false', Int.ofNat_lt, Int.ofNat_le, Int.ofNat_inj, List.length_map, List.length_nil, List.length_cons] at hb) <;> conv => whnf)
    (refine rq_s (by (rfl)) ?_; conv => whnf)
    (refine rq_s (by ((refine and_s rfl ?_; simp only [decide_eq_true_eq, List.length_map]; omega))) ?_; conv => whnf)
    (refine row_s (by ((try simp only [Int.toNat_natCast]); exact row_map wdR _ _ _ default (by first | omega | (simp; omega)))) ?_; conv => whnf)
    iterate 3 (refine rq_s (by (rfl)) ?_; conv => whnf)
    (refine lend_s ?_; conv => whnf)
    (refine call_s (c113 ..) ?_; conv => whnf)
    (refine br_s (fun hb => ?_) (fun hb => ?_) <;> (try simp only [beq_iff_eq, bne_iff_ne, ne_eq, decide_eq_true_eq, decide_eq_false_iff_not, Int.not_lt, Int.not_le, Bool.false_eq_true, if_false, if_true, beq_eq_false_iff_ne, bne_eq_false_iff_eq, Bool.not_eq_true', Bool.not_eq_false', Int.ofNat_lt, Int.ofNat_le, Int.ofNat_inj, List.length_map, List.length_nil, List.length_cons] at hb) <;> conv => whnf)
    (refine rq_s (by (rfl)) ?_; conv => whnf)
    iterate 2 (rotate_left)
    (refine rq_s (by (rfl)) ?_; conv => whnf)
    rotate_left
    · have : (xs.drop 83).all scriptOK = false := all_bad (i := i - 83) (by simp; omega) (by rw [drop_getD, show 83 + (i - 83) = i by omega]; exact hb)
      exact sh_s (by rw [dict_same xs (by omega), this, Bool.and_false])
    · refine head_s (i + 1) ⟨⟨⟨by omega, by omega⟩, fun j h3 h4 => ?_⟩, by omega⟩ (by rw [wrap64 (by omega) (by omega)]; rfl) rfl
      by_cases hji : j = i
      · subst hji; exact hb
      · exact h2 j h3 (by omega)
    · have : (xs.drop 83).all scriptOK = true := all_good fun j hj => by
        rw [List.length_drop] at hj
        rw [drop_getD]
        exact h2 (83 + j) (by omega) (by omega)
      exact sh_s (by rw [dict_same xs (by omega), this, hsm]; rfl)
end K4

/- Items in text: contracts. -/
set_option linter.unusedVariables false
set_option linter.unusedSimpArgs false
set_option maxRecDepth 100000
open Go Go.Abs Go.Proofs V1 H1 D2 K1 K2 K3 K4
namespace K5


theorem c74 (x : Itm) : Con Tryd.prog 74 [itV x] (undefs [itV x]) (.bool (itemOK x)) := by
  refine Con.ev 23 T_ok mix Tryd.func74 rfl rfl rfl rfl [.tmp 2] rfl ?_
  conv => whnf
  iterate 2 (refine rq_s (by (rfl)) ?_; conv => whnf)
  (refine br_s (fun hb => ?_) (fun hb => ?_) <;> (try simp only [beq_iff_eq, bne_iff_ne, ne_eq, decide_eq_true_eq, decide_eq_false_iff_not, Int.not_lt, Int.not_le, Bool.false_eq_true, if_false, if_true, beq_eq_false_iff_ne, bne_eq_false_iff_eq, Bool.not_eq_true', Bool.not_eq_false', Int.ofNat_lt, Int.ofNat_le, Int.ofNat_inj, List.length_map, List.length_nil, List.length_cons] at hb) <;> conv => whnf)
  iterate 4 (refine rq_s (by (rfl)) ?_; conv => whnf)
  (refine lend_s ?_; conv => whnf)
  (refine call_s (c50 ..) ?_; conv => whnf)
  (refine rq_s (by (rfl)) ?_; conv => whnf)
  (focus (refine sh_s ?_; (first | (simp_all [itemOK]; done) | (congr 1; rw [Bool.eq_iff_iff]; simp_all [itemOK]; done) | (congr 1; rw [Bool.eq_iff_iff]; simp_all [itemOK]; omega))))
  (refine br_s (fun hb => ?_) (fun hb => ?_) <;> (try simp only [beq_iff_eq, bne_iff_ne, ne_eq, decide_eq_true_eq, decide_eq_false_iff_not, Int.not_lt, Int.not_le, Bool.false_eq_true, if_false, if_true, beq_eq_false_iff_ne, bne_eq_false_iff_eq, Bool.not_eq_true', Bool.not_eq_false', Int.ofNat_lt, Int.ofNat_le, Int.ofNat_inj, List.length_map, List.length_nil, List.length_cons] at hb) <;> conv => whnf)
  iterate 2 (refine rq_s (by (rfl)) ?_; conv => whnf)
  (refine lend_s ?_; conv => whnf)
  (refine call_s (c48 ..) ?_; conv => whnf)
  (refine rq_s (by (rfl)) ?_; conv => whnf)
  (focus (refine sh_s ?_; (first | (simp_all [itemOK]; done) | (congr 1; rw [Bool.eq_iff_iff]; simp_all [itemOK]; done) | (congr 1; rw [Bool.eq_iff_iff]; simp_all [itemOK]; omega))))
  iterate 4 (refine rq_s (by (rfl)) ?_; conv => whnf)
  (refine lend_s ?_; conv => whnf)
  (refine call_s (c50 ..) ?_; conv => whnf)
  (refine br_s (fun hb => ?_) (fun hb => ?_) <;> (try simp only [beq_iff_eq, bne_iff_ne, ne_eq, decide_eq_true_eq, decide_eq_false_iff_not, Int.not_lt, Int.not_le, Bool.false_eq_true, if_false, if_true, beq_eq_false_iff_ne, bne_eq_false_iff_eq, Bool.not_eq_true', Bool.not_eq_false', Int.ofNat_lt, Int.ofNat_le, Int.ofNat_inj, List.length_map, List.length_nil, List.length_cons] at hb) <;> conv => whnf)
  (refine rq_s (by (rfl)) ?_; conv => whnf)
  iterate 2 (refine br_t rfl ?_; conv => whnf)
  (refine rq_s (by (rfl)) ?_; conv => whnf)
  (focus (refine sh_s ?_; (first | (simp_all [itemOK]; done) | (congr 1; rw [Bool.eq_iff_iff]; simp_all [itemOK]; done) | (congr 1; rw [Bool.eq_iff_iff]; simp_all [itemOK]; omega))))
  iterate 3 (refine br_f rfl ?_; conv => whnf)
  (refine rq_s (by (rfl)) ?_; conv => whnf)
  (focus (refine sh_s ?_; (first | (simp_all [itemOK]; done) | (congr 1; rw [Bool.eq_iff_iff]; simp_all [itemOK]; done) | (congr 1; rw [Bool.eq_iff_iff]; simp_all [itemOK]; omega))))
theorem c69 (x : Itm) : Con Tryd.prog 69 [itV x] (undefs [itV x]) (.bool (itemOK x)) := by
  refine Con.ev 23 T_ok mix Tryd.func69 rfl rfl rfl rfl [.tmp 2] rfl ?_
  conv => whnf
  iterate 2 (refine rq_s (by (rfl)) ?_; conv => whnf)
  (refine br_s (fun hb => ?_) (fun hb => ?_) <;> (try simp only [beq_iff_eq, bne_iff_ne, ne_eq, decide_eq_true_eq, decide_eq_false_iff_not, Int.not_lt, Int.not_le, Bool.false_eq_true, if_false, if_true, beq_eq_false_iff_ne, bne_eq_false_iff_eq, Bool.not_eq_true', Bool.not_eq_false', Int.ofNat_lt, Int.ofNat_le, Int.ofNat_inj, List.length_map, List.length_nil, List.length_cons] at hb) <;> conv => whnf)
  iterate 4 (refine rq_s (by (rfl)) ?_; conv => whnf)
  (refine lend_s ?_; conv => whnf)
  (refine call_s (c44 ..) ?_; conv => whnf)
  (refine rq_s (by (rfl)) ?_; conv => whnf)
  (focus (refine sh_s ?_; (first | (simp_all [itemOK]; done) | (congr 1; rw [Bool.eq_iff_iff]; simp_all [itemOK]; done) | (congr 1; rw [Bool.eq_iff_iff]; simp_all [itemOK]; omega))))
  (refine br_s (fun hb => ?_) (fun hb => ?_) <;> (try simp only [beq_iff_eq, bne_iff_ne, ne_eq, decide_eq_true_eq, decide_eq_false_iff_not, Int.not_lt, Int.not_le, Bool.false_eq_true, if_false, if_true, beq_eq_false_iff_ne, bne_eq_false_iff_eq, Bool.not_eq_true', Bool.not_eq_false', Int.ofNat_lt, Int.ofNat_le, Int.ofNat_inj, List.length_map, List.length_nil, List.length_cons] at hb) <;> conv => whnf)
  iterate 2 (refine rq_s (by (rfl)) ?_; conv => whnf)
  (refine lend_s ?_; conv => whnf)
  (refine call_s (c43 ..) ?_; conv => whnf)
  (refine rq_s (by (rfl)) ?_; conv => whnf)
  (focus (refine sh_s ?_; (first | (simp_all [itemOK]; done) | (congr 1; rw [Bool.eq_iff_iff]; simp_all [itemOK]; done) | (congr 1; rw [Bool.eq_iff_iff]; simp_all [itemOK]; omega))))
  iterate 4 (refine rq_s (by (rfl)) ?_; conv => whnf)
  (refine lend_s ?_; conv => whnf)
  (refine call_s (c44 ..) ?_; conv => whnf)
  (refine br_s (fun hb => ?_) (fun hb => ?_) <;> (try simp only [beq_iff_eq, bne_iff_ne, ne_eq, decide_eq_true_eq, decide_eq_false_iff_not, Int.not_lt, Int.not_le, Bool.false_eq_true, if_false, if_true, beq_eq_false_iff_ne, bne_eq_false_iff_eq, Bool.not_eq_true', Bool.not_eq_false', Int.ofNat_lt, Int.ofNat_le, Int.ofNat_inj, List.length_map, List.length_nil, List.length_cons] at hb) <;> conv => whnf)
  (refine rq_s (by (rfl)) ?_; conv => whnf)
  iterate 2 (refine br_t rfl ?_; conv => whnf)
  (refine rq_s (by (rfl)) ?_; conv => whnf)
  (focus (refine sh_s ?_; (first | (simp_all [itemOK]; done) | (congr 1; rw [Bool.eq_iff_iff]; simp_all [itemOK]; done) | (congr 1; rw [Bool.eq_iff_iff]; simp_all [itemOK]; omega))))
  iterate 3 (refine br_f rfl ?_; conv => whnf)
  (refine rq_s (by (rfl)) ?_; conv => whnf)
  (focus (refine sh_s ?_; (first | (simp_all [itemOK]; done) | (congr 1; rw [Bool.eq_iff_iff]; simp_all [itemOK]; done) | (congr 1; rw [Bool.eq_iff_iff]; simp_all [itemOK]; omega))))
/-- The text of an item. -/
def itT (ws : List Wd) (x : Itm) : List UInt8 := if x.k = 1 then (ws.getD (x.v - 1).toNat default).nm else if x.k = 2 then Lib.itoa x.v else (kernelW.getD (x.k + 65).toNat default).nm
def itF (ws : List Wd) (x : Itm) : List UInt8 × Int := if 4096 < ws.length then ([], 2) else if dictOK ws = false ∨ itemOK x = false then ([], 1) else if x.k = 1 ∧ x.v > ws.length then ([], 13) else (itT ws x, 0)
def itTV (r : List UInt8 × Int) : AV := .tup [.str r.1, .int .i64 r.2]
theorem dict_kern {ws : List Wd} (h : dictOK ws = true) : 83 ≤ ws.length ∧ ws.length ≤ 103 ∧ ∀ i, i < 83 → ws.getD i default = kernelW.getD i default := by
  simp only [dictOK, kernSame, Bool.and_eq_true, decide_eq_true_eq] at h
  obtain ⟨⟨h1, ⟨h2, _⟩, h3⟩, _⟩ := h
  refine ⟨h2, h1, fun i hi => ?_⟩
  rw [← h3]; simp [List.getElem?_take, hi]
theorem item_3 {x : Itm} (h : itemOK x = true) (h1 : ¬ x.k = 1) (h2 : ¬ x.k = 2) : 3 ≤ x.k ∧ x.k ≤ 13 := by
  have := item_k h
  omega
theorem itT_kw {ws : List Wd} {x : Itm} (hd : dictOK ws = true) (hi : itemOK x = true) (c1 : ¬ x.k = 1) (c2 : ¬ x.k = 2) : itT ws x = (ws.getD (x.k + 65).toNat default).nm := by
  have h3 := item_3 hi c1 c2
  obtain ⟨d1, d2, d3⟩ := dict_kern hd
  rw [itT, if_neg c1, if_neg c2, d3 _ (by omega)]

theorem c75 (ws : List Wd) (x : Itm) (hd : dictOK ws = true) (hi : itemOK x = true) (hv : x.k = 1 → x.v ≤ ws.length) : Con Tryd.prog 75 [roW ws, itV x] (undefs [roW ws, itV x]) (.str (itT ws x)) := by
  obtain ⟨d1, d2, d3⟩ := dict_kern hd
  by_cases c1 : x.k = 1
  · have := hv c1
    have hin : 1 ≤ x.v := by simp [itemOK, inR, c1] at hi; omega
    have e1 : (x.k == 1) = true := by rw [c1]; rfl
    have w1 : IntKind.i64.wrap (x.v - 1) = x.v - 1 := wrap64 (by omega) (by omega)
    have hrow : ∀ z, rowA (ws.map wdR) (IntKind.i64.wrap (x.v - 1)).toNat z = wdR (ws.getD (x.v - 1).toNat default) := fun z => by rw [w1]; exact row_map wdR _ _ _ default (by omega)
    rw [itT, if_pos c1]
    refine Con.ev 30 T_ok mix Tryd.func75 rfl rfl rfl rfl [.tmp 4] rfl ?_
    conv => whnf
    iterate 2 (refine rq_s (by (rfl)) ?_; conv => whnf)
    (refine br_t (by assumption) ?_; conv => whnf)
    (refine rq_s (by (rfl)) ?_; conv => whnf)
    (refine rq_s (by ((simp only [Bool.and_eq_true, decide_eq_true_eq, List.length_map]; omega))) ?_; conv => whnf)
    (refine rq_s (by ((refine and_s rfl ?_; simp only [decide_eq_true_eq, List.length_map]; omega))) ?_; conv => whnf)
    (refine rq_s (by (rfl)) ?_; conv => whnf)
    (refine row_s (by (exact hrow _)) ?_; conv => whnf)
    (refine rq_s (by (rfl)) ?_; conv => whnf)
    (refine sh_s ?_; (rfl))
  have e1 : (x.k == 1) = false := beq_eq_false_iff_ne.2 c1
  by_cases c2 : x.k = 2
  · have e2 : (x.k == 2) = true := by rw [c2]; rfl
    rw [itT, if_neg c1, if_pos c2]
    refine Con.ev 30 T_ok mix Tryd.func75 rfl rfl rfl rfl [.tmp 4] rfl ?_
    conv => whnf
    iterate 2 (refine rq_s (by (rfl)) ?_; conv => whnf)
    (refine br_f (by assumption) ?_; conv => whnf)
    (refine br_t (by assumption) ?_; conv => whnf)
    iterate 2 (refine rq_s (by (rfl)) ?_; conv => whnf)
    (refine lend_s ?_; conv => whnf)
    (refine call_s (c103 ..) ?_; conv => whnf)
    (refine fac_s (fun hf => ?_); conv => whnf)
    (refine rq_s (by (rfl)) ?_; conv => whnf)
    (refine sh_s ?_; (rfl))
  have e2 : (x.k == 2) = false := beq_eq_false_iff_ne.2 c2
  have h3 := item_3 hi c1 c2
  have w2 : IntKind.i64.wrap (IntKind.i64.wrap (IntKind.i64.wrap (x.k - 3) + 69) - 1) = x.k + 65 := by rw [wrap64 (n := x.k - 3) (by omega) (by omega), wrap64 (n := x.k - 3 + 69) (by omega) (by omega), wrap64 (by omega) (by omega)]; omega
  have hrow : ∀ z, rowA (ws.map wdR) (IntKind.i64.wrap (IntKind.i64.wrap (IntKind.i64.wrap (x.k - 3) + 69) - 1)).toNat z = wdR (ws.getD (x.k + 65).toNat default) := fun z => by rw [w2]; exact row_map wdR _ _ _ default (by omega)
  rw [itT_kw hd hi c1 c2]
  refine Con.ev 30 T_ok mix Tryd.func75 rfl rfl rfl rfl [.tmp 4] rfl ?_
  conv => whnf
  iterate 2 (refine rq_s (by (rfl)) ?_; conv => whnf)
  iterate 2 (refine br_f (by assumption) ?_; conv => whnf)
  (refine rq_s (by (rfl)) ?_; conv => whnf)
  (refine rq_s (by ((simp only [Bool.and_eq_true, decide_eq_true_eq, List.length_map]; omega))) ?_; conv => whnf)
  (refine rq_s (by ((refine and_s rfl ?_; simp only [decide_eq_true_eq, List.length_map]; omega))) ?_; conv => whnf)
  (refine rq_s (by (rfl)) ?_; conv => whnf)
  (refine row_s (by (exact hrow _)) ?_; conv => whnf)
  (refine rq_s (by (rfl)) ?_; conv => whnf)
  (refine sh_s ?_; (rfl))
def kwT : List (List UInt8) := (kernelW.drop 68).take 11 |>.map (·.nm)
theorem kw_row (k : Int) (h : 3 ≤ k ∧ k ≤ 13) (z : List AV) : rowA (kwT.map strR) (k - 3).toNat z = [.str (kernelW.getD (k + 65).toNat default).nm] := by
  have : k = 3 ∨ k = 4 ∨ k = 5 ∨ k = 6 ∨ k = 7 ∨ k = 8 ∨ k = 9 ∨ k = 10 ∨ k = 11 ∨ k = 12 ∨ k = 13 := by omega
  rcases this with rfl | rfl | rfl | rfl | rfl | rfl | rfl | rfl | rfl | rfl | rfl <;> rfl
theorem c70 (ws : List Wd) (x : Itm) (hd : dictOK ws = true) (hi : itemOK x = true) (hv : x.k = 1 → x.v ≤ ws.length) : Con Tryd.prog 70 [roW ws, itV x] (undefs [roW ws, itV x]) (.str (itT ws x)) := by
  obtain ⟨d1, d2, d3⟩ := dict_kern hd
  by_cases c1 : x.k = 1
  · have := hv c1
    have hin : 1 ≤ x.v := by simp [itemOK, inR, c1] at hi; omega
    have e1 : (x.k == 1) = true := by rw [c1]; rfl
    have w1 : IntKind.i64.wrap (x.v - 1) = x.v - 1 := wrap64 (by omega) (by omega)
    have hrow : ∀ z, rowA (ws.map wdR) (IntKind.i64.wrap (x.v - 1)).toNat z = wdR (ws.getD (x.v - 1).toNat default) := fun z => by rw [w1]; exact row_map wdR _ _ _ default (by omega)
    rw [itT, if_pos c1]
    refine Con.ev 27 T_ok mix Tryd.func70 rfl rfl rfl rfl [.tmp 4] rfl ?_
    conv => whnf
    iterate 2 (refine rq_s (by (rfl)) ?_; conv => whnf)
    (refine br_t (by assumption) ?_; conv => whnf)
    (refine rq_s (by (rfl)) ?_; conv => whnf)
    (refine rq_s (by ((simp only [Bool.and_eq_true, decide_eq_true_eq, List.length_map]; omega))) ?_; conv => whnf)
    (refine rq_s (by ((refine and_s rfl ?_; simp only [decide_eq_true_eq, List.length_map]; omega))) ?_; conv => whnf)
    (refine rq_s (by (rfl)) ?_; conv => whnf)
    (refine row_s (by (exact hrow _)) ?_; conv => whnf)
    (refine rq_s (by (rfl)) ?_; conv => whnf)
    (refine sh_s ?_; (rfl))
  have e1 : (x.k == 1) = false := beq_eq_false_iff_ne.2 c1
  by_cases c2 : x.k = 2
  · have e2 : (x.k == 2) = true := by rw [c2]; rfl
    rw [itT, if_neg c1, if_pos c2]
    refine Con.ev 27 T_ok mix Tryd.func70 rfl rfl rfl rfl [.tmp 4] rfl ?_
    conv => whnf
    iterate 2 (refine rq_s (by (rfl)) ?_; conv => whnf)
    (refine br_f (by assumption) ?_; conv => whnf)
    (refine br_t (by assumption) ?_; conv => whnf)
    iterate 2 (refine rq_s (by (rfl)) ?_; conv => whnf)
    (refine lend_s ?_; conv => whnf)
    (refine call_s (c98 ..) ?_; conv => whnf)
    (refine fac_s (fun hf => ?_); conv => whnf)
    (refine rq_s (by (rfl)) ?_; conv => whnf)
    (refine sh_s ?_; (rfl))
  have e2 : (x.k == 2) = false := beq_eq_false_iff_ne.2 c2
  have h3 := item_3 hi c1 c2
  have w1 : IntKind.i64.wrap (x.k - 3) = x.k - 3 := wrap64 (by omega) (by omega)
  have hrow : ∀ z, rowA (kwT.map strR) (0 + (IntKind.i64.wrap (x.k - 3)).toNat) z = [.str (kernelW.getD (x.k + 65).toNat default).nm] := fun z => by rw [w1, Nat.zero_add]; exact kw_row _ h3 z
  rw [itT, if_neg c1, if_neg c2]
  refine Con.ev 27 T_ok mix Tryd.func70 rfl rfl rfl rfl [.tmp 4] rfl ?_
  conv => whnf
  iterate 2 (refine rq_s (by (rfl)) ?_; conv => whnf)
  iterate 2 (refine br_f (by assumption) ?_; conv => whnf)
  iterate 2 (refine rq_s (by (rfl)) ?_; conv => whnf)
  (refine rq_s (by ((simp only [Bool.and_eq_true, decide_eq_true_eq, List.length_map]; omega))) ?_; conv => whnf)
  (refine rq_s (by ((simp only [decide_eq_true_eq, List.length_map]; done))) ?_; conv => whnf)
  (refine rq_s (by ((refine and_s rfl ?_; simp only [decide_eq_true_eq, List.length_map]; omega))) ?_; conv => whnf)
  (refine row_s (by (exact hrow _)) ?_; conv => whnf)
  (refine rq_s (by (rfl)) ?_; conv => whnf)
  (refine sh_s ?_; (rfl))
theorem c27 (ws : List Wd) (x : Itm) : Con Tryd.prog 27 [roW ws, itV x] (undefs [roW ws, itV x]) (itTV (itF ws x)) := by
  have k0 := c72 ws
  have k1 := c73 ws
  have k2 := c74 x
  have k3 := c75 ws x
  by_cases h0 : 4096 < ws.length
  · rw [show decide (4096 < ws.length) = true by simpa using h0] at k0
    rw [itF, if_pos h0]
    refine Con.ev 33 T_ok mix Tryd.func27 rfl rfl rfl rfl [.tmp 4, .tmp 5] rfl ?_
    conv => whnf
    iterate 2 (refine rq_s (by (rfl)) ?_; conv => whnf)
    (refine rq_s (by ((simp only [decide_eq_true_eq, List.length_map]; done))) ?_; conv => whnf)
    (refine rq_s (by (rfl)) ?_; conv => whnf)
    (refine lend_s ?_; conv => whnf)
    (refine rows_s (by ((refine sub_all ?_; simp [List.length_map]; done))) ?_; conv => whnf)
    (refine call_s (k0 ..) ?_; conv => whnf)
    (refine br_t rfl ?_; conv => whnf)
    iterate 2 (refine rq_s (by (rfl)) ?_; conv => whnf)
    (refine sh_s ?_; (rfl))
  rw [show decide (4096 < ws.length) = false by simpa using h0] at k0
  cases hd : dictOK ws with
  | false =>
    rw [hd] at k1
    rw [itF, if_neg h0, if_pos (.inl hd)]
    refine Con.ev 33 T_ok mix Tryd.func27 rfl rfl rfl rfl [.tmp 4, .tmp 5] rfl ?_
    conv => whnf
    iterate 2 (refine rq_s (by (rfl)) ?_; conv => whnf)
    (refine rq_s (by ((simp only [decide_eq_true_eq, List.length_map]; done))) ?_; conv => whnf)
    (refine rq_s (by (rfl)) ?_; conv => whnf)
    (refine lend_s ?_; conv => whnf)
    (refine rows_s (by ((refine sub_all ?_; simp [List.length_map]; done))) ?_; conv => whnf)
    (refine call_s (k0 ..) ?_; conv => whnf)
    (refine br_f rfl ?_; conv => whnf)
    (refine rq_s (by (rfl)) ?_; conv => whnf)
    (refine lend_s ?_; conv => whnf)
    (refine rows_s (by (rfl)) ?_; conv => whnf)
    (refine call_s (k1 ..) ?_; conv => whnf)
    iterate 5 (refine br_t rfl ?_; conv => whnf)
    iterate 2 (refine rq_s (by (rfl)) ?_; conv => whnf)
    (refine sh_s ?_; (rfl))
  | true =>
    rw [hd] at k1
    cases hi : itemOK x with
    | false =>
      rw [hi] at k2
      rw [itF, if_neg h0, if_pos (.inr hi)]
      refine Con.ev 33 T_ok mix Tryd.func27 rfl rfl rfl rfl [.tmp 4, .tmp 5] rfl ?_
      conv => whnf
      iterate 2 (refine rq_s (by (rfl)) ?_; conv => whnf)
      (refine rq_s (by ((simp only [decide_eq_true_eq, List.length_map]; done))) ?_; conv => whnf)
      (refine rq_s (by (rfl)) ?_; conv => whnf)
      (refine lend_s ?_; conv => whnf)
      (refine rows_s (by ((refine sub_all ?_; simp [List.length_map]; done))) ?_; conv => whnf)
      (refine call_s (k0 ..) ?_; conv => whnf)
      (refine br_f rfl ?_; conv => whnf)
      (refine rq_s (by (rfl)) ?_; conv => whnf)
      (refine lend_s ?_; conv => whnf)
      (refine rows_s (by (rfl)) ?_; conv => whnf)
      (refine call_s (k1 ..) ?_; conv => whnf)
      iterate 2 (refine br_f rfl ?_; conv => whnf)
      iterate 2 (refine rq_s (by (rfl)) ?_; conv => whnf)
      (refine lend_s ?_; conv => whnf)
      (refine call_s (k2 ..) ?_; conv => whnf)
      (refine br_f rfl ?_; conv => whnf)
      (refine br_t rfl ?_; conv => whnf)
      iterate 2 (refine rq_s (by (rfl)) ?_; conv => whnf)
      (refine sh_s ?_; (rfl))
    | true =>
      rw [hi] at k2
      rw [itF, if_neg h0, if_neg (by rw [hd, hi]; simp)]
      by_cases h1 : x.k = 1
      · have e1 : (x.k == 1) = true := by rw [h1]; rfl
        by_cases h2 : x.v > ws.length
        · have e2 : decide (x.v > ((ws.map wdR).length : Int)) = true := by simpa using h2
          rw [if_pos ⟨h1, h2⟩]
          refine Con.ev 33 T_ok mix Tryd.func27 rfl rfl rfl rfl [.tmp 4, .tmp 5] rfl ?_
          conv => whnf
          iterate 2 (refine rq_s (by (rfl)) ?_; conv => whnf)
          (refine rq_s (by ((simp only [decide_eq_true_eq, List.length_map]; done))) ?_; conv => whnf)
          (refine rq_s (by (rfl)) ?_; conv => whnf)
          (refine lend_s ?_; conv => whnf)
          (refine rows_s (by ((refine sub_all ?_; simp [List.length_map]; done))) ?_; conv => whnf)
          (refine call_s (k0 ..) ?_; conv => whnf)
          (refine br_f rfl ?_; conv => whnf)
          (refine rq_s (by (rfl)) ?_; conv => whnf)
          (refine lend_s ?_; conv => whnf)
          (refine rows_s (by (rfl)) ?_; conv => whnf)
          (refine call_s (k1 ..) ?_; conv => whnf)
          iterate 2 (refine br_f rfl ?_; conv => whnf)
          iterate 2 (refine rq_s (by (rfl)) ?_; conv => whnf)
          (refine lend_s ?_; conv => whnf)
          (refine call_s (k2 ..) ?_; conv => whnf)
          iterate 2 (refine br_f rfl ?_; conv => whnf)
          (refine rq_s (by (rfl)) ?_; conv => whnf)
          (refine br_t (by assumption) ?_; conv => whnf)
          (refine rq_s (by (rfl)) ?_; conv => whnf)
          iterate 4 (refine br_t rfl ?_; conv => whnf)
          (refine br_t (by assumption) ?_; conv => whnf)
          iterate 2 (refine rq_s (by (rfl)) ?_; conv => whnf)
          (refine sh_s ?_; (rfl))
        · have e2 : decide (x.v > ((ws.map wdR).length : Int)) = false := by simpa using h2
          have k4 := k3 hd hi fun _ => by omega
          rw [if_neg fun h => h2 h.2]
          refine Con.ev 33 T_ok mix Tryd.func27 rfl rfl rfl rfl [.tmp 4, .tmp 5] rfl ?_
          conv => whnf
          iterate 2 (refine rq_s (by (rfl)) ?_; conv => whnf)
          (refine rq_s (by ((simp only [decide_eq_true_eq, List.length_map]; done))) ?_; conv => whnf)
          (refine rq_s (by (rfl)) ?_; conv => whnf)
          (refine lend_s ?_; conv => whnf)
          (refine rows_s (by ((refine sub_all ?_; simp [List.length_map]; done))) ?_; conv => whnf)
          (refine call_s (k0 ..) ?_; conv => whnf)
          (refine br_f rfl ?_; conv => whnf)
          (refine rq_s (by (rfl)) ?_; conv => whnf)
          (refine lend_s ?_; conv => whnf)
          (refine rows_s (by (rfl)) ?_; conv => whnf)
          (refine call_s (k1 ..) ?_; conv => whnf)
          iterate 2 (refine br_f rfl ?_; conv => whnf)
          iterate 2 (refine rq_s (by (rfl)) ?_; conv => whnf)
          (refine lend_s ?_; conv => whnf)
          (refine call_s (k2 ..) ?_; conv => whnf)
          iterate 2 (refine br_f rfl ?_; conv => whnf)
          (refine rq_s (by (rfl)) ?_; conv => whnf)
          (refine br_t (by assumption) ?_; conv => whnf)
          (refine rq_s (by (rfl)) ?_; conv => whnf)
          iterate 4 (refine br_t rfl ?_; conv => whnf)
          (refine br_f (by assumption) ?_; conv => whnf)
          iterate 3 (refine rq_s (by (rfl)) ?_; conv => whnf)
          (refine lend_s ?_; conv => whnf)
          (refine rows_s (by (rfl)) ?_; conv => whnf)
          (refine call_s (k4 ..) ?_; conv => whnf)
          (refine fac_s (fun hf => ?_); conv => whnf)
          iterate 2 (refine rq_s (by (rfl)) ?_; conv => whnf)
          (refine sh_s ?_; (rfl))
      · have e1 : (x.k == 1) = false := beq_eq_false_iff_ne.2 h1
        have k4 := k3 hd hi fun h => absurd h h1
        rw [if_neg fun h => h1 h.1]
        refine Con.ev 33 T_ok mix Tryd.func27 rfl rfl rfl rfl [.tmp 4, .tmp 5] rfl ?_
        conv => whnf
        iterate 2 (refine rq_s (by (rfl)) ?_; conv => whnf)
        (refine rq_s (by ((simp only [decide_eq_true_eq, List.length_map]; done))) ?_; conv => whnf)
        (refine rq_s (by (rfl)) ?_; conv => whnf)
        (refine lend_s ?_; conv => whnf)
        (refine rows_s (by ((refine sub_all ?_; simp [List.length_map]; done))) ?_; conv => whnf)
        (refine call_s (k0 ..) ?_; conv => whnf)
        (refine br_f rfl ?_; conv => whnf)
        (refine rq_s (by (rfl)) ?_; conv => whnf)
        (refine lend_s ?_; conv => whnf)
        (refine rows_s (by (rfl)) ?_; conv => whnf)
        (refine call_s (k1 ..) ?_; conv => whnf)
        iterate 2 (refine br_f rfl ?_; conv => whnf)
        iterate 2 (refine rq_s (by (rfl)) ?_; conv => whnf)
        (refine lend_s ?_; conv => whnf)
        (refine call_s (k2 ..) ?_; conv => whnf)
        iterate 2 (refine br_f rfl ?_; conv => whnf)
        (refine rq_s (by (rfl)) ?_; conv => whnf)
        (refine br_f (by assumption) ?_; conv => whnf)
        iterate 6 (refine br_f rfl ?_; conv => whnf)
        iterate 3 (refine rq_s (by (rfl)) ?_; conv => whnf)
        (refine lend_s ?_; conv => whnf)
        (refine rows_s (by (rfl)) ?_; conv => whnf)
        (refine call_s (k4 ..) ?_; conv => whnf)
        (refine fac_s (fun hf => ?_); conv => whnf)
        iterate 2 (refine rq_s (by (rfl)) ?_; conv => whnf)
        (refine sh_s ?_; (rfl))
theorem c24 (ws : List Wd) (x : Itm) : Con Tryd.prog 24 [roW ws, itV x] (undefs [roW ws, itV x]) (itTV (itF ws x)) := by
  have k1 := c68 ws
  have k2 := c69 x
  have k3 := c70 ws x
  by_cases h0 : 4096 < ws.length
  · have hb0 : decide (((ws.map wdR).length : Int) > 4096) = true := by simp; omega
    rw [itF, if_pos h0]
    refine Con.ev 30 T_ok mix Tryd.func24 rfl rfl rfl rfl [.tmp 4, .tmp 5] rfl ?_
    conv => whnf
    (refine rq_s (by (rfl)) ?_; conv => whnf)
    (refine br_t (by assumption) ?_; conv => whnf)
    iterate 2 (refine rq_s (by (rfl)) ?_; conv => whnf)
    (refine sh_s ?_; (rfl))
  have hb0 : decide (((ws.map wdR).length : Int) > 4096) = false := by simp; omega
  cases hd : dictOK ws with
  | false =>
    rw [hd] at k1
    rw [itF, if_neg h0, if_pos (.inl hd)]
    refine Con.ev 30 T_ok mix Tryd.func24 rfl rfl rfl rfl [.tmp 4, .tmp 5] rfl ?_
    conv => whnf
    (refine rq_s (by (rfl)) ?_; conv => whnf)
    (refine br_f (by assumption) ?_; conv => whnf)
    (refine rq_s (by (rfl)) ?_; conv => whnf)
    (refine lend_s ?_; conv => whnf)
    (refine rows_s (by (rfl)) ?_; conv => whnf)
    (refine call_s (k1 ..) ?_; conv => whnf)
    iterate 5 (refine br_t rfl ?_; conv => whnf)
    iterate 2 (refine rq_s (by (rfl)) ?_; conv => whnf)
    (refine sh_s ?_; (rfl))
  | true =>
    rw [hd] at k1
    cases hi : itemOK x with
    | false =>
      rw [hi] at k2
      rw [itF, if_neg h0, if_pos (.inr hi)]
      refine Con.ev 30 T_ok mix Tryd.func24 rfl rfl rfl rfl [.tmp 4, .tmp 5] rfl ?_
      conv => whnf
      (refine rq_s (by (rfl)) ?_; conv => whnf)
      (refine br_f (by assumption) ?_; conv => whnf)
      (refine rq_s (by (rfl)) ?_; conv => whnf)
      (refine lend_s ?_; conv => whnf)
      (refine rows_s (by (rfl)) ?_; conv => whnf)
      (refine call_s (k1 ..) ?_; conv => whnf)
      iterate 2 (refine br_f rfl ?_; conv => whnf)
      iterate 2 (refine rq_s (by (rfl)) ?_; conv => whnf)
      (refine lend_s ?_; conv => whnf)
      (refine call_s (k2 ..) ?_; conv => whnf)
      (refine br_f rfl ?_; conv => whnf)
      (refine br_t rfl ?_; conv => whnf)
      iterate 2 (refine rq_s (by (rfl)) ?_; conv => whnf)
      (refine sh_s ?_; (rfl))
    | true =>
      rw [hi] at k2
      rw [itF, if_neg h0, if_neg (by rw [hd, hi]; simp)]
      by_cases h1 : x.k = 1
      · have e1 : (x.k == 1) = true := by rw [h1]; rfl
        by_cases h2 : x.v > ws.length
        · have e2 : decide (x.v > ((ws.map wdR).length : Int)) = true := by simpa using h2
          rw [if_pos ⟨h1, h2⟩]
          refine Con.ev 30 T_ok mix Tryd.func24 rfl rfl rfl rfl [.tmp 4, .tmp 5] rfl ?_
          conv => whnf
          (refine rq_s (by (rfl)) ?_; conv => whnf)
          (refine br_f (by assumption) ?_; conv => whnf)
          (refine rq_s (by (rfl)) ?_; conv => whnf)
          (refine lend_s ?_; conv => whnf)
          (refine rows_s (by (rfl)) ?_; conv => whnf)
          (refine call_s (k1 ..) ?_; conv => whnf)
          iterate 2 (refine br_f rfl ?_; conv => whnf)
          iterate 2 (refine rq_s (by (rfl)) ?_; conv => whnf)
          (refine lend_s ?_; conv => whnf)
          (refine call_s (k2 ..) ?_; conv => whnf)
          iterate 2 (refine br_f rfl ?_; conv => whnf)
          (refine rq_s (by (rfl)) ?_; conv => whnf)
          (refine br_t (by assumption) ?_; conv => whnf)
          (refine rq_s (by (rfl)) ?_; conv => whnf)
          iterate 4 (refine br_t rfl ?_; conv => whnf)
          (refine br_t (by assumption) ?_; conv => whnf)
          iterate 2 (refine rq_s (by (rfl)) ?_; conv => whnf)
          (refine sh_s ?_; (rfl))
        · have e2 : decide (x.v > ((ws.map wdR).length : Int)) = false := by simpa using h2
          have k4 := k3 hd hi fun _ => by omega
          rw [if_neg fun h => h2 h.2]
          refine Con.ev 30 T_ok mix Tryd.func24 rfl rfl rfl rfl [.tmp 4, .tmp 5] rfl ?_
          conv => whnf
          (refine rq_s (by (rfl)) ?_; conv => whnf)
          (refine br_f (by assumption) ?_; conv => whnf)
          (refine rq_s (by (rfl)) ?_; conv => whnf)
          (refine lend_s ?_; conv => whnf)
          (refine rows_s (by (rfl)) ?_; conv => whnf)
          (refine call_s (k1 ..) ?_; conv => whnf)
          iterate 2 (refine br_f rfl ?_; conv => whnf)
          iterate 2 (refine rq_s (by (rfl)) ?_; conv => whnf)
          (refine lend_s ?_; conv => whnf)
          (refine call_s (k2 ..) ?_; conv => whnf)
          iterate 2 (refine br_f rfl ?_; conv => whnf)
          (refine rq_s (by (rfl)) ?_; conv => whnf)
          (refine br_t (by assumption) ?_; conv => whnf)
          (refine rq_s (by (rfl)) ?_; conv => whnf)
          iterate 4 (refine br_t rfl ?_; conv => whnf)
          (refine br_f (by assumption) ?_; conv => whnf)
          iterate 3 (refine rq_s (by (rfl)) ?_; conv => whnf)
          (refine lend_s ?_; conv => whnf)
          (refine rows_s (by (rfl)) ?_; conv => whnf)
          (refine call_s (k4 ..) ?_; conv => whnf)
          (refine fac_s (fun hf => ?_); conv => whnf)
          iterate 2 (refine rq_s (by (rfl)) ?_; conv => whnf)
          (refine sh_s ?_; (rfl))
      · have e1 : (x.k == 1) = false := beq_eq_false_iff_ne.2 h1
        have k4 := k3 hd hi fun h => absurd h h1
        rw [if_neg fun h => h1 h.1]
        refine Con.ev 30 T_ok mix Tryd.func24 rfl rfl rfl rfl [.tmp 4, .tmp 5] rfl ?_
        conv => whnf
        (refine rq_s (by (rfl)) ?_; conv => whnf)
        (refine br_f (by assumption) ?_; conv => whnf)
        (refine rq_s (by (rfl)) ?_; conv => whnf)
        (refine lend_s ?_; conv => whnf)
        (refine rows_s (by (rfl)) ?_; conv => whnf)
        (refine call_s (k1 ..) ?_; conv => whnf)
        iterate 2 (refine br_f rfl ?_; conv => whnf)
        iterate 2 (refine rq_s (by (rfl)) ?_; conv => whnf)
        (refine lend_s ?_; conv => whnf)
        (refine call_s (k2 ..) ?_; conv => whnf)
        iterate 2 (refine br_f rfl ?_; conv => whnf)
        (refine rq_s (by (rfl)) ?_; conv => whnf)
        (refine br_f (by assumption) ?_; conv => whnf)
        iterate 6 (refine br_f rfl ?_; conv => whnf)
        iterate 3 (refine rq_s (by (rfl)) ?_; conv => whnf)
        (refine lend_s ?_; conv => whnf)
        (refine rows_s (by (rfl)) ?_; conv => whnf)
        (refine call_s (k4 ..) ?_; conv => whnf)
        (refine fac_s (fun hf => ?_); conv => whnf)
        iterate 2 (refine rq_s (by (rfl)) ?_; conv => whnf)
        (refine sh_s ?_; (rfl))
end K5
