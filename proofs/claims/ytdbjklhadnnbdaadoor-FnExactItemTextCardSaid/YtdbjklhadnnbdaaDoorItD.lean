import Derived.Test.YtdbjklhadnnbdaaDoorItC
import Derived.Test.YtdbjklhadnnbdaaDoorAbs6
/- ItemText: sizes and the law. -/
set_option linter.unusedVariables false
set_option linter.unusedSimpArgs false
set_option maxRecDepth 100000
open Go Go.Abs Go.Proofs V1 H1 D2 K1 K2 K3 K4 K5
namespace K6

def szX (x : Wd) (l : Int) : Int := if l - x.nm.length < 0 then -1 else l - x.nm.length

theorem c67 (x : Wd) (l : Int) (h0 : 0 ≤ l) (h1 : l ≤ 1048576) (hx : x.nm.length ≤ maxLn) : Con Tryd.prog 67 [wdV x, .int .i64 l] (undefs [wdV x, .int .i64 l]) (.int .i64 (szX x l)) := by
  unfold maxLn at hx
  have w : IntKind.i64.wrap (l - x.nm.length) = l - x.nm.length := wrap64 (by omega) (by omega)
  by_cases hn : l - x.nm.length < 0
  · have hb : decide (IntKind.i64.wrap (l - x.nm.length) < 0) = true := by rw [w]; simpa using hn
    rw [szX, if_pos hn]
    refine Con.ev 13 T_ok mix Tryd.func67 rfl rfl rfl rfl [.tmp 4] rfl ?_
    conv => whnf
    iterate 2 (refine rq_s (by (rfl)) ?_; conv => whnf)
    (refine br_t (by assumption) ?_; conv => whnf)
    (refine rq_s (by (rfl)) ?_; conv => whnf)
    (refine sh_s ?_; (rfl))
  · have hb : decide (IntKind.i64.wrap (l - x.nm.length) < 0) = false := by rw [w]; simpa using hn
    rw [szX, if_neg hn]
    refine Con.ev 13 T_ok mix Tryd.func67 rfl rfl rfl rfl [.tmp 4] rfl ?_
    conv => whnf
    iterate 2 (refine rq_s (by (rfl)) ?_; conv => whnf)
    (refine br_f (by assumption) ?_; conv => whnf)
    (refine rq_s (by (rfl)) ?_; conv => whnf)
    (refine sh_s ?_; ((rw [w])))
def szL : List Wd → Int → Int
  | [], l => l
  | x :: r, l => if szX x l < 0 then -1 else szL r (szX x l)
def szWs (xs : List Wd) (l : Int) : Int := if l - xs.length < 0 then -1 else szL xs (l - xs.length)
theorem szL_next {xs : List Wd} {i : Nat} {l : Int} (h : i < xs.length) : szL (xs.drop i) l = if szX (xs.getD i default) l < 0 then -1 else szL (xs.drop (i + 1)) (szX (xs.getD i default) l) := by
  rw [List.drop_eq_getElem_cons h]
  have : xs.getD i default = xs[i] := by simp [h]
  rw [this]
  rfl

theorem c23 (xs : List Wd) : Con Tryd.prog 23 [roW xs, .int .i64 1048576] (undefs [roW xs, .int .i64 1048576]) (.int .i64 (szWs xs 1048576)) := by
  refine Con.evF 27 T_ok mix Tryd.func23 rfl rfl rfl rfl [.tmp 4] rfl fun ⟨hf0, _⟩ => ?_
  have hnm : ∀ i, i < xs.length → (xs.getD i default).nm.length ≤ maxLn := fun i hi => by
    have h1 : ∀ row ∈ xs.map wdR, ∀ x ∈ row, x.facts 0 := (hf0 1).2
    have e : xs.getD i default = xs[i] := by simp [hi]
    have h2 := h1 (wdR xs[i]) (List.mem_map.2 ⟨_, List.getElem_mem hi, rfl⟩) (.str xs[i].nm) (by simp [wdR])
    rw [e]; exact h2
  have hx := facts_len hf0
  have w0 : IntKind.i64.wrap (1048576 - ((xs.map wdR).length : Int)) = 1048576 - xs.length := by rw [List.length_map]; exact wrap64 (by omega) (by omega)
  by_cases hn : (1048576 : Int) - xs.length < 0
  · have hb : decide (IntKind.i64.wrap (1048576 - ((xs.map wdR).length : Int)) < 0) = true := by rw [w0]; simpa using hn
    rw [szWs, if_pos hn]
    conv => whnf
    (refine br_t (by assumption) ?_; conv => whnf)
    (refine rq_s (by (rfl)) ?_; conv => whnf)
    (refine sh_s ?_; (rfl))
  · have hb : decide (IntKind.i64.wrap (1048576 - ((xs.map wdR).length : Int)) < 0) = false := by rw [w0]; simpa using hn
    rw [szWs, if_neg hn]
    conv => whnf
    (refine br_f (by assumption) ?_; conv => whnf)
    rotate_left
    refine LoopG.rounds (α := Nat × Int) T_ok mix [0, 1, 5] [] (fun a => [(0, roW xs), (1, .int .i64 a.2), (5, .int .i64 a.1)]) (fun _ => []) (fun a => a.1 ≤ xs.length ∧ (0 ≤ a.2 ∧ a.2 ≤ 1048576) ∧ szL (xs.drop a.1) a.2 = szL xs (1048576 - xs.length)) (fun a => xs.length - a.1) ?_ ?_
    · conv => whnf
      exact head_s (0, 1048576 - xs.length) ⟨by simp, ⟨by simp only; omega, by simp only; omega⟩, by simp⟩ (by rw [w0]; rfl) rfl
    · rintro ⟨i, l⟩ ⟨h1, h2, h3⟩ - -
      simp only at h1 h2 h3
      by_cases hi : i = xs.length
      · subst hi
        have hb2 : decide ((xs.length : Int) < ((xs.map wdR).length : Int)) = false := by simp
        rw [List.drop_length] at h3
        conv => whnf
        (focus (refine br_f (by (simp; done)) ?_; conv => whnf))
        (refine rq_s (by (rfl)) ?_; conv => whnf)
        (refine sh_s ?_; ((rw [← h3]; rfl)))
      · have hi2 : i < xs.length := by omega
        have hb2 : decide ((i : Int) < ((xs.map wdR).length : Int)) = true := by simp; omega
        have k1 := c67 (xs.getD i default) l h2.1 h2.2 (hnm i hi2)
        rw [szL_next hi2] at h3
        have hle : szX (xs.getD i default) l ≤ 1048576 := by unfold szX; split <;> omega
        by_cases hneg : szX (xs.getD i default) l < 0
        · have hb3 : decide (szX (xs.getD i default) l < 0) = true := by simpa using hneg
          rw [if_pos hneg] at h3
          conv => whnf
          (refine br_t (by assumption) ?_; conv => whnf)
          (refine rq_s (by (rfl)) ?_; conv => whnf)
          (refine rq_s (by ((refine and_s rfl ?_; simp only [decide_eq_true_eq, List.length_map]; omega))) ?_; conv => whnf)
          (refine row_s (by ((try simp only [Int.toNat_natCast]); exact row_map wdR _ _ _ default (by first | omega | (simp; omega)))) ?_; conv => whnf)
          iterate 4 (refine rq_s (by (rfl)) ?_; conv => whnf)
          (refine lend_s ?_; conv => whnf)
          (refine call_s (k1 ..) ?_; conv => whnf)
          (refine fac_s (fun hf => ?_); conv => whnf)
          (refine br_t (by assumption) ?_; conv => whnf)
          (refine rq_s (by (rfl)) ?_; conv => whnf)
          (refine sh_s ?_; ((rw [← h3])))
        · have hb3 : decide (szX (xs.getD i default) l < 0) = false := by simpa using hneg
          rw [if_neg hneg] at h3
          conv => whnf
          (refine br_t (by assumption) ?_; conv => whnf)
          (refine rq_s (by (rfl)) ?_; conv => whnf)
          (refine rq_s (by ((refine and_s rfl ?_; simp only [decide_eq_true_eq, List.length_map]; omega))) ?_; conv => whnf)
          (refine row_s (by ((try simp only [Int.toNat_natCast]); exact row_map wdR _ _ _ default (by first | omega | (simp; omega)))) ?_; conv => whnf)
          iterate 4 (refine rq_s (by (rfl)) ?_; conv => whnf)
          (refine lend_s ?_; conv => whnf)
          (refine call_s (k1 ..) ?_; conv => whnf)
          (refine fac_s (fun hf => ?_); conv => whnf)
          (refine br_f (by assumption) ?_; conv => whnf)
          rotate_left
          exact head_s (i + 1, szX (xs.getD i default) l) ⟨⟨by simp only; omega, ⟨by simp only; omega, hle⟩, h3⟩, by simp only; omega⟩ (by rw [wrap64 (by omega) (by omega)]; rfl) rfl
theorem sz_len {xs : List Wd} (h : ¬ szWs xs 1048576 < 0) : xs.length ≤ 1048576 := by
  unfold szWs at h
  split at h
  · omega
  · omega

set_option maxHeartbeats 40000000 in
theorem law (xs : List Wd) (x : Itm) : Con Tryd.prog 5 [roW xs, itV x] (undefs [roW xs, itV x]) (.bool true) := by
  have ks := c23 xs
  by_cases hn : szWs xs 1048576 < 0
  · have hb : decide (szWs xs 1048576 < 0) = true := by simpa using hn
    refine Con.ev 46 T_ok mix Tryd.func5 rfl rfl rfl rfl [.tmp 4] rfl ?_
    conv => whnf
    iterate 3 (refine rq_s (by (rfl)) ?_; conv => whnf)
    (refine lend_s ?_; conv => whnf)
    (refine rows_s (by (rfl)) ?_; conv => whnf)
    (refine call_s (ks ..) ?_; conv => whnf)
    (refine fac_s (fun hf => ?_); conv => whnf)
    (refine br_t (by assumption) ?_; conv => whnf)
    (refine rq_s (by (rfl)) ?_; conv => whnf)
    (refine sh_s ?_; (rfl))
  have hb : decide (szWs xs 1048576 < 0) = false := by simpa using hn
  have n1 := sz_len hn
  generalize szWs xs 1048576 = sz at ks hb
  have k1 := c27 xs x
  have k2 := c24 xs x
  generalize itF xs x = r at k1 k2
  obtain ⟨t, e⟩ := r
  simp only [itTV] at k1 k2
  have eT : Con Tryd.prog 28 [roW xs, roW xs] (undefs [roW xs, roW xs]) (.bool true) := by simpa using c28 xs xs
  refine Con.ev 46 T_ok mix Tryd.func5 rfl rfl rfl rfl [.tmp 4] rfl ?_
  conv => whnf
  iterate 3 (refine rq_s (by (rfl)) ?_; conv => whnf)
  (refine lend_s ?_; conv => whnf)
  (refine rows_s (by (rfl)) ?_; conv => whnf)
  (refine call_s (ks ..) ?_; conv => whnf)
  (refine fac_s (fun hf => ?_); conv => whnf)
  (refine br_f (by assumption) ?_; conv => whnf)
  iterate 2 (refine ChkS.mk (by kernel_rfl) ?_; conv => whnf)
  (refine rq_s (by (rfl)) ?_; conv => whnf)
  (refine rows_s (by (rfl)) ?_; conv => whnf)
  (refine call_s (c25 xs n1 ..) ?_; conv => whnf)
  iterate 2 (refine ChkS.mk (by kernel_rfl) ?_; conv => whnf)
  iterate 2 (refine rq_s (by (rfl)) ?_; conv => whnf)
  (refine call_s (c26 x ..) ?_; conv => whnf)
  (refine ChkS.mk (by kernel_rfl) ?_; conv => whnf)
  (refine rq_s (by ((simp only [decide_eq_true_eq, List.length_map]; done))) ?_; conv => whnf)
  iterate 3 (refine rq_s (by (rfl)) ?_; conv => whnf)
  (refine rows_s (by ((refine sub_all ?_; simp [List.length_map]; done))) ?_; conv => whnf)
  (refine call_s (k2 ..) ?_; conv => whnf)
  iterate 6 (refine ChkS.mk (by kernel_rfl) ?_; conv => whnf)
  iterate 5 (refine fac_s (fun hf => ?_); conv => whnf)
  (refine rq_s (by (rfl)) ?_; conv => whnf)
  (refine lend_s ?_; conv => whnf)
  (refine rows_s (by (rfl)) ?_; conv => whnf)
  (refine call_s (c25 xs n1 ..) ?_; conv => whnf)
  (refine fac_s (fun hf => ?_); conv => whnf)
  iterate 2 (refine rq_s (by (rfl)) ?_; conv => whnf)
  (refine lend_s ?_; conv => whnf)
  (refine call_s (c26 x ..) ?_; conv => whnf)
  (refine rq_s (by ((simp only [decide_eq_true_eq, List.length_map]; done))) ?_; conv => whnf)
  iterate 3 (refine rq_s (by (rfl)) ?_; conv => whnf)
  (refine lend_s ?_; conv => whnf)
  (refine rows_s (by ((refine sub_all ?_; simp [List.length_map]; done))) ?_; conv => whnf)
  (refine call_s (k1 ..) ?_; conv => whnf)
  iterate 4 (refine fac_s (fun hf => ?_); conv => whnf)
  (focus (refine br_f (by (simp; done)) ?_; conv => whnf))
  iterate 2 (refine br_f rfl ?_; conv => whnf)
  (focus (refine br_f (by (simp; done)) ?_; conv => whnf))
  (refine rq_s (by (rfl)) ?_; conv => whnf)
  (refine lend_s ?_; conv => whnf)
  (refine rows_s (by (rfl)) ?_; conv => whnf)
  (refine call_s (c25 xs n1 ..) ?_; conv => whnf)
  (refine rq_s (by ((simp only [decide_eq_true_eq, List.length_map]; done))) ?_; conv => whnf)
  (refine rq_s (by (rfl)) ?_; conv => whnf)
  (refine rq_s (by ((simp only [decide_eq_true_eq, List.length_map]; done))) ?_; conv => whnf)
  (refine rq_s (by (rfl)) ?_; conv => whnf)
  (refine lend_s ?_; conv => whnf)
  iterate 2 (refine rows_s (by ((refine sub_all ?_; simp [List.length_map]; done))) ?_; conv => whnf)
  (refine call_s (eT ..) ?_; conv => whnf)
  (refine fac_s (fun hf => ?_); conv => whnf)
  (refine br_f rfl ?_; conv => whnf)
  (refine rq_s (by (rfl)) ?_; conv => whnf)
  (refine sh_s ?_; (rfl))
end K6

/- ItemText: what the arguments are. -/
set_option linter.unusedVariables false
set_option linter.unusedSimpArgs false
open Go Go.Abs Go.Proofs V1
namespace K7
theorem word_of {d : Nat} {l : List AV} (h : OfT T (d + 2) 108 l) : ∃ r : Wd, l = wdR r := by
  obtain ⟨_, _, rfl, ⟨s, rfl⟩, _, _, rfl, ⟨k, rfl⟩, _, _, rfl, ⟨n, rfl⟩, rfl⟩ := h
  exact ⟨⟨s, k, n⟩, rfl⟩
theorem words_of {x : AV} (h : OfT T 10 49 [x]) : ∃ xs : List Wd, x = roW xs := by
  obtain ⟨rows, h1, h2⟩ := h
  injection h1 with h1
  obtain ⟨xs, rfl⟩ := rows_map wdR fun row hr => word_of (d := 7) (h2 row hr)
  exact ⟨xs, h1⟩
theorem item_of {l : List AV} (h : OfT T 10 51 l) : ∃ k v : Int, l = itR ⟨k, v⟩ := by
  obtain ⟨_, _, rfl, ⟨k, rfl⟩, _, _, rfl, ⟨n, rfl⟩, rfl⟩ := h
  exact ⟨k, n, rfl⟩
end K7
