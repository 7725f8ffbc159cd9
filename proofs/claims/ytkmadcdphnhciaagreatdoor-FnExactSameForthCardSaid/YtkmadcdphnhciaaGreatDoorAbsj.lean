/- The code of items, by a stack of what is open with its marks: in plain Lean. -/
import Derived.Test.YtkmadcdphnhciaaGreatDoorAbse
set_option linter.unusedVariables false
set_option linter.unusedSimpArgs false
noncomputable section
namespace Go.Abs
open Go

abbrev Op1 := Int × Mk
def flatP (p : Op1) : List Int := flatK p.1 p.2
def flat (st : List Op1) : List Int := st.flatMap flatP
theorem flat_snoc (st : List Op1) (p : Op1) : flat (st ++ [p]) = flat st ++ flatP p := by simp [flat]
def lastS (st : List Op1) : Op1 := st.getD (st.length - 1) (0, 0, 0)
def stStep (at' : Int) (n : Int) (k : Int) (st : List Op1) : List Op1 :=
  if k = 3 then st ++ [(3, n + 1, 0)] else if k = 4 then st.take (st.length - 1) ++ [(4, n + 1, 0)] else if k = 6 then st ++ [(6, 0, at' + n)]
  else if k = 8 then st.take (st.length - 1) ++ [(8, n + 1, (lastS st).2.2)] else if k = 10 then st ++ [(10, 0, at' + (n + 1))]
  else if k = 5 ∨ k = 7 ∨ k = 9 ∨ k = 11 ∨ k = 12 then st.take (st.length - 1) else st
theorem st_fst (at' n k : Int) (st : List Op1) : (stStep at' n k st).map (·.1) = fitL (st.map (·.1)) k := by
  by_cases h : k = 3
  · subst h; simp [stStep, fitL]
  by_cases h4 : k = 4
  · subst h4; simp [stStep, fitL, List.map_take]
  by_cases h6 : k = 6
  · subst h6; simp [stStep, fitL]
  by_cases h8 : k = 8
  · subst h8; simp [stStep, fitL, List.map_take]
  by_cases h10 : k = 10
  · subst h10; simp [stStep, fitL]
  by_cases h5 : k = 5 ∨ k = 7 ∨ k = 9 ∨ k = 11 ∨ k = 12
  · rw [stStep, if_neg h, if_neg h4, if_neg h6, if_neg h8, if_neg h10, if_pos h5, fitL, if_neg (by omega), if_neg (by omega), if_pos h5]
    simp [List.map_take]
  · rw [stStep, if_neg h, if_neg h4, if_neg h6, if_neg h8, if_neg h10, if_neg h5, fitL, if_neg (by omega), if_neg (by omega), if_neg h5]
theorem lastM_map (st : List Op1) : lastM (st.map (·.2)) = (lastS st).2 := by
  unfold lastM lastS
  rw [List.length_map]
  simp only [List.getD_eq_getElem?_getD, List.getElem?_map]
  cases st[st.length - 1]? <;> rfl
theorem st_snd (at' self : Int) (x : Itm) (c : List Int) (st : List Op1) (hk : 1 ≤ x.k ∧ x.k ≤ 13) : (cstep at' self x c (st.map (·.2))).2 = (stStep at' c.length x.k st).map (·.2) := by
  have : x.k = 1 ∨ x.k = 2 ∨ x.k = 3 ∨ x.k = 4 ∨ x.k = 5 ∨ x.k = 6 ∨ x.k = 7 ∨ x.k = 8 ∨ x.k = 9 ∨ x.k = 10 ∨ x.k = 11 ∨ x.k = 12 ∨ x.k = 13 := by omega
  rcases this with h | h | h | h | h | h | h | h | h | h | h | h | h <;> simp [cstep, stStep, h, List.map_take, lastM_map]
structure CInv (xs : List Itm) (i : Nat) (c : List Int) (st : List Op1) : Prop where
  hi : i ≤ xs.length
  ho : openGo (xs.drop i) i (st.map (·.1)) = ([], -1)
  hk : openK (st.map (·.1))
  hl : c.length ≤ 2 * i
  hh : ∀ p ∈ st, (p.1 = 3 ∨ p.1 = 4 ∨ p.1 = 8) → 0 ≤ p.2.1 ∧ p.2.1 < c.length
theorem CInv.zero {xs : List Itm} (h : openF xs = ([], -1)) : CInv xs 0 [] [] := ⟨by omega, h, openK_nil, by simp, by simp⟩
theorem CInv.fit {xs : List Itm} {i : Nat} {c : List Int} {st : List Op1} (h : CInv xs i c st) (hi : i < xs.length) : fitB (st.map (·.1)) (xs.getD i default).k = true := by
  have ho := h.ho
  rw [openGo_next hi] at ho
  split at ho
  · assumption
  · simp only [Prod.mk.injEq] at ho; omega
theorem CInv.open' {xs : List Itm} {i : Nat} {c : List Int} {st : List Op1} (h : CInv xs i c st) (hi : i < xs.length) : openGo (xs.drop (i + 1)) ((i + 1 : Nat) : Int) (fitL (st.map (·.1)) (xs.getD i default).k) = ([], -1) := by
  have ho := h.ho
  rw [openGo_next hi, if_pos (h.fit hi)] at ho
  exact ho
theorem CInv.next {xs : List Itm} {i : Nat} {c : List Int} {st : List Op1} (h : CInv xs i c st) (hi : i < xs.length) (hk : 1 ≤ (xs.getD i default).k ∧ (xs.getD i default).k ≤ 13) (at' self : Int) :
    CInv xs (i + 1) (cstep at' self (xs.getD i default) c (st.map (·.2))).1 (stStep at' c.length (xs.getD i default).k st) := by
  have hlen := cstep_len at' self (xs.getD i default) c (st.map (·.2)) hk
  have h2 := itSz_le (xs.getD i default).k
  have hl := h.hl
  refine ⟨hi, by rw [st_fst]; exact h.open' hi, by rw [st_fst]; exact openK_fit h.hk (h.fit hi), by omega, ?_⟩
  intro p hp hq
  have old : ∀ q ∈ st, (q.1 = 3 ∨ q.1 = 4 ∨ q.1 = 8) → 0 ≤ q.2.1 ∧ q.2.1 < ((cstep at' self (xs.getD i default) c (st.map (·.2))).1.length : Int) := fun q hq' e => by
    have := h.hh q hq' e
    omega
  have hz : (xs.getD i default).k = 3 ∨ (xs.getD i default).k = 4 ∨ (xs.getD i default).k = 8 → itSz (xs.getD i default).k = 2 := by
    rintro (e | e | e) <;> rw [e] <;> decide
  unfold stStep at hp
  split at hp
  · rename_i e
    have := hz (.inl e)
    rcases List.mem_append.1 hp with hp | hp
    · exact old p hp hq
    · obtain rfl := List.mem_singleton.1 hp
      simp only
      omega
  split at hp
  · rename_i e
    have := hz (.inr (.inl e))
    rcases List.mem_append.1 hp with hp | hp
    · exact old p (List.mem_of_mem_take hp) hq
    · obtain rfl := List.mem_singleton.1 hp
      simp only
      omega
  split at hp
  · rcases List.mem_append.1 hp with hp | hp
    · exact old p hp hq
    · obtain rfl := List.mem_singleton.1 hp
      simp at hq
  split at hp
  · rename_i e
    have := hz (.inr (.inr e))
    rcases List.mem_append.1 hp with hp | hp
    · exact old p (List.mem_of_mem_take hp) hq
    · obtain rfl := List.mem_singleton.1 hp
      simp only
      omega
  split at hp
  · rcases List.mem_append.1 hp with hp | hp
    · exact old p hp hq
    · obtain rfl := List.mem_singleton.1 hp
      simp at hq
  split at hp
  · exact old p (List.mem_of_mem_take hp) hq
  · exact old p hp hq
structure Top (st : List Op1) (k : Int) : Prop where
  ne : st.length ≠ 0
  eq : st = st.take (st.length - 1) ++ [lastS st]
  mem : lastS st ∈ st
  k : (lastS st).1 = lastF (st.map (·.1))
theorem top_of {st : List Op1} (k : Int) (h : lastF (st.map (·.1)) ≠ 0) : Top st k := by
  have h0 : st.length ≠ 0 := fun e => by
    rw [List.length_eq_zero_iff.1 e] at h
    exact h rfl
  have he := snoc_of (0, 0, 0) h0
  refine ⟨h0, he, ?_, ?_⟩
  · show st.getD (st.length - 1) (0, 0, 0) ∈ st
    have hl : st.length - 1 < st.length := by omega
    rw [List.getD_eq_getElem?_getD, List.getElem?_eq_getElem hl]
    exact List.getElem_mem hl
  · unfold lastF lastS
    rw [List.length_map]
    simp only [List.getD_eq_getElem?_getD, List.getElem?_map]
    cases st[st.length - 1]? <;> rfl
theorem Top.fl {st : List Op1} {k : Int} (h : Top st k) : flat st = flat (st.take (st.length - 1)) ++ flatP (lastS st) := by
  rw [← flat_snoc, ← h.eq]
theorem lastF_snoc (l : List Int) (x : Int) : lastF (l ++ [x]) = x := by simp [lastF]
theorem take_snoc1 (l : List Int) (x : Int) : (l ++ [x]).take ((l ++ [x]).length - 1) = l := by simp
theorem Top.one {st : List Op1} {k : Int} (h : Top st k) (h8 : (lastS st).1 ≠ 8) : lastF (flat st) = (if (lastS st).1 = 3 ∨ (lastS st).1 = 4 then (lastS st).2.1 else (lastS st).2.2) ∧ (flat st).take ((flat st).length - 1) = flat (st.take (st.length - 1)) ∧ (flat st).length ≠ 0 := by
  have hf : flatP (lastS st) = [if (lastS st).1 = 3 ∨ (lastS st).1 = 4 then (lastS st).2.1 else (lastS st).2.2] := by
    unfold flatP flatK
    rw [if_neg h8]
    split <;> rfl
  rw [h.fl, hf]
  exact ⟨lastF_snoc _ _, take_snoc1 _ _, by simp⟩
theorem Top.two {st : List Op1} {k : Int} (h : Top st k) (h8 : (lastS st).1 = 8) : lastF (flat st) = (lastS st).2.1 ∧ lastF ((flat st).take ((flat st).length - 1)) = (lastS st).2.2 ∧
    ((flat st).take ((flat st).length - 1)).take (((flat st).take ((flat st).length - 1)).length - 1) = flat (st.take (st.length - 1)) ∧ 2 ≤ (flat st).length := by
  have hf : flatP (lastS st) = [(lastS st).2.2] ++ [(lastS st).2.1] := by
    unfold flatP flatK
    rw [if_pos h8]
    rfl
  rw [h.fl, hf, ← List.append_assoc]
  refine ⟨lastF_snoc _ _, ?_, ?_, by simp⟩
  · rw [take_snoc1, lastF_snoc]
  · rw [take_snoc1, take_snoc1]
theorem flat_len {st : List Op1} : (flat st).length ≤ 2 * st.length := by
  induction st with
  | nil => simp [flat]
  | cons p l ih =>
    have : (flatP p).length ≤ 2 := by
      unfold flatP flatK
      repeat' split
      all_goals simp
    simp only [flat, List.flatMap_cons, List.length_append, List.length_cons] at ih ⊢
    omega
theorem CInv.pop3 {xs : List Itm} {i : Nat} {c : List Int} {st : List Op1} (h : CInv xs i c st) (hf : lastF (st.map (·.1)) = 3 ∨ lastF (st.map (·.1)) = 4) :
    1 ≤ (flat st).length ∧ lastF (flat st) = (lastS st).2.1 ∧ 0 ≤ (lastS st).2.1 ∧ (lastS st).2.1 < c.length ∧ (flat st).take ((flat st).length - 1) = flat (st.take (st.length - 1)) := by
  have T := top_of (st := st) 0 (by omega)
  have hk := T.k
  obtain ⟨h1, h2, h3⟩ := T.one (by omega)
  obtain ⟨h4, h5⟩ := h.hh _ T.mem (by omega)
  rw [if_pos (by omega)] at h1
  exact ⟨by omega, h1, h4, h5, h2⟩
theorem CInv.pop6 {xs : List Itm} {i : Nat} {c : List Int} {st : List Op1} (h : CInv xs i c st) (hf : lastF (st.map (·.1)) = 6 ∨ lastF (st.map (·.1)) = 10) :
    1 ≤ (flat st).length ∧ lastF (flat st) = (lastS st).2.2 ∧ (flat st).take ((flat st).length - 1) = flat (st.take (st.length - 1)) ∧ flat st = flat (st.take (st.length - 1)) ++ [(lastS st).2.2] := by
  have T := top_of (st := st) 0 (by omega)
  have hk := T.k
  obtain ⟨h1, h2, h3⟩ := T.one (by omega)
  rw [if_neg (by omega)] at h1
  refine ⟨by omega, h1, h2, ?_⟩
  have := T.fl
  unfold flatP flatK at this
  rw [if_neg (by omega), if_neg (by omega)] at this
  exact this
theorem CInv.pop8 {xs : List Itm} {i : Nat} {c : List Int} {st : List Op1} (h : CInv xs i c st) (hf : lastF (st.map (·.1)) = 8) :
    2 ≤ (flat st).length ∧ lastF (flat st) = (lastS st).2.1 ∧ 0 ≤ (lastS st).2.1 ∧ (lastS st).2.1 < c.length ∧ lastF ((flat st).take ((flat st).length - 1)) = (lastS st).2.2 ∧
      ((flat st).take ((flat st).length - 1)).take (((flat st).take ((flat st).length - 1)).length - 1) = flat (st.take (st.length - 1)) := by
  have T := top_of (st := st) 0 (by omega)
  have hk := T.k
  obtain ⟨h1, h2, h3, h4⟩ := T.two (by omega)
  obtain ⟨h5, h6⟩ := h.hh _ T.mem (by omega)
  exact ⟨h4, h1, h5, h6, h2, h3⟩
theorem CInv.fl16 {xs : List Itm} {i : Nat} {c : List Int} {st : List Op1} (h : CInv xs i c st) : (flat st).length ≤ 16 := by
  have := flat_len (st := st)
  have := h.hk.2
  simp only [List.length_map] at this
  omega
theorem fit_last {op : List Int} {k : Int} (h : fitB op k = true) : (k = 4 → lastF op = 3) ∧ (k = 5 → lastF op = 3 ∨ lastF op = 4) ∧ (k = 7 → lastF op = 6) ∧ (k = 8 → lastF op = 6) ∧ (k = 9 → lastF op = 8) ∧ (k = 11 ∨ k = 12 → lastF op = 10) := by
  refine ⟨fun e => ?_, fun e => ?_, fun e => ?_, fun e => ?_, fun e => ?_, fun e => ?_⟩
  · subst e; simpa [fitB] using h
  · subst e; simpa [fitB] using h
  · subst e; simpa [fitB] using h
  · subst e; simpa [fitB] using h
  · subst e; simpa [fitB] using h
  · rcases e with e | e <;> subst e <;> simpa [fitB] using h
end Go.Abs
