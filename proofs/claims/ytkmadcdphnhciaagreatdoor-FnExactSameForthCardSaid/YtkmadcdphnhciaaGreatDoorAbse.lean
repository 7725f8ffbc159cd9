/- What the program computes of items, in plain Lean: what fits, sizes, code. -/
import Derived.Test.YtkmadcdphnhciaaGreatDoorAbsd
set_option linter.unusedVariables false
set_option linter.unusedSimpArgs false
noncomputable section
namespace Go.Abs
open Go

def itemOK (x : Itm) : Bool := if x.k = 1 then inR x.v 1 103 else if x.k = 2 then cell x.v else inR x.k 3 13 && decide (x.v = 0)
def badItem (x : Itm) : Bool := !itemOK x
def itemsOK (xs : List Itm) : Bool := xs.all itemOK
theorem items_any (xs : List Itm) : xs.any badItem = !itemsOK xs := by
  have := all_not_any itemOK xs
  unfold itemsOK
  rw [← this, Bool.not_not]
  rfl
def askF (xs : List Itm) : Int := if 4096 < xs.length then 2 else if 60 < xs.length then 6 else if itemsOK xs = true then 0 else 1
theorem askF_0 {xs : List Itm} (h : askF xs = 0) : xs.length ≤ 60 ∧ itemsOK xs = true := by
  unfold askF at h
  split at h
  · omega
  · split at h
    · omega
    · split at h
      · exact ⟨by omega, by assumption⟩
      · omega
theorem item_k {x : Itm} (h : itemOK x = true) : 1 ≤ x.k ∧ x.k ≤ 13 := by
  unfold itemOK at h
  split at h
  · omega
  · split at h
    · omega
    · simp only [Bool.and_eq_true] at h
      have := inR_t h.1
      omega
theorem item_v {x : Itm} (h : itemOK x = true) : -2147483648 ≤ x.v ∧ x.v ≤ 2147483647 := by
  unfold itemOK at h
  split at h
  · have := inR_t h; omega
  · split at h
    · have := inR_t h; omega
    · simp only [Bool.and_eq_true, decide_eq_true_eq] at h
      omega

def lastF (op : List Int) : Int := op.getD (op.length - 1) 0
def fitB (op : List Int) (k : Int) : Bool :=
  if k = 3 ∨ k = 6 ∨ k = 10 then decide (op.length < 8) else if k = 4 then decide (lastF op = 3) else if k = 8 then decide (lastF op = 6)
  else if k = 5 then decide (lastF op = 3) || decide (lastF op = 4) else if k = 7 then decide (lastF op = 6) else if k = 9 then decide (lastF op = 8) else if k = 11 ∨ k = 12 then decide (lastF op = 10) else true
def fitL (op : List Int) (k : Int) : List Int :=
  if k = 3 ∨ k = 6 ∨ k = 10 then op ++ [k] else if k = 4 ∨ k = 8 then op.take (op.length - 1) ++ [k] else if k = 5 ∨ k = 7 ∨ k = 9 ∨ k = 11 ∨ k = 12 then op.take (op.length - 1) else op
def fitI (op : List Int) (k : Int) : List Int := if fitB op k = true ∨ k = 3 ∨ k = 6 ∨ k = 10 then fitL op k else op
theorem fitI_t {op : List Int} {k : Int} (h : fitB op k = true) : fitI op k = fitL op k := by rw [fitI, if_pos (.inl h)]
def openGo : List Itm → Int → List Int → List Int × Int
  | [], _, op => (op, -1)
  | x :: l, i, op => if fitB op x.k = true then openGo l (i + 1) (fitL op x.k) else ([], i)
def openF (xs : List Itm) : List Int × Int := openGo xs 0 []
def openK (op : List Int) : Prop := (∀ k ∈ op, k = 3 ∨ k = 4 ∨ k = 6 ∨ k = 8 ∨ k = 10) ∧ op.length ≤ 8
theorem openK_nil : openK [] := ⟨by simp, by simp⟩
theorem openK_last {op : List Int} (h : openK op) : lastF op ≠ 7 := by
  unfold lastF
  by_cases h0 : op.length = 0
  · obtain rfl := List.length_eq_zero_iff.1 h0
    simp
  · have hl : op.length - 1 < op.length := by omega
    have := h.1 (op.getD (op.length - 1) 0) (by rw [List.getD_eq_getElem?_getD, List.getElem?_eq_getElem hl]; exact List.getElem_mem hl)
    omega
theorem openK_fit {op : List Int} {k : Int} (h : openK op) (hf : fitB op k = true) : openK (fitL op k) := by
  have ht : openK (op.take (op.length - 1)) := ⟨fun x hx => h.1 x (List.mem_of_mem_take hx), by simp; have := h.2; omega⟩
  unfold fitL
  split
  · rename_i hk
    rw [fitB, if_pos hk] at hf
    have := of_decide_eq_true hf
    refine ⟨fun x hx => ?_, by simp; omega⟩
    rcases List.mem_append.1 hx with hx | hx
    · exact h.1 x hx
    · obtain rfl := List.mem_singleton.1 hx; omega
  · split
    · rename_i h1 hk
      refine ⟨fun x hx => ?_, ?_⟩
      · rcases List.mem_append.1 hx with hx | hx
        · exact ht.1 x hx
        · obtain rfl := List.mem_singleton.1 hx; omega
      · have h8 := h.2
        by_cases h0 : op.length = 0
        · simp [h0]
        · simp; omega
    · split
      · exact ht
      · exact h
theorem openGo_next {xs : List Itm} {i : Nat} {op : List Int} (h : i < xs.length) : openGo (xs.drop i) i op = if fitB op (xs.getD i default).k = true then openGo (xs.drop (i + 1)) ((i + 1 : Nat) : Int) (fitL op (xs.getD i default).k) else ([], (i : Int)) := by
  rw [List.drop_eq_getElem_cons h]
  have : xs.getD i default = xs[i] := by simp [h]
  rw [this]
  rfl
def checkF (xs : List Itm) : Int := if (openF xs).2 < 0 ∧ 0 < (openF xs).1.length then xs.length else (openF xs).2
def chkF (xs : List Itm) : Int × Int := if 0 ≤ checkF xs then (checkF xs, 12) else (0, 0)
theorem openGo_lt : ∀ (xs : List Itm) (i : Int) (op : List Int), 0 ≤ i → ((openGo xs i op).2 = -1 ∨ (i ≤ (openGo xs i op).2 ∧ (openGo xs i op).2 < i + xs.length))
  | [], i, op, h => .inl rfl
  | x :: l, i, op, h => by
    rw [openGo]
    split
    · rcases openGo_lt l (i + 1) (fitL op x.k) (by omega) with e | e
      · exact .inl e
      · right; simp only [List.length_cons]; omega
    · right; simp only [List.length_cons]; omega

def itSz (k : Int) : Int := if k = 5 ∨ k = 6 then 0 else if k = 1 ∨ k = 13 ∨ k = 10 then 1 else 2
theorem itSz_le (k : Int) : 0 ≤ itSz k ∧ itSz k ≤ 2 := by
  unfold itSz
  repeat' split
  all_goals omega
def szF : List Itm → Int
  | [] => 0
  | x :: l => itSz x.k + szF l
theorem szF_le : ∀ (xs : List Itm), 0 ≤ szF xs ∧ szF xs ≤ 2 * xs.length
  | [] => by simp [szF]
  | x :: l => by
    have h1 := itSz_le x.k
    have h2 := szF_le l
    simp only [szF, List.length_cons]
    omega
def sizeF (xs : List Itm) : Int := 1 + szF xs
theorem szF_take {xs : List Itm} {i : Nat} (h : i < xs.length) : szF (xs.take (i + 1)) = szF (xs.take i) + itSz (xs.getD i default).k := by
  induction xs generalizing i with
  | nil => simp at h
  | cons x l ih =>
    cases i with
    | zero => simp [szF]
    | succ i =>
      simp only [List.take_succ_cons, szF]
      have := ih (i := i) (by simpa using h)
      simp only [List.getD_cons_succ]
      omega

abbrev Mk := Int × Int
def lastM (ms : List Mk) : Mk := ms.getD (ms.length - 1) (0, 0)
def cstep (at' self : Int) (x : Itm) (c : List Int) (ms : List Mk) : List Int × List Mk :=
  if x.k = 1 then (c ++ [x.v], ms)
  else if x.k = 13 then (c ++ [self], ms)
  else if x.k = 2 then (c ++ [57, x.v], ms)
  else if x.k = 3 then (c ++ [59, 0], ms ++ [((c.length : Int) + 1, 0)])
  else if x.k = 4 then ((c ++ [58, 0]).set (lastM ms).1.toNat (at' + ((c.length : Int) + 2)), ms.take (ms.length - 1) ++ [((c.length : Int) + 1, 0)])
  else if x.k = 5 then (c.set (lastM ms).1.toNat (at' + c.length), ms.take (ms.length - 1))
  else if x.k = 6 then (c, ms ++ [(0, at' + c.length)])
  else if x.k = 7 then (c ++ [59, (lastM ms).2], ms.take (ms.length - 1))
  else if x.k = 8 then (c ++ [59, 0], ms.take (ms.length - 1) ++ [((c.length : Int) + 1, (lastM ms).2)])
  else if x.k = 9 then ((c ++ [58, (lastM ms).2]).set (lastM ms).1.toNat (at' + ((c.length : Int) + 2)), ms.take (ms.length - 1))
  else if x.k = 10 then (c ++ [60], ms ++ [(0, at' + ((c.length : Int) + 1))])
  else if x.k = 11 then (c ++ [61, (lastM ms).2], ms.take (ms.length - 1))
  else (c ++ [62, (lastM ms).2], ms.take (ms.length - 1))
def compGo (at' self : Int) : List Itm → List Int → List Mk → List Int
  | [], c, _ => c ++ [53]
  | x :: l, c, ms => compGo at' self l (cstep at' self x c ms).1 (cstep at' self x c ms).2
def compF (xs : List Itm) (at' self : Int) : List Int := compGo at' self xs [] []
theorem compGo_next {at' self : Int} {xs : List Itm} {i : Nat} {c : List Int} {ms : List Mk} (h : i < xs.length) :
    compGo at' self (xs.drop i) c ms = compGo at' self (xs.drop (i + 1)) (cstep at' self (xs.getD i default) c ms).1 (cstep at' self (xs.getD i default) c ms).2 := by
  rw [List.drop_eq_getElem_cons h]
  have : xs.getD i default = xs[i] := by simp [h]
  rw [this]
  rfl
theorem cstep_len (at' self : Int) (x : Itm) (c : List Int) (ms : List Mk) (h : 1 ≤ x.k ∧ x.k ≤ 13) : ((cstep at' self x c ms).1.length : Int) = c.length + itSz x.k := by
  have hc : x.k = 1 ∨ x.k = 2 ∨ x.k = 3 ∨ x.k = 4 ∨ x.k = 5 ∨ x.k = 6 ∨ x.k = 7 ∨ x.k = 8 ∨ x.k = 9 ∨ x.k = 10 ∨ x.k = 11 ∨ x.k = 12 ∨ x.k = 13 := by omega
  unfold cstep itSz
  rcases hc with h | h | h | h | h | h | h | h | h | h | h | h | h <;> rw [h] <;> simp
theorem compGo_len (at' self : Int) : ∀ (xs : List Itm) (c : List Int) (ms : List Mk), itemsOK xs = true → ((compGo at' self xs c ms).length : Int) = c.length + 1 + szF xs
  | [], c, ms, _ => by simp [compGo, szF]
  | x :: l, c, ms, h => by
    simp only [itemsOK, List.all_cons, Bool.and_eq_true] at h
    have h1 := cstep_len at' self x c ms (item_k h.1)
    have h2 := compGo_len at' self l (cstep at' self x c ms).1 (cstep at' self x c ms).2 h.2
    rw [compGo, h2, h1, szF]
    omega
theorem compF_len {xs : List Itm} {at' self : Int} (h : itemsOK xs = true) : ((compF xs at' self).length : Int) = sizeF xs := by
  have := compGo_len at' self xs [] [] h
  simp only [List.length_nil] at this
  unfold compF sizeF
  omega
def flatK (k : Int) (m : Mk) : List Int := if k = 8 then [m.2, m.1] else if k = 3 ∨ k = 4 then [m.1] else [m.2]
structure Marks (at' : Int) (n : Nat) (ks : List Int) (ms : List Mk) : Prop where
  len : ks.length = ms.length
  hole : ∀ m ∈ ms, 0 ≤ m.1 ∧ m.1 < n ∨ m.1 = 0
  back : ∀ m ∈ ms, 0 ≤ m.2 ∧ m.2 ≤ at' + n
  kinds : ∀ i, i < ms.length → (ks.getD i 0 = 3 ∨ ks.getD i 0 = 4 ∨ ks.getD i 0 = 8) → 0 < n
theorem snoc_of {α : Type} {l : List α} (d : α) (h : l.length ≠ 0) : l = l.take (l.length - 1) ++ [l.getD (l.length - 1) d] := by
  have hl : l.length - 1 < l.length := by omega
  rw [List.getD_eq_getElem?_getD, List.getElem?_eq_getElem hl]
  show l = l.take (l.length - 1) ++ [l[l.length - 1]]
  rw [← List.take_succ_eq_append_getElem hl, show l.length - 1 + 1 = l.length by omega, List.take_length]
end Go.Abs
