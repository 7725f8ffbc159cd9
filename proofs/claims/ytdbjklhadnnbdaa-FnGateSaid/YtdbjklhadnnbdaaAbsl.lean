/- Items that fit, in plain Lean: how they are put together. -/
import Derived.Test.YtdbjklhadnnbdaaAbse
set_option linter.unusedVariables false
set_option linter.unusedSimpArgs false
noncomputable section
namespace Go.Abs
open Go

/-- Fits wherever n more structures may be open. -/
def Fit (n : Nat) (xs : List Itm) : Prop := (∀ (op : List Int) (i : Int), 0 ≤ i → op.length + n ≤ 8 → openGo xs i op = (op, -1)) ∧ itemsOK xs = true
theorem itemsOK_app {xs ys : List Itm} (h1 : itemsOK xs = true) (h2 : itemsOK ys = true) : itemsOK (xs ++ ys) = true := by
  unfold itemsOK at *
  rw [List.all_append, h1, h2]; rfl
theorem openGo_app : ∀ {xs : List Itm} (ys : List Itm) {i : Int} {op op' : List Int}, 0 ≤ i → openGo xs i op = (op', -1) → openGo (xs ++ ys) i op = openGo ys (i + xs.length) op'
  | [], ys, i, op, op', hi, h => by
    simp only [openGo, Prod.mk.injEq] at h
    rw [List.nil_append, h.1]; simp
  | x :: l, ys, i, op, op', hi, h => by
    rw [openGo] at h
    split at h
    · rename_i hf
      rw [List.cons_append, openGo, if_pos hf, openGo_app ys (by omega) h]
      simp only [List.length_cons]
      congr 1
      omega
    · have h2 := congrArg Prod.snd h
      simp only at h2
      omega
theorem lastF_snoc (op : List Int) (k : Int) : lastF (op ++ [k]) = k := by simp [lastF]
theorem take_snoc (op : List Int) (k : Int) : (op ++ [k]).take ((op ++ [k]).length - 1) = op := by simp
theorem go_cons {x : Itm} {l : List Itm} {i : Int} {op : List Int} (h : fitB op x.k = true) : openGo (x :: l) i op = openGo l (i + 1) (fitL op x.k) := by rw [openGo, if_pos h]
theorem go_open {k v : Int} {l : List Itm} {i : Int} {op : List Int} (hk : k = 3 ∨ k = 6 ∨ k = 10) (h : op.length < 8) : openGo (⟨k, v⟩ :: l) i op = openGo l (i + 1) (op ++ [k]) := by
  rw [go_cons (by rw [fitB, if_pos hk]; simpa using h), fitL, if_pos hk]
theorem go_turn {k j v : Int} {l : List Itm} {i : Int} {op : List Int} (hk : (k = 4 ∧ j = 3) ∨ (k = 8 ∧ j = 6)) : openGo (⟨k, v⟩ :: l) i (op ++ [j]) = openGo l (i + 1) (op ++ [k]) := by
  rcases hk with ⟨rfl, rfl⟩ | ⟨rfl, rfl⟩ <;>
  rw [go_cons (by simp [fitB, lastF_snoc])] <;> simp [fitL]
theorem go_close {k j v : Int} {l : List Itm} {i : Int} {op : List Int} (hk : (k = 5 ∧ (j = 3 ∨ j = 4)) ∨ (k = 7 ∧ j = 6) ∨ (k = 9 ∧ j = 8) ∨ (k = 11 ∧ j = 10) ∨ (k = 12 ∧ j = 10)) : openGo (⟨k, v⟩ :: l) i (op ++ [j]) = openGo l (i + 1) op := by
  rcases hk with ⟨rfl, rfl | rfl⟩ | ⟨rfl, rfl⟩ | ⟨rfl, rfl⟩ | ⟨rfl, rfl⟩ | ⟨rfl, rfl⟩ <;>
  rw [go_cons (by simp [fitB, lastF_snoc])] <;> simp [fitL]
theorem Fit.nil {n : Nat} : Fit n [] := ⟨fun _ _ _ _ => rfl, rfl⟩
theorem Fit.app {n : Nat} {xs ys : List Itm} (h1 : Fit n xs) (h2 : Fit n ys) : Fit n (xs ++ ys) :=
  ⟨fun op i hi h => by rw [openGo_app ys hi (h1.1 op i hi h), h2.1 op _ (by omega) h], itemsOK_app h1.2 h2.2⟩
theorem Fit.flat {n : Nat} {x : Itm} (hx : itemOK x = true) (hk : x.k = 1 ∨ x.k = 2) : Fit n [x] := by
  refine ⟨fun op i hi h => ?_, by simp [itemsOK, hx]⟩
  rcases hk with hk | hk <;> rw [go_cons (by rw [hk]; rfl), hk] <;> rfl
theorem Fit.self {n : Nat} : Fit n [⟨13, 0⟩] := ⟨fun op i hi h => by rw [go_cons (by rfl)]; rfl, by rfl⟩
theorem Fit.mono {n m : Nat} (hn : n ≤ m) {xs : List Itm} (h : Fit n xs) : Fit m xs := ⟨fun op i hi hl => h.1 op i hi (by omega), h.2⟩
theorem Fit.one {n : Nat} {xs : List Itm} {k j : Int} (hk : k = 3 ∨ k = 6 ∨ k = 10) (hj : (j = 5 ∧ (k = 3 ∨ k = 4)) ∨ (j = 7 ∧ k = 6) ∨ (j = 9 ∧ k = 8) ∨ (j = 11 ∧ k = 10) ∨ (j = 12 ∧ k = 10)) (h : Fit n xs) : Fit (n + 1) (⟨k, 0⟩ :: (xs ++ [⟨j, 0⟩])) := by
  refine ⟨fun op i hi hl => ?_, ?_⟩
  · rw [go_open hk (by omega), openGo_app _ (by omega) (h.1 (op ++ [k]) _ (by omega) (by simp; omega)), go_close hj]
    rfl
  · have h1 : itemOK ⟨k, 0⟩ = true := by rcases hk with rfl | rfl | rfl <;> rfl
    have h2 : itemOK ⟨j, 0⟩ = true := by rcases hj with ⟨rfl, _⟩ | ⟨rfl, _⟩ | ⟨rfl, _⟩ | ⟨rfl, _⟩ | ⟨rfl, _⟩ <;> rfl
    have := h.2
    simp only [itemsOK] at this ⊢
    simp [h1, h2, this]
theorem Fit.two {n : Nat} {xs ys : List Itm} {k t j : Int} (hk : k = 3 ∨ k = 6 ∨ k = 10) (ht : (t = 4 ∧ k = 3) ∨ (t = 8 ∧ k = 6)) (hj : (j = 5 ∧ (t = 3 ∨ t = 4)) ∨ (j = 7 ∧ t = 6) ∨ (j = 9 ∧ t = 8) ∨ (j = 11 ∧ t = 10) ∨ (j = 12 ∧ t = 10)) (h1 : Fit n xs) (h2 : Fit n ys) :
    Fit (n + 1) (⟨k, 0⟩ :: (xs ++ (⟨t, 0⟩ :: (ys ++ [⟨j, 0⟩])))) := by
  refine ⟨fun op i hi hl => ?_, ?_⟩
  · rw [go_open hk (by omega), openGo_app _ (by omega) (h1.1 (op ++ [k]) _ (by omega) (by simp; omega)), go_turn ht, openGo_app _ (by omega) (h2.1 (op ++ [t]) _ (by omega) (by simp; omega)), go_close hj]
    rfl
  · have e1 : itemOK ⟨k, 0⟩ = true := by rcases hk with rfl | rfl | rfl <;> rfl
    have e2 : itemOK ⟨j, 0⟩ = true := by rcases hj with ⟨rfl, _⟩ | ⟨rfl, _⟩ | ⟨rfl, _⟩ | ⟨rfl, _⟩ | ⟨rfl, _⟩ <;> rfl
    have e3 : itemOK ⟨t, 0⟩ = true := by rcases ht with ⟨rfl, _⟩ | ⟨rfl, _⟩ <;> rfl
    have e4 := h1.2
    have e5 := h2.2
    simp only [itemsOK] at e4 e5 ⊢
    simp [e1, e2, e3, e4, e5]
theorem Fit.c0 {n : Nat} {out xs : List Itm} (ho : Fit (n + 1) out) (h : Fit n xs) : Fit (n + 1) ([out, [⟨3, 0⟩], xs, [⟨5, 0⟩]].flatten) := by
  have := ho.app (Fit.one (k := 3) (j := 5) (by omega) (by omega) h)
  simpa using this
theorem Fit.c1 {n : Nat} {out xs ys : List Itm} (ho : Fit (n + 1) out) (h : Fit n xs) (h2 : Fit n ys) : Fit (n + 1) ([out, [⟨3, 0⟩], xs, [⟨4, 0⟩], ys, [⟨5, 0⟩]].flatten) := by
  have := ho.app (Fit.two (k := 3) (t := 4) (j := 5) (by omega) (by omega) (by omega) h h2)
  simpa using this
theorem Fit.c2 {n : Nat} {v : Int} {out xs : List Itm} (ho : Fit (n + 1) out) (hv : cell v = true) (h : Fit n xs) : Fit (n + 1) ([out, [⟨2, v⟩], [⟨6, 0⟩], [⟨1, 29⟩], xs, [⟨1, 1⟩], [⟨1, 37⟩], [⟨7, 0⟩]].flatten) := by
  have h2 : Fit n ([⟨1, 29⟩] ++ (xs ++ ([⟨1, 1⟩] ++ [⟨1, 37⟩]))) := (Fit.flat (x := ⟨1, 29⟩) rfl (by simp)).app (h.app ((Fit.flat (x := ⟨1, 1⟩) rfl (by simp)).app (Fit.flat (x := ⟨1, 37⟩) rfl (by simp))))
  have := (ho.app (Fit.flat (n := n + 1) (x := ⟨2, v⟩) (by simpa [itemOK] using hv) (by simp))).app (Fit.one (k := 6) (j := 7) (by omega) (by omega) h2)
  simpa using this
theorem Fit.c3 {n : Nat} {v k : Int} {out xs : List Itm} (ho : Fit (n + 1) out) (hv : cell v = true) (hk : k = 11 ∨ k = 12) (h : Fit n xs) : Fit (n + 1) ([out, [⟨2, v⟩], [⟨2, 0⟩], [⟨10, 0⟩], xs, [⟨k, 0⟩]].flatten) := by
  have := ((ho.app (Fit.flat (n := n + 1) (x := ⟨2, v⟩) (by simpa [itemOK] using hv) (by simp))).app (Fit.flat (n := n + 1) (x := ⟨2, 0⟩) rfl (by simp))).app (Fit.one (k := 10) (j := k) (by omega) (by omega) h)
  simpa using this
theorem Fit.c4 {n : Nat} {out xs ys : List Itm} (ho : Fit (n + 1) out) (h : Fit n xs) (h2 : Fit n ys) : Fit (n + 1) ([out, [⟨6, 0⟩], xs, [⟨8, 0⟩], ys, [⟨9, 0⟩]].flatten) := by
  have := ho.app (Fit.two (k := 6) (t := 8) (j := 9) (by omega) (by omega) (by omega) h h2)
  simpa using this
end Go.Abs
