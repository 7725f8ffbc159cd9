/- Calls of the host, in plain Lean: what they keep, what they record. -/
import Derived.Test.YtdbjklhadnnbdaaAbsd
set_option linter.unusedVariables false
set_option linter.unusedSimpArgs false
noncomputable section
namespace Go.Abs
open Go

theorem cells_getD {xs : List Int} (h : cellsOK xs = true) (i : Nat) : cell (xs.getD i 0) = true := by
  by_cases hi : i < xs.length
  · unfold cellsOK at h
    rw [List.all_eq_true] at h
    have e : xs.getD i 0 = xs[i] := by simp [hi]
    rw [e]
    exact h _ (List.getElem_mem hi)
  · rw [List.getD_eq_getElem?_getD, List.getElem?_eq_none (by omega)]
    rfl
theorem cells_app {xs ys : List Int} (h1 : cellsOK xs = true) (h2 : cellsOK ys = true) : cellsOK (xs ++ ys) = true := by
  unfold cellsOK at *
  rw [List.all_append, h1, h2]; rfl
theorem cells_one {n : Int} (h : cell n = true) : cellsOK [n] = true := by simp [cellsOK, h]
theorem cells_take {xs : List Int} (h : cellsOK xs = true) (n : Nat) : cellsOK (xs.take n) = true := by
  unfold cellsOK at *
  rw [List.all_eq_true] at *
  exact fun x hx => h x (List.mem_of_mem_take hx)
theorem cells_drop {xs : List Int} (h : cellsOK xs = true) (n : Nat) : cellsOK (xs.drop n) = true := by
  unfold cellsOK at *
  rw [List.all_eq_true] at *
  exact fun x hx => h x (List.mem_of_mem_drop hx)
theorem cells_set {xs : List Int} {n : Int} (h : cellsOK xs = true) (hn : cell n = true) (i : Nat) : cellsOK (xs.set i n) = true := by
  unfold cellsOK at *
  rw [List.all_eq_true] at *
  intro x hx
  rcases List.mem_or_eq_of_mem_set hx with hx | rfl
  · exact h x hx
  · exact hn
theorem deals_app {xs : List Deal} {y : Deal} (h1 : dealsOK xs = true) (h2 : dealOK y = true) : dealsOK (xs ++ [y]) = true := by
  unfold dealsOK at *
  rw [List.all_append, h1]; simp [h2]
theorem tk_cell {n : Int} (h : 0 ≤ n ∧ n ≤ 2147483647) : cell n = true := by simp [cell, inR]; omega
/-- What a call leaves. -/
structure CallOk (h : Hst) (d : Dat) (c : Nat) (r : Hst × Dat × Int) : Prop where
  ho : HostOk r.1
  da : DataOk r.2.1
  no : r.2.2 ≠ -100
  yes : r.2.2 = 0 → ∃ y : Deal, r.1.ds = h.ds ++ [y] ∧ y.c = c
theorem callB_ok {h : Hst} {d : Dat} {c : Nat} (hc : c < 4) (hh : HostOk h) (hd : DataOk d) (hl : h.ds.length < 40) : CallOk h d c (callB h d c) := by
  have t1 : cell (topF d) = true := cells_getD hd.cst _
  have t2 : cell (secF d) = true := cells_getD hd.cst _
  have hs : ∀ (l : List Int) (k : Nat), cellsOK l = true → (d.st.take k).length + l.length ≤ 32 → DataOk { d with st := d.st.take k ++ l } := fun l k h1 h2 =>
    ⟨by rw [List.length_append]; exact h2, hd.bk, hd.ce, cells_app (cells_take hd.cst k) h1, hd.cbk, hd.cce, hd.he, hd.ba, hd.ou⟩
  have hs0 : ∀ (k : Nat), DataOk { d with st := d.st.take k } := fun k =>
    ⟨by have := hd.st; simp only [List.length_take]; omega, hd.bk, hd.ce, cells_take hd.cst k, hd.cbk, hd.cce, hd.he, hd.ba, hd.ou⟩
  have hst := hd.st
  have hcv : c = 0 ∨ c = 1 ∨ c = 2 ∨ c = 3 := by omega
  rcases hcv with rfl | rfl | rfl | rfl
  · simp only [callB]
    split
    · exact ⟨hh, hd, by simp, fun h => by simp at h⟩
    · split
      · exact ⟨hh, hs0 _, by simp, fun h => by simp at h⟩
      · rename_i h1 h2
        refine ⟨⟨hh.gr, hh.st, hh.cst, hh.q, hh.cq, hh.tk, by simp; omega, deals_app hh.cds ?_⟩, hs _ _ (cells_one (cells_getD hh.cst _)) (by simp; omega), by simp, fun _ => ⟨_, rfl, rfl⟩⟩
        have := cells_getD hh.cst (topF d).toNat
        simp only [dealOK, t1, this]
        rfl
  · simp only [callB]
    split
    · exact ⟨hh, hd, by simp, fun h => by simp at h⟩
    · split
      · exact ⟨hh, hs0 _, by simp, fun h => by simp at h⟩
      · rename_i h1 h2
        refine ⟨⟨hh.gr, by simp [hh.st], cells_set hh.cst t2 _, hh.q, hh.cq, hh.tk, by simp; omega, deals_app hh.cds ?_⟩, hs0 _, by simp, fun _ => ⟨_, rfl, rfl⟩⟩
        simp only [dealOK, t1, t2]
        rfl
  · simp only [callB]
    split
    · exact ⟨hh, hd, by simp, fun h => by simp at h⟩
    · rename_i h1
      have := cells_getD hh.cq 0
      refine ⟨⟨hh.gr, hh.st, hh.cst, by have := hh.q; simp; omega, cells_drop hh.cq 1, hh.tk, by simp; omega, deals_app hh.cds ?_⟩, hs _ _ (cells_one this) (by simp; omega), by simp, fun _ => ⟨_, rfl, rfl⟩⟩
      simp only [dealOK, t1, this]
      rfl
  · simp only [callB]
    split
    · exact ⟨hh, hd, by simp, fun h => by simp at h⟩
    · rename_i h1
      refine ⟨⟨hh.gr, hh.st, hh.cst, hh.q, hh.cq, hh.tk, by simp; omega, deals_app hh.cds ?_⟩, ⟨by simp; omega, hd.bk, hd.ce, cells_app hd.cst (cells_one (tk_cell hh.tk)), hd.cbk, hd.cce, hd.he, hd.ba, hd.ou⟩, by simp, fun _ => ⟨_, rfl, rfl⟩⟩
      simp only [dealOK, tk_cell hh.tk]
      rfl
theorem callF_no {h : Hst} {d : Dat} {c : Nat} (hg : h.gr.getD c false = false) : callF h d c = (h, d, -100) := by
  unfold callF callI
  rw [if_pos hg]; rfl
theorem callF_ok {h : Hst} {d : Dat} {c : Nat} (hc : c < 4) (hh : HostOk h) (hd : DataOk d) (hg : h.gr.getD c false = true) : CallOk h d c (callF h d c) ∧ ((callF h d c).2.2 ≠ 0 → (callF h d c).1 = h) := by
  have hi : CallOk h d c (callI h d c) := by
    unfold callI
    rw [if_neg (by rw [hg]; simp)]
    split
    · exact ⟨hh, hd, by simp, fun h => by simp at h⟩
    · have := hh.ds
      exact callB_ok hc hh hd (by omega)
  unfold callF
  split
  · rename_i h0
    exact ⟨hi, fun h => absurd h0 h⟩
  · rename_i h0
    exact ⟨⟨hh, hd, hi.no, fun h => absurd h h0⟩, fun _ => rfl⟩
/-- A capability granted or taken back. -/
def grantF (h : Hst) (c : Nat) (b : Bool) : Hst := { h with gr := h.gr.set c b }
theorem grantF_ok {h : Hst} (hh : HostOk h) (c : Nat) (b : Bool) : HostOk (grantF h c b) := ⟨by simp [grantF, hh.gr], hh.st, hh.cst, hh.q, hh.cq, hh.tk, hh.ds, hh.cds⟩
theorem grantF_gr {h : Hst} (hh : HostOk h) {c : Nat} (hc : c < 4) (b : Bool) : (grantF h c b).gr.getD c false = b := by
  have := hh.gr
  simp [grantF, this, hc]
end Go.Abs
