/- What the program computes, in plain Lean: cells, data, the host. -/
import Derived.Test.YtdbjklhadnnbdaaDoorAbsc
set_option linter.unusedVariables false
set_option linter.unusedSimpArgs false
noncomputable section
namespace Go.Abs
open Go

def inR (n lo hi : Int) : Bool := decide (lo ≤ n) && decide (n ≤ hi)
theorem inR_t {n lo hi : Int} (h : inR n lo hi = true) : lo ≤ n ∧ n ≤ hi := by simpa [inR] using h
theorem inR_f {n lo hi : Int} (h : inR n lo hi = false) : ¬ (lo ≤ n ∧ n ≤ hi) := by
  simp [inR] at h
  omega
def cell (n : Int) : Bool := inR n (-2147483648) 2147483647
theorem wrap_cell {n : Int} (h1 : -9223372036854775808 ≤ n) (h2 : n ≤ 9223372036854775807) : (IntKind.i64.wrap (IntKind.i32.wrap n) == n) = cell n := by
  have h3 : -2147483648 ≤ IntKind.i32.wrap n ∧ IntKind.i32.wrap n ≤ 2147483647 := by
    simp [IntKind.wrap, IntKind.signed, IntKind.bits]
    omega
  rw [wrap64 (by omega) (by omega)]
  by_cases h : -2147483648 ≤ n ∧ n ≤ 2147483647
  · rw [wrap32 h.1 h.2]
    simp [cell, inR, h.1, h.2]
  · have : IntKind.i32.wrap n ≠ n := fun e => by rw [e] at h3; exact h h3
    have h5 : cell n = false := by simp [cell, inR]; omega
    rw [h5]
    simpa using this
theorem any_hit {α : Type} [Inhabited α] {p : α → Bool} {xs : List α} {i : Nat} (h : i < xs.length) (hp : p (xs.getD i default) = true) : xs.any p = true := List.any_eq_true.2 ⟨xs[i], List.getElem_mem h, by simpa [h] using hp⟩
theorem any_none {α : Type} [Inhabited α] {p : α → Bool} {xs : List α} (h : ∀ j, j < xs.length → p (xs.getD j default) = false) : xs.any p = false := by
  rw [List.any_eq_false]
  intro x hx
  obtain ⟨j, hj, rfl⟩ := List.mem_iff_getElem.1 hx
  have := h j hj
  simpa [hj] using this
theorem all_not_any {α : Type} (p : α → Bool) (xs : List α) : (!xs.any fun x => !p x) = xs.all p := by
  induction xs with
  | nil => rfl
  | cons x xs ih => simp only [List.any_cons, List.all_cons, Bool.not_or, Bool.not_not, ih]
/-- The end of a loop that looks for one that fails. -/
theorem all_bad {α : Type} [Inhabited α] {p : α → Bool} {xs : List α} {i : Nat} (h : i < xs.length) (hp : p (xs.getD i default) = false) : xs.all p = false := by
  rw [← all_not_any, any_hit h (by rw [hp]; rfl)]
  rfl
theorem all_good {α : Type} [Inhabited α] {p : α → Bool} {xs : List α} (h : ∀ j, j < xs.length → p (xs.getD j default) = true) : xs.all p = true := by
  rw [← all_not_any, any_none fun j hj => by rw [h j hj]; rfl]
  rfl
def badCell (n : Int) : Bool := !cell n
def cellsOK (xs : List Int) : Bool := xs.all cell
theorem cells_any (xs : List Int) : xs.any badCell = !cellsOK xs := by
  have := all_not_any cell xs
  unfold cellsOK
  rw [← this, Bool.not_not]
  rfl

/-! ### Data -/
def dataOK (d : Dat) : Bool := decide (d.st.length ≤ 32) && decide (d.bk.length ≤ 32) && decide (d.ce.length = 32) && cellsOK d.st && cellsOK d.bk && cellsOK d.ce && inR d.he 0 32 && inR d.ba 2 16 && decide (d.ou.length ≤ 300)
structure DataOk (d : Dat) : Prop where
  st : d.st.length ≤ 32
  bk : d.bk.length ≤ 32
  ce : d.ce.length = 32
  cst : cellsOK d.st = true
  cbk : cellsOK d.bk = true
  cce : cellsOK d.ce = true
  he : 0 ≤ d.he ∧ d.he ≤ 32
  ba : 2 ≤ d.ba ∧ d.ba ≤ 16
  ou : d.ou.length ≤ 300
theorem dataOK_iff (d : Dat) : dataOK d = true ↔ DataOk d := by
  constructor
  · intro h
    simp only [dataOK, Bool.and_eq_true, decide_eq_true_eq] at h
    obtain ⟨⟨⟨⟨⟨⟨⟨⟨h1, h2⟩, h3⟩, h4⟩, h5⟩, h6⟩, h7⟩, h8⟩, h9⟩ := h
    exact ⟨h1, h2, h3, h4, h5, h6, inR_t h7, inR_t h8, h9⟩
  · rintro ⟨h1, h2, h3, h4, h5, h6, h7, h8, h9⟩
    simp [dataOK, inR, h1, h2, h3, h4, h5, h6, h7, h8, h9]
def pushF (d : Dat) (n : Int) : Dat × Int := if d.st.length = 32 then (d, -3) else ({ d with st := d.st ++ [n] }, 0)
theorem pushF_t {d : Dat} {n : Int} (h : d.st.length = 32) : pushF d n = (d, -3) := by rw [pushF, if_pos h]
theorem pushF_f {d : Dat} {n : Int} (h : ¬ d.st.length = 32) : pushF d n = ({ d with st := d.st ++ [n] }, 0) := by rw [pushF, if_neg h]
def popF (d : Dat) : Dat × Int × Int := if d.st.length = 0 then (d, 0, -4) else ({ d with st := d.st.take (d.st.length - 1) }, d.st.getD (d.st.length - 1) 0, 0)
theorem popF_t {d : Dat} (h : d.st.length = 0) : popF d = (d, 0, -4) := by rw [popF, if_pos h]
theorem popF_f {d : Dat} (h : ¬ d.st.length = 0) : popF d = ({ d with st := d.st.take (d.st.length - 1) }, d.st.getD (d.st.length - 1) 0, 0) := by rw [popF, if_neg h]
/-- Cells laid over so many on top. -/
def putF (d : Dat) (t : Nat) (l : List Int) : Dat × Int := if d.st.length - t + l.length > 32 then (d, -3) else ({ d with st := d.st.take (d.st.length - t) ++ l }, 0)

/-! ### The host -/
def dealOK (d : Deal) : Bool := inR d.c 0 3 && cell d.a && cell d.b && cell d.r
def badDeal (d : Deal) : Bool := !dealOK d
def dealsOK (xs : List Deal) : Bool := xs.all dealOK
theorem deals_any (xs : List Deal) : xs.any badDeal = !dealsOK xs := by
  have := all_not_any dealOK xs
  unfold dealsOK
  rw [← this, Bool.not_not]
  rfl
def hostOK (h : Hst) : Bool := decide (h.gr.length = 4) && decide (h.st.length = 8) && cellsOK h.st && decide (h.q.length ≤ 20) && cellsOK h.q && inR h.tk 0 2147483647 && decide (h.ds.length ≤ 40) && dealsOK h.ds
structure HostOk (h : Hst) : Prop where
  gr : h.gr.length = 4
  st : h.st.length = 8
  cst : cellsOK h.st = true
  q : h.q.length ≤ 20
  cq : cellsOK h.q = true
  tk : 0 ≤ h.tk ∧ h.tk ≤ 2147483647
  ds : h.ds.length ≤ 40
  cds : dealsOK h.ds = true
theorem hostOK_iff (h : Hst) : hostOK h = true ↔ HostOk h := by
  constructor
  · intro h
    simp only [hostOK, Bool.and_eq_true, decide_eq_true_eq] at h
    obtain ⟨⟨⟨⟨⟨⟨⟨h1, h2⟩, h3⟩, h4⟩, h5⟩, h6⟩, h7⟩, h8⟩ := h
    exact ⟨h1, h2, h3, h4, h5, inR_t h6, h7, h8⟩
  · rintro ⟨h1, h2, h3, h4, h5, h6, h7, h8⟩
    simp [hostOK, inR, h1, h2, h3, h4, h5, h6, h7, h8]
def topF (d : Dat) : Int := d.st.getD (d.st.length - 1) 0
def secF (d : Dat) : Int := d.st.getD (d.st.length - 2) 0
/-- What a call does that is granted and has room, as the program leaves it: with a throw the data may have changed. -/
def callB (h : Hst) (d : Dat) : Nat → Hst × Dat × Int
  | 0 => if d.st.length < 1 then (h, d, -4) else if inR (topF d) 0 7 = false then (h, { d with st := d.st.take (d.st.length - 1) }, -9)
    else ({ h with ds := h.ds ++ [⟨0, topF d, 0, h.st.getD (topF d).toNat 0⟩] }, { d with st := d.st.take (d.st.length - 1) ++ [h.st.getD (topF d).toNat 0] }, 0)
  | 1 => if d.st.length < 2 then (h, d, -4) else if inR (topF d) 0 7 = false then (h, { d with st := d.st.take (d.st.length - 1) }, -9)
    else ({ h with st := h.st.set (topF d).toNat (secF d), ds := h.ds ++ [⟨1, topF d, secF d, 0⟩] }, { d with st := d.st.take (d.st.length - 2) }, 0)
  | 2 => if d.st.length < 1 then (h, d, -4) else ({ h with q := h.q.drop 1, ds := h.ds ++ [⟨2, topF d, 0, h.q.getD 0 0⟩] }, { d with st := d.st.take (d.st.length - 1) ++ [h.q.getD 0 0] }, 0)
  | _ => if d.st.length = 32 then (h, d, -3) else ({ h with ds := h.ds ++ [⟨3, 0, 0, h.tk⟩] }, { d with st := d.st ++ [h.tk] }, 0)
def callI (h : Hst) (d : Dat) (cap : Nat) : Hst × Dat × Int :=
  if h.gr.getD cap false = false then (h, d, -100) else if h.ds.length = 40 then (h, d, -8) else callB h d cap
/-- With a throw nothing changes. -/
def callF (h : Hst) (d : Dat) (cap : Nat) : Hst × Dat × Int := if (callI h d cap).2.2 = 0 then callI h d cap else (h, d, (callI h d cap).2.2)
def hostCallF (h : Hst) (d : Dat) (cap : Int) : Hst × Dat × Int × Int :=
  if hostOK h = false ∨ dataOK d = false then (hst0, dat0, 0, 1) else if inR cap 0 3 = false then (hst0, dat0, 0, 9) else ((callF h d cap.toNat).1, (callF h d cap.toNat).2.1, (callF h d cap.toNat).2.2, 0)
theorem top_take {d : Dat} (h : 2 ≤ d.st.length) : topF { d with st := d.st.take (d.st.length - 1) } = secF d := by
  unfold topF secF
  simp only [List.length_take]
  rw [show min (d.st.length - 1) d.st.length - 1 = d.st.length - 2 by omega]
  simp only [List.getD_eq_getElem?_getD]
  rw [List.getElem?_take_of_lt (by omega)]
section
variable {h : Hst} {d : Dat} {c : Nat}
theorem call_1 (a : h.gr.getD c false = false) : callI h d c = (h, d, -100) := by rw [callI, if_pos a]
theorem call_2 (a : h.gr.getD c false = true) (b : h.ds.length = 40) : callI h d c = (h, d, -8) := by rw [callI, if_neg (by rw [a]; simp), if_pos b]
theorem call_go (a : h.gr.getD c false = true) (b : ¬ h.ds.length = 40) : callI h d c = callB h d c := by rw [callI, if_neg (by rw [a]; simp), if_neg b]
theorem call0_4 (a : h.gr.getD 0 false = true) (b : ¬ h.ds.length = 40) (e : d.st.length < 1) : callI h d 0 = (h, d, -4) := by rw [call_go a b]; exact if_pos e
theorem call0_9 (a : h.gr.getD 0 false = true) (b : ¬ h.ds.length = 40) (e : ¬ d.st.length < 1) (f : inR (topF d) 0 7 = false) : callI h d 0 = (h, { d with st := d.st.take (d.st.length - 1) }, -9) := by rw [call_go a b]; exact (if_neg e).trans (if_pos f)
theorem call0_0 (a : h.gr.getD 0 false = true) (b : ¬ h.ds.length = 40) (e : ¬ d.st.length < 1) (f : inR (topF d) 0 7 = true) : callI h d 0 = ({ h with ds := h.ds ++ [⟨0, topF d, 0, h.st.getD (topF d).toNat 0⟩] }, { d with st := d.st.take (d.st.length - 1) ++ [h.st.getD (topF d).toNat 0] }, 0) := by rw [call_go a b]; exact (if_neg e).trans (if_neg (by rw [f]; simp))
theorem call1_4 (a : h.gr.getD 1 false = true) (b : ¬ h.ds.length = 40) (e : d.st.length < 2) : callI h d 1 = (h, d, -4) := by rw [call_go a b]; exact if_pos e
theorem call1_9 (a : h.gr.getD 1 false = true) (b : ¬ h.ds.length = 40) (e : ¬ d.st.length < 2) (f : inR (topF d) 0 7 = false) : callI h d 1 = (h, { d with st := d.st.take (d.st.length - 1) }, -9) := by rw [call_go a b]; exact (if_neg e).trans (if_pos f)
theorem call1_0 (a : h.gr.getD 1 false = true) (b : ¬ h.ds.length = 40) (e : ¬ d.st.length < 2) (f : inR (topF d) 0 7 = true) : callI h d 1 = ({ h with st := h.st.set (topF d).toNat (secF d), ds := h.ds ++ [⟨1, topF d, secF d, 0⟩] }, { d with st := d.st.take (d.st.length - 2) }, 0) := by rw [call_go a b]; exact (if_neg e).trans (if_neg (by rw [f]; simp))
theorem call2_4 (a : h.gr.getD 2 false = true) (b : ¬ h.ds.length = 40) (e : d.st.length < 1) : callI h d 2 = (h, d, -4) := by rw [call_go a b]; exact if_pos e
theorem call2_0 (a : h.gr.getD 2 false = true) (b : ¬ h.ds.length = 40) (e : ¬ d.st.length < 1) : callI h d 2 = ({ h with q := h.q.drop 1, ds := h.ds ++ [⟨2, topF d, 0, h.q.getD 0 0⟩] }, { d with st := d.st.take (d.st.length - 1) ++ [h.q.getD 0 0] }, 0) := by rw [call_go a b]; exact if_neg e
theorem call2_e (a : h.gr.getD 2 false = true) (b : ¬ h.ds.length = 40) (e : ¬ d.st.length < 1) (q : (h.q.length : Int) ≤ 0) : callI h d 2 = ({ h with ds := h.ds ++ [⟨2, topF d, 0, 0⟩] }, { d with st := d.st.take (d.st.length - 1) ++ [0] }, 0) := by
  have q0 : h.q = [] := List.length_eq_zero_iff.1 (by omega)
  rw [call2_0 a b e, q0]
  simp only [List.drop_nil, List.getD_nil]
theorem call3_3 (a : h.gr.getD 3 false = true) (b : ¬ h.ds.length = 40) (e : d.st.length = 32) : callI h d 3 = (h, d, -3) := by rw [call_go a b]; exact if_pos e
theorem call3_0 (a : h.gr.getD 3 false = true) (b : ¬ h.ds.length = 40) (e : ¬ d.st.length = 32) : callI h d 3 = ({ h with ds := h.ds ++ [⟨3, 0, 0, h.tk⟩] }, { d with st := d.st ++ [h.tk] }, 0) := by rw [call_go a b]; exact if_neg e
end
end Go.Abs
