/- Numbers in decimal digits, marks of text: in plain Lean. -/
import Derived.Test.YtdbjklhadnnbdaaDoorAbsf
import Derived.Lib.ItoaLen
set_option linter.unusedVariables false
set_option linter.unusedSimpArgs false
noncomputable section
namespace Go.Abs
open Go Go.Proofs
theorem dec_step {u : Nat} (h : ¬ u < 10) : Lib.decDigits u = Lib.decDigits (u / 10) ++ [UInt8.ofNat (48 + u % 10)] := by rw [Lib.decDigits, dif_neg h]
theorem dec_len (u : Nat) (h : u < 18446744073709551616) : (Lib.decDigits u).length ≤ 20 := by rw [Lib.decDigits_length]; exact Lib.nDigits_le20 u h
theorem quo10 (u : Nat) (hu : u ≤ 9223372036854775807) : IntKind.i64.wrap ((u : Int).tdiv 10) = ((u / 10 : Nat) : Int) := by
  have h : (u : Int).tdiv 10 = ((u / 10 : Nat) : Int) := rfl
  rw [h, wrap64 (by omega) (by omega)]
theorem rem10 (u : Nat) : IntKind.i64.wrap (48 + (u : Int).tmod 10) = ((48 + u % 10 : Nat) : Int) := by
  have h : (u : Int).tmod 10 = ((u % 10 : Nat) : Int) := rfl
  rw [h, wrap64 (by omega) (by omega)]
  omega
theorem byteOf {k : Nat} (h : k < 256) : UInt8.ofNat (IntKind.u8.wrap (k : Int)).toNat = UInt8.ofNat k := by
  have : IntKind.u8.wrap (k : Int) = k := by simp [IntKind.wrap, IntKind.signed, IntKind.bits]; omega
  rw [this]
  rfl
def mksS (k : Int) : List UInt8 := 109 :: Lib.decDigits k.toNat
/-- Digits laid from the end: u is still to lay, s has been laid. -/
def DecInv (k u : Nat) (s : List UInt8) : Prop := u ≤ k ∧ s.length + (Lib.decDigits u).length ≤ 22 ∧ ((u = 0 ∧ s = Lib.decDigits k) ∨ (0 < u ∧ Lib.decDigits u ++ s = Lib.decDigits k))
theorem DecInv.next {k u : Nat} {s : List UInt8} (h : DecInv k u s) (hu : 0 < u) (hk : k ≤ 9223372036854775807) : DecInv k (u / 10) ([UInt8.ofNat (48 + u % 10)] ++ s) := by
  obtain ⟨h1, h2, h3⟩ := h
  rcases h3 with ⟨h3, _⟩ | ⟨_, h3⟩
  · omega
  by_cases h10 : u < 10
  · have e : u / 10 = 0 := by omega
    have e2 : u % 10 = u := by omega
    rw [Lib.decDigits_one h10] at h2 h3
    rw [e, e2]
    have d0 : (Lib.decDigits 0).length = 1 := by rw [Lib.decDigits_one (by omega)]; rfl
    have hl := dec_len k (by omega)
    rw [← h3] at hl
    refine ⟨by omega, ?_, .inl ⟨rfl, h3⟩⟩
    rw [d0]
    omega
  · rw [dec_step h10] at h2 h3
    refine ⟨by omega, by simp only [List.length_append, List.length_cons, List.length_nil] at h2 ⊢; omega, .inr ⟨by omega, by rw [← h3]; simp⟩⟩
theorem szN_ok {n : Nat} {l : Int} (h : 0 ≤ IntKind.i64.wrap (l - n)) : szN n l = IntKind.i64.wrap (l - n) := by rw [szN, if_neg (by omega)]
theorem cells_get {xs : List Int} (h : cellsOK xs = true) {i : Nat} (hi : i < xs.length) (d : Int) : -2147483648 ≤ xs.getD i d ∧ xs.getD i d ≤ 2147483647 := by
  have e : xs.getD i d = xs[i] := by simp [hi]
  rw [e]
  exact inR_t (List.all_eq_true.1 h _ (List.getElem_mem hi))
theorem deals_get {xs : List Deal} (h : dealsOK xs = true) {i : Nat} (hi : i < xs.length) (d : Deal) : dealOK (xs.getD i d) = true := by
  have e : xs.getD i d = xs[i] := by simp [hi]
  rw [e]
  exact List.all_eq_true.1 h _ (List.getElem_mem hi)
theorem deal_r {d : Deal} (h : dealOK d = true) : (0 ≤ d.c ∧ d.c ≤ 3) ∧ (-2147483648 ≤ d.a ∧ d.a ≤ 2147483647) ∧ (-2147483648 ≤ d.b ∧ d.b ≤ 2147483647) ∧ (-2147483648 ≤ d.r ∧ d.r ≤ 2147483647) := by
  simp only [dealOK, Bool.and_eq_true] at h
  exact ⟨inR_t h.1.1.1, inR_t h.1.1.2, inR_t h.1.2, inR_t h.2⟩
theorem capW_len (i : Nat) : (capW.getD i []).length ≤ 5 := by
  by_cases h : i < 4
  · have : i = 0 ∨ i = 1 ∨ i = 2 ∨ i = 3 := by omega
    rcases this with rfl | rfl | rfl | rfl <;> decide
  · have : capW.getD i [] = [] := by
      rw [List.getD_eq_getElem?_getD, List.getElem?_eq_none (by simp [capW]; omega)]
      rfl
    rw [this]
    decide
theorem grT_len (gr : List Bool) (i : Nat) : (grT gr i).length ≤ 7 + 6 * i := by
  induction i with
  | zero => simp [grT]
  | succ i ih =>
    rw [grT_next]
    have := capW_len i
    split
    · rw [List.length_append, List.length_cons]; omega
    · omega
theorem spaced_2 (a b : Int) : spacedL [a, b] = (32 :: Lib.itoa a) ++ (32 :: Lib.itoa b) := by simp [spacedL]
theorem spaced_3 (a b c : Int) : spacedL [a, b, c] = (32 :: Lib.itoa a) ++ (32 :: Lib.itoa b) ++ (32 :: Lib.itoa c) := by simp [spacedL]
theorem storeT_len (st : List Int) (i : Nat) : (storeT st i).length ≤ i := by
  induction i with
  | zero => simp [storeT]
  | succ i ih =>
    rw [storeT_next]
    split
    · omega
    · rw [List.length_append, List.length_cons, List.length_nil]; omega
/-- Marks of words. -/
def mksW (k : Int) : Wd := ⟨mksS k, k + 1, k + 2⟩
end Go.Abs
