/- The abstract layer, 32: what proofs of contracts use again and again: numbers in range, rows of slices. -/
import Derived.Test.YtbngkaiocdpliaaAbs4
set_option linter.unusedVariables false
set_option linter.unusedSimpArgs false
namespace Go.Abs
open Go

theorem maxLn_eq : maxLn = 9223372036854775807 := rfl
theorem wrap_fits {k : IntKind} {n : Int} (h : fitsK k n = true) : k.wrap n = n := by
  cases k <;> simp [fitsK] at h <;> simp [IntKind.wrap, IntKind.signed, IntKind.bits] <;> omega
theorem wrap64 {n : Int} (h1 : -9223372036854775808 ≤ n) (h2 : n ≤ 9223372036854775807) : IntKind.i64.wrap n = n := wrap_fits (by simp [fitsK]; omega)
theorem wrap32 {n : Int} (h1 : -2147483648 ≤ n) (h2 : n ≤ 2147483647) : IntKind.i32.wrap n = n := wrap_fits (by simp [fitsK]; omega)
theorem fits64 {n : Int} (h : fitsK .i64 n = true) : -9223372036854775808 ≤ n ∧ n ≤ 9223372036854775807 := by simpa [fitsK] using h
theorem fits32 {n : Int} (h : fitsK .i32 n = true) : -2147483648 ≤ n ∧ n ≤ 2147483647 := by simpa [fitsK] using h
theorem fitsu8 {n : Int} (h : fitsK .u8 n = true) : 0 ≤ n ∧ n ≤ 255 := by simpa [fitsK] using h

/-- Slices of numbers, of strings. -/
def intR (n : Int) : List AV := [.int .i64 n]
def strR (s : List UInt8) : List AV := [.str s]
def roI (xs : List Int) : AV := .ro [.int .i64 0] (xs.map intR)
def roS (xs : List (List UInt8)) : AV := .ro [.str []] (xs.map strR)
def ownI (xs : List Int) : AV := .own 0 [.int .i64 0] (xs.map intR)
def ownS (xs : List (List UInt8)) : AV := .own 0 [.str []] (xs.map strR)
theorem row_map {α : Type} (f : α → List AV) (xs : List α) (i : Nat) (z : List AV) (d : α) (h : i < xs.length) : rowA (xs.map f) i z = f (xs.getD i d) := by
  simp [rowA, h]
theorem row_int (xs : List Int) (i : Nat) (z : List AV) (h : i < xs.length) : rowA (xs.map intR) i z = [.int .i64 (xs.getD i 0)] := row_map _ _ _ _ _ h
theorem row_str (xs : List (List UInt8)) (i : Nat) (z : List AV) (h : i < xs.length) : rowA (xs.map strR) i z = [.str (xs.getD i [])] := row_map _ _ _ _ _ h
theorem sub_map {α : Type} (f : α → List AV) (xs : List α) (o n : Nat) : subA (xs.map f) o n = ((xs.drop o).take n).map f := by simp [subA, List.map_take, List.map_drop]
theorem facts_roI {xs : List Int} (h : ∀ d, (roI xs).facts d) : xs.length ≤ 9223372036854775807 ∧ ∀ n ∈ xs, -9223372036854775808 ≤ n ∧ n ≤ 9223372036854775807 := by
  obtain ⟨h1, h2⟩ := h 1
  refine ⟨by simpa [maxLn] using h1, fun n hn => fits64 (h2 [.int .i64 n] (List.mem_map.2 ⟨n, hn, rfl⟩) (.int .i64 n) (by simp))⟩
theorem facts_roS {xs : List (List UInt8)} (h : ∀ d, (roS xs).facts d) : xs.length ≤ 9223372036854775807 ∧ ∀ n ∈ xs, n.length ≤ 9223372036854775807 := by
  obtain ⟨h1, h2⟩ := h 1
  refine ⟨by simpa [maxLn] using h1, fun n hn => h2 [.str n] (List.mem_map.2 ⟨n, hn, rfl⟩) (.str n) (by simp)⟩
theorem facts_int {n : Int} (h : ∀ d, (AV.int .i64 n).facts d) : -9223372036854775808 ≤ n ∧ n ≤ 9223372036854775807 := fits64 (h 0)
theorem facts_str {s : List UInt8} (h : ∀ d, (AV.str s).facts d) : s.length ≤ 9223372036854775807 := h 0
theorem take_next {α : Type} {xs ys : List α} {i : Nat} (d : α) (h : xs.take i = ys.take i) (h1 : i < xs.length) (h2 : i < ys.length) (h3 : xs.getD i d = ys.getD i d) : xs.take (i + 1) = ys.take (i + 1) := by
  rw [List.take_add_one, List.take_add_one, h]
  simp [List.getD, h1, h2] at h3
  simp [h1, h2, h3]
theorem setRow_map {α : Type} (f : α → List AV) (xs : List α) (i : Nat) (z vs : List AV) (v : α) (d : α) (h : i < xs.length) (hv : f v = vs) (hl : (f (xs.getD i d)).length = vs.length) : setRow (xs.map f) i 0 z vs = (xs.set i v).map f := by
  unfold setRow setCells
  rw [row_map f xs i z d h]
  have : (f (xs.getD i d)).drop vs.length = [] := List.drop_eq_nil_of_le (by omega)
  simp only [List.take_zero, List.nil_append, Nat.zero_add, this, List.append_nil, List.map_set, hv]
theorem setRow_int (xs : List Int) (i : Nat) (z : List AV) (v : Int) (h : i < xs.length) : setRow (xs.map intR) i 0 z [.int .i64 v] = (xs.set i v).map intR := setRow_map _ _ _ _ _ v 0 h rfl rfl
theorem setRow_str (xs : List (List UInt8)) (i : Nat) (z : List AV) (v : List UInt8) (h : i < xs.length) : setRow (xs.map strR) i 0 z [.str v] = (xs.set i v).map strR := setRow_map _ _ _ _ _ v [] h rfl rfl
/-- A slice that is copied element by element. -/
def cpy {α : Type} (xs : List α) (d : α) (i : Nat) : List α := xs.take i ++ List.replicate (xs.length - i) d
theorem cpy_zero {α : Type} (xs : List α) (d : α) : cpy xs d 0 = List.replicate xs.length d := by simp [cpy]
theorem cpy_all {α : Type} (xs : List α) (d : α) : cpy xs d xs.length = xs := by simp [cpy]
theorem cpy_len {α : Type} (xs : List α) (d : α) (i : Nat) (h : i ≤ xs.length) : (cpy xs d i).length = xs.length := by simp [cpy]; omega
theorem cpy_next {α : Type} (xs : List α) (d : α) (i : Nat) (h : i < xs.length) : (cpy xs d i).set i (xs.getD i d) = cpy xs d (i + 1) := by
  unfold cpy
  obtain ⟨m, hm⟩ : ∃ m, xs.length - i = m + 1 := ⟨xs.length - i - 1, by omega⟩
  rw [hm, List.replicate_succ, List.set_append_right _ _ (by simp; omega)]
  have : i - (xs.take i).length = 0 := by simp; omega
  rw [this, show xs.length - (i + 1) = m by omega, List.take_succ_eq_append_getElem h, List.append_assoc, show xs.getD i d = xs[i] by simp [h]]
  rfl
end Go.Abs
