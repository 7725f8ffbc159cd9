/- The abstract layer, 32: what proofs of contracts use again and again: numbers in range, rows of slices. -/
import Derived.Test.YtdbjklhadnnbdaaDoorAbs4
set_option linter.unusedVariables false
set_option linter.unusedSimpArgs false
noncomputable section
namespace Go.Abs
open Go

theorem maxLn_eq : maxLn = 9223372036854775807 := rfl
theorem wrap_fits {k : IntKind} {n : Int} (h : fitsK k n = true) : k.wrap n = n := by
  cases k <;> simp [fitsK] at h <;> simp [IntKind.wrap, IntKind.signed, IntKind.bits] <;> omega
theorem wrap64 {n : Int} (h1 : -9223372036854775808 ≤ n) (h2 : n ≤ 9223372036854775807) : IntKind.i64.wrap n = n := wrap_fits (by simp [fitsK]; omega)
theorem wrap32 {n : Int} (h1 : -2147483648 ≤ n) (h2 : n ≤ 2147483647) : IntKind.i32.wrap n = n := wrap_fits (by simp [fitsK]; omega)
theorem fits64 {n : Int} (h : fitsK .i64 n = true) : -9223372036854775808 ≤ n ∧ n ≤ 9223372036854775807 := by simpa [fitsK] using h
theorem fits32 {n : Int} (h : fitsK .i32 n = true) : -2147483648 ≤ n ∧ n ≤ 2147483647 := by simpa [fitsK] using h
theorem fitsu8 {n : Int} (h : fitsK .u8 n = true) : 0 ≤ n ∧ n ≤ 255 := by simpa [fitsK] using h

/-- Slices of numbers, of strings. -/
def intR (n : Int) : List AV := [.int .i64 n]
def strR (s : List UInt8) : List AV := [.str s]
def roI (xs : List Int) : AV := .ro [.int .i64 0] (xs.map intR)
def roS (xs : List (List UInt8)) : AV := .ro [.str []] (xs.map strR)
def ownI (xs : List Int) : AV := .own 0 [.int .i64 0] (xs.map intR)
def ownS (xs : List (List UInt8)) : AV := .own 0 [.str []] (xs.map strR)
theorem row_map {α : Type} (f : α → List AV) (xs : List α) (i : Nat) (z : List AV) (d : α) (h : i < xs.length) : rowA (xs.map f) i z = f (xs.getD i d) := by
  simp [rowA, h]
theorem row_int (xs : List Int) (i : Nat) (z : List AV) (h : i < xs.length) : rowA (xs.map intR) i z = [.int .i64 (xs.getD i 0)] := row_map _ _ _ _ _ h
theorem row_str (xs : List (List UInt8)) (i : Nat) (z : List AV) (h : i < xs.length) : rowA (xs.map strR) i z = [.str (xs.getD i [])] := row_map _ _ _ _ _ h
theorem sub_map {α : Type} (f : α → List AV) (xs : List α) (o n : Nat) : subA (xs.map f) o n = ((xs.drop o).take n).map f := by simp [subA, List.map_take, List.map_drop]
theorem facts_roI {xs : List Int} (h : ∀ d, (roI xs).facts d) : xs.length ≤ 9223372036854775807 ∧ ∀ n ∈ xs, -9223372036854775808 ≤ n ∧ n ≤ 9223372036854775807 := by
  obtain ⟨h1, h2⟩ := h 1
  refine ⟨by simpa [maxLn] using h1, fun n hn => fits64 (h2 [.int .i64 n] (List.mem_map.2 ⟨n, hn, rfl⟩) (.int .i64 n) (by simp))⟩
theorem facts_roS {xs : List (List UInt8)} (h : ∀ d, (roS xs).facts d) : xs.length ≤ 9223372036854775807 ∧ ∀ n ∈ xs, n.length ≤ 9223372036854775807 := by
  obtain ⟨h1, h2⟩ := h 1
  refine ⟨by simpa [maxLn] using h1, fun n hn => h2 [.str n] (List.mem_map.2 ⟨n, hn, rfl⟩) (.str n) (by simp)⟩
theorem facts_int {n : Int} (h : ∀ d, (AV.int .i64 n).facts d) : -9223372036854775808 ≤ n ∧ n ≤ 9223372036854775807 := fits64 (h 0)
theorem facts_str {s : List UInt8} (h : ∀ d, (AV.str s).facts d) : s.length ≤ 9223372036854775807 := h 0
theorem take_next {α : Type} {xs ys : List α} {i : Nat} (d : α) (h : xs.take i = ys.take i) (h1 : i < xs.length) (h2 : i < ys.length) (h3 : xs.getD i d = ys.getD i d) : xs.take (i + 1) = ys.take (i + 1) := by
  rw [List.take_add_one, List.take_add_one, h]
  simp [List.getD, h1, h2] at h3
  simp [h1, h2, h3]
theorem setRow_map {α : Type} (f : α → List AV) (xs : List α) (i : Nat) (z vs : List AV) (v : α) (d : α) (h : i < xs.length) (hv : f v = vs) (hl : (f (xs.getD i d)).length = vs.length) : setRow (xs.map f) i 0 z vs = (xs.set i v).map f := by
  unfold setRow setCells
  rw [row_map f xs i z d h]
  have : (f (xs.getD i d)).drop vs.length = [] := List.drop_eq_nil_of_le (by omega)
  simp only [List.take_zero, List.nil_append, Nat.zero_add, this, List.append_nil, List.map_set, hv]
theorem setRow_int (xs : List Int) (i : Nat) (z : List AV) (v : Int) (h : i < xs.length) : setRow (xs.map intR) i 0 z [.int .i64 v] = (xs.set i v).map intR := setRow_map _ _ _ _ _ v 0 h rfl rfl
theorem setRow_str (xs : List (List UInt8)) (i : Nat) (z : List AV) (v : List UInt8) (h : i < xs.length) : setRow (xs.map strR) i 0 z [.str v] = (xs.set i v).map strR := setRow_map _ _ _ _ _ v [] h rfl rfl
/-- A slice that is copied element by element. -/
def cpy {α : Type} (xs : List α) (d : α) (i : Nat) : List α := xs.take i ++ List.replicate (xs.length - i) d
theorem cpy_zero {α : Type} (xs : List α) (d : α) : cpy xs d 0 = List.replicate xs.length d := by simp [cpy]
theorem cpy_all {α : Type} (xs : List α) (d : α) : cpy xs d xs.length = xs := by simp [cpy]
theorem cpy_len {α : Type} (xs : List α) (d : α) (i : Nat) (h : i ≤ xs.length) : (cpy xs d i).length = xs.length := by simp [cpy]; omega
theorem cpy_next {α : Type} (xs : List α) (d : α) (i : Nat) (h : i < xs.length) : (cpy xs d i).set i (xs.getD i d) = cpy xs d (i + 1) := by
  unfold cpy
  obtain ⟨m, hm⟩ : ∃ m, xs.length - i = m + 1 := ⟨xs.length - i - 1, by omega⟩
  rw [hm, List.replicate_succ, List.set_append_right _ _ (by simp; omega)]
  have : i - (xs.take i).length = 0 := by simp; omega
  rw [this, show xs.length - (i + 1) = m by omega, List.take_succ_eq_append_getElem h, List.append_assoc, show xs.getD i d = xs[i] by simp [h]]
  rfl
/-- A contract's result in other words: less is owned, or less is known. -/
theorem Con.sh {P : Program} {f : FuncId} {xs os : List AV} {res res' : AV} (h : Con P f xs os res) (hs : Sh res res') : Con P f xs os res' := by
  refine ⟨h.ok, fun w R O vals hp hR hO tb => (h.calls w R O vals hp hR hO tb).mono fun e w' hb => ?_⟩
  cases e with
  | returned v =>
    obtain ⟨O', hF, hO', O1, O2, hOO, hdd, hres, hrest⟩ := hb
    obtain ⟨O3, h1, h2⟩ := hs w' _ O1 v hres fun g o k => (hO' g o ((hOO g o).2 (.inl k))).2
    have hmono : ∀ g o, RS ⟨w, R, O, noLoc⟩ w' O' g o → RS ⟨w, R, O, noLoc⟩ w' (fun g o => O3 g o ∨ O2 g o) g o := fun g o k => ⟨k.1, k.2.1, fun n => k.2.2 ((hOO g o).2 (n.elim (fun n => .inl (h1 g o n)) .inr))⟩
    refine ⟨fun g o => O3 g o ∨ O2 g o, hF, fun g o k => hO' g o ((hOO g o).2 (k.elim (fun k => .inl (h1 g o k)) .inr)), O3, O2, fun g o => Iff.rfl, fun g o k1 k2 => hdd g o (h1 g o k1) k2, ?_, Parts.mono hmono (fun _ _ k => k) _ _ _ hrest⟩
    refine h2 _ hmono fun g o k n => ⟨?_, (hO' g o ((hOO g o).2 (.inl k))).2, fun m => m.elim n fun m => hdd g o k m⟩
    exact (hO' g o ((hOO g o).2 (.inl k))).1.elim (fun k => .inr (.inl k)) fun k => .inr (.inr k)
  | panicked ch => exact hb.elim
  | outgrown => exact hb.elim

/-- The first that has a property. -/
def findI {α : Type} (p : α → Bool) (xs : List α) : Int := match xs.findIdx? p with
  | some i => i
  | none => -1
theorem findI_hit {α : Type} {p : α → Bool} {xs : List α} {i : Nat} (d : α) (h : i < xs.length) (hp : p (xs.getD i d) = true) (hn : ∀ j, j < i → p (xs.getD j d) = false) : findI p xs = i := by
  have : xs.findIdx? p = some i := by
    rw [List.findIdx?_eq_some_iff_getElem]
    refine ⟨h, by simpa [h] using hp, fun j hj => ?_⟩
    have := hn j hj
    have hj' : j < xs.length := by omega
    simpa [hj'] using this
  simp [findI, this]
theorem findI_none {α : Type} {p : α → Bool} {xs : List α} (d : α) (hn : ∀ j, j < xs.length → p (xs.getD j d) = false) : findI p xs = -1 := by
  have : xs.findIdx? p = none := by
    rw [List.findIdx?_eq_none_iff]
    intro x hx
    obtain ⟨j, hj, rfl⟩ := List.mem_iff_getElem.1 hx
    have := hn j hj
    simpa [hj] using this
  simp [findI, this]
theorem findI_any {α : Type} (p : α → Bool) (xs : List α) : decide (0 ≤ findI p xs) = xs.any p := by
  unfold findI
  split
  · rename_i i h
    rw [List.findIdx?_eq_some_iff_getElem] at h
    obtain ⟨h1, h2, _⟩ := h
    have : xs.any p = true := List.any_eq_true.2 ⟨_, List.getElem_mem h1, h2⟩
    simp [this]
  · rename_i h
    rw [List.findIdx?_eq_none_iff] at h
    have : xs.any p = false := by simpa using h
    simp [this]
/-- How much is left behind the elements of a slice. -/
def szL {α : Type} (f : α → Int → Int) : List α → Int → Int
  | [], l => l
  | x :: xs, l => if f x l < 0 then -1 else szL f xs (f x l)
theorem szL_next {α : Type} {f : α → Int → Int} {xs : List α} {i : Nat} {l : Int} (d : α) (h : i < xs.length) : szL f (xs.drop i) l = if f (xs.getD i d) l < 0 then -1 else szL f (xs.drop (i + 1)) (f (xs.getD i d) l) := by
  rw [List.drop_eq_getElem_cons h]
  simp [szL, h]
theorem szL_end {α : Type} {f : α → Int → Int} {xs : List α} {l : Int} : szL f (xs.drop xs.length) l = l := by simp [szL]
/-- The length first, then the elements. -/
def szS {α : Type} (f : α → Int → Int) (xs : List α) (left : Int) : Int := if IntKind.i64.wrap (left - xs.length) < 0 then -1 else szL f xs (IntKind.i64.wrap (left - xs.length))
theorem wr {n : Int} {m : Nat} (h1 : 0 ≤ n) (h2 : n ≤ 1048576) (h3 : m ≤ 9223372036854775807) : IntKind.i64.wrap (n - m) = n - m := wrap64 (by omega) (by omega)
theorem szL_le {α : Type} {f : α → Int → Int} {q : α → Prop} (hf : ∀ x l, 0 ≤ l → l ≤ 1048576 → 0 ≤ f x l → f x l ≤ l ∧ q x) : ∀ (xs : List α) (l : Int), 0 ≤ l → l ≤ 1048576 → 0 ≤ szL f xs l → szL f xs l ≤ l ∧ ∀ x ∈ xs, q x
  | [], l, h1, h2, h3 => ⟨Int.le_refl _, fun x hx => by simp at hx⟩
  | x :: xs, l, h1, h2, h3 => by
    unfold szL at h3 ⊢
    by_cases h4 : f x l < 0
    · rw [if_pos h4] at h3; omega
    · rw [if_neg h4] at h3 ⊢
      obtain ⟨h5, h6⟩ := hf x l h1 h2 (by omega)
      obtain ⟨h7, h8⟩ := szL_le hf xs (f x l) (by omega) (by omega) h3
      refine ⟨by omega, fun y hy => ?_⟩
      rcases List.mem_cons.1 hy with rfl | hy
      · exact h6
      · exact h8 y hy
/-- Rows that are filled one by one. -/
def cpyR {α : Type} (f : α → List AV) (z : List AV) (xs : List α) (i : Nat) : List (List AV) := (xs.take i).map f ++ List.replicate (xs.length - i) z
theorem cpyR_zero {α : Type} (f : α → List AV) (z : List AV) (xs : List α) : cpyR f z xs 0 = List.replicate xs.length z := by simp [cpyR]
theorem cpyR_all {α : Type} (f : α → List AV) (z : List AV) (xs : List α) : cpyR f z xs xs.length = xs.map f := by simp [cpyR]
theorem cpyR_len {α : Type} (f : α → List AV) (z : List AV) (xs : List α) {i : Nat} (h : i ≤ xs.length) : (cpyR f z xs i).length = xs.length := by simp [cpyR]; omega
theorem cpyR_next {α : Type} {f : α → List AV} {z z' vs : List AV} {xs : List α} {i : Nat} (d : α) (h : i < xs.length) (hv : f (xs.getD i d) = vs) (hl : z.length = vs.length) : setRow (cpyR f z xs i) i 0 z' vs = cpyR f z xs (i + 1) := by
  subst hv
  unfold setRow setCells cpyR
  obtain ⟨m, hm⟩ : ∃ m, xs.length - i = m + 1 := ⟨xs.length - i - 1, by omega⟩
  have hlen : ((xs.take i).map f).length = i := by simp; omega
  have hr : rowA ((xs.take i).map f ++ List.replicate (xs.length - i) z) i z' = z := by
    unfold rowA
    rw [List.getD_eq_getElem?_getD, List.getElem?_append_right (by omega), hlen, hm]
    simp
  rw [hr, hm, List.replicate_succ, List.set_append_right _ _ (by omega), hlen, show xs.length - (i + 1) = m by omega, List.take_succ_eq_append_getElem h, List.map_append, List.append_assoc]
  have e : xs.getD i d = xs[i] := by simp [h]
  rw [e] at hl ⊢
  have : z.drop (f xs[i]).length = [] := List.drop_eq_nil_of_le (by omega)
  simp [this]
theorem facts_len {α : Type} {f : α → List AV} {z : List AV} {xs : List α} (h : ∀ d, (AV.ro z (xs.map f)).facts d) : xs.length ≤ 9223372036854775807 := by
  have := (h 1).1
  simpa [maxLn] using this
theorem take_nextA {α : Type} {xs ys : List α} {i : Nat} (d : α) (h : xs.take i = ys.take i) (h1 : i < xs.length) (h2 : i < ys.length) (h3 : xs.getD i d = ys.getD i d) : xs.take (i + 1) = ys.take (i + 1) := take_next d h h1 h2 h3
theorem take_done {α : Type} {xs ys : List α} {i : Nat} (h : xs.take i = ys.take i) (h1 : xs.length ≤ i) (h2 : ys.length ≤ i) : xs = ys := by
  rwa [List.take_of_length_le h1, List.take_of_length_le h2] at h
theorem szL_leM {α : Type} {f : α → Int → Int} {q : α → Prop} : ∀ (xs : List α) (l : Int), (∀ x ∈ xs, ∀ l, 0 ≤ l → l ≤ 1048576 → 0 ≤ f x l → f x l ≤ l ∧ q x) → 0 ≤ l → l ≤ 1048576 → 0 ≤ szL f xs l → szL f xs l ≤ l ∧ ∀ x ∈ xs, q x
  | [], l, hf, h1, h2, h3 => ⟨Int.le_refl _, fun x hx => by simp at hx⟩
  | x :: xs, l, hf, h1, h2, h3 => by
    unfold szL at h3 ⊢
    by_cases h4 : f x l < 0
    · rw [if_pos h4] at h3; omega
    · rw [if_neg h4] at h3 ⊢
      obtain ⟨h5, h6⟩ := hf x (by simp) l h1 h2 (by omega)
      obtain ⟨h7, h8⟩ := szL_leM xs (f x l) (fun y hy => hf y (by simp [hy])) (by omega) (by omega) h3
      refine ⟨by omega, fun y hy => ?_⟩
      rcases List.mem_cons.1 hy with rfl | hy
      · exact h6
      · exact h8 y hy
theorem szS_le {α : Type} {f : α → Int → Int} {q : α → Prop} {xs : List α} {l : Int} (hx : xs.length ≤ 9223372036854775807) (hf : ∀ x ∈ xs, ∀ l, 0 ≤ l → l ≤ 1048576 → 0 ≤ f x l → f x l ≤ l ∧ q x) (h1 : 0 ≤ l) (h2 : l ≤ 1048576) (h : 0 ≤ szS f xs l) :
    szS f xs l ≤ l ∧ xs.length ≤ 1048576 ∧ ∀ x ∈ xs, q x := by
  unfold szS at h ⊢
  rw [wr h1 h2 hx] at h ⊢
  by_cases h3 : l - (xs.length : Int) < 0
  · rw [if_pos h3] at h; omega
  · rw [if_neg h3] at h ⊢
    obtain ⟨h4, h5⟩ := szL_leM xs _ hf (by omega) (by omega) h
    exact ⟨by omega, by omega, h5⟩
/-- Elements that are marked one by one. -/
def mixL {α : Type} (mk : Nat → Int → List α) (xs : List α) (k : Int) (i : Nat) : List α := mk i k ++ xs.drop i
theorem mixL_len {α : Type} (mk : Nat → Int → List α) (hm : ∀ n k, (mk n k).length = n) {xs : List α} {k : Int} {i : Nat} (h : i ≤ xs.length) : (mixL mk xs k i).length = xs.length := by simp [mixL, hm]; omega
theorem mixL_next {α : Type} (mk : Nat → Int → List α) (val : Int → α) (hm : ∀ n k, (mk n k).length = n) (hn : ∀ n k, mk (n + 1) k = mk n k ++ [val (k + n)]) {xs : List α} {k : Int} {i : Nat} (h : i < xs.length) : (mixL mk xs k i).set i (val (k + i)) = mixL mk xs k (i + 1) := by
  unfold mixL
  rw [List.set_append_right _ _ (by simp [hm]), hm, Nat.sub_self, List.drop_eq_getElem_cons h, List.set_cons_zero, hn]
  simp
theorem mixL_get {α : Type} [Inhabited α] (mk : Nat → Int → List α) (val : Int → α) (hg : ∀ n k i, i < n → (mk n k).getD i default = val (k + i)) {n i : Nat} {k : Int} (h : i < n) : (mk n k).getD i default = val (k + i) := hg n k i h
/-- Rows of flat values. -/
theorem Sh.flat {z : List AV} {rows : List (List AV)} (hf : ∀ row ∈ rows, ∀ x ∈ row, x.flat = true) : Sh (.own 1 z rows) (.own 0 z rows) := fun w R O v h _ => by
  cases h with
  | sc h e => exact h.elim
  | own0 e => exact ⟨O, fun _ _ k => k, fun R' _ _ => .own0 e⟩
  | own vs os hcap hb hw hc hx hO hd hdd h0 h1 hm =>
    exact ⟨O, fun _ _ k => k, fun R' hR _ => .own vs os hcap hb hw hc (fun i j row x h1 h2 => (hx i j row x h1 h2).weak hR fun _ _ k => k) hO hd hdd (fun _ => hf) (fun _ => h1 (by decide)) hm⟩
theorem Sh.flat_map {α : Type} {z : List AV} {f : α → List AV} (hf : ∀ a, (f a).all AV.flat = true) (xs : List α) : Sh (.own 1 z (xs.map f)) (.own 0 z (xs.map f)) := Sh.flat fun row hr x hx => by
  obtain ⟨a, _, rfl⟩ := List.mem_map.1 hr
  exact List.all_eq_true.1 (hf a) x hx
end Go.Abs
