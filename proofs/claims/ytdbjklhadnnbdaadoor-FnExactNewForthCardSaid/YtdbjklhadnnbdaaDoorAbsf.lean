/- What the program tells of actions, reports and hosts, in plain Lean. -/
import Derived.Test.YtdbjklhadnnbdaaDoorAbsd
import Derived.Lib.ItoaLen
set_option linter.unusedVariables false
set_option linter.unusedSimpArgs false
noncomputable section
namespace Go.Abs
open Go Go.Proofs

structure Doing where
  k : Int
  n : Int
  l : List UInt8
  deriving DecidableEq, Inhabited
def actR (a : Doing) : List AV := [.int .i64 a.k, .int .i64 a.n, .str a.l]
def actV (a : Doing) : AV := .agg (actR a)
/-- May the action stand? -/
def actOK (a : Doing) : Bool :=
  if a.k = 1 ∨ a.k = 2 then inR a.n 0 3 && decide (a.l = []) else if a.k = 3 then inR a.n 1 4000 && decide (a.l = []) else if a.k = 4 then cell a.n && decide (a.l = [])
  else if a.k = 5 then inR a.n 1 1000 && decide (a.l = []) else decide (a.k = 6) && decide (a.n = 0) && decide (a.l.length ≤ 400)

structure Rep where
  th : Int
  fu : Int
  sa : List UInt8
  st : List Int
  co : Bool
  deriving DecidableEq, Inhabited
def repR (r : Rep) : List AV := [.int .i64 r.th, .int .i64 r.fu, .str r.sa, roI r.st, .bool r.co]
def repV (r : Rep) : AV := .agg (repR r)
def repC (r : Rep) : List AV := [.int .i64 r.th, .int .i64 r.fu, .str r.sa, ownI r.st, .bool r.co]
def repO (r : Rep) : AV := .agg (repC r)
@[simp] theorem Rep.eta (d : Rep) : (⟨d.th, d.fu, d.sa, d.st, d.co⟩ : Rep) = d := rfl


def capW : List (List UInt8) := [[114, 101, 97, 100], [119, 114, 105, 116, 101], [97, 115, 107], [116, 105, 109, 101]]
def actW : List (List UInt8) := [[103, 114, 97, 110, 116], [114, 101, 118, 111, 107, 101], [114, 101, 102, 117, 101, 108], [97, 110, 115, 119, 101, 114], [116, 105, 99, 107]]
def actX : List (List UInt8) := [[103, 114, 97, 110, 116], [114, 101, 118, 111, 107, 101], [114, 101, 102, 117, 101, 108], [97, 110, 115, 119, 101, 114], [116, 105, 99, 107], [101, 118, 97, 108]]
def spacedL (xs : List Int) : List UInt8 := xs.flatMap fun n => 32 :: Lib.itoa n
theorem itoa_len {n : Int} (h0 : -9223372036854775808 ≤ n) (h1 : n ≤ 9223372036854775807) : (Lib.itoa n).length ≤ 21 := Lib.itoa_length_le n h0 h1
theorem spaced_len (xs : List Int) (h : ∀ x ∈ xs, -9223372036854775808 ≤ x ∧ x ≤ 9223372036854775807) : (spacedL xs).length ≤ 22 * xs.length := by
  induction xs with
  | nil => simp [spacedL]
  | cons x xs ih =>
    have h1 := itoa_len (h x (by simp)).1 (h x (by simp)).2
    have h2 := ih fun y hy => h y (by simp [hy])
    simp only [spacedL, List.flatMap_cons, List.length_append, List.length_cons] at h2 ⊢
    omega
theorem spaced_one (n : Int) : spacedL [n] = 32 :: Lib.itoa n := by simp [spacedL]
theorem spaced_next {xs : List Int} {i : Nat} (h : i < xs.length) : spacedL (xs.take (i + 1)) = spacedL (xs.take i) ++ (32 :: Lib.itoa (xs.getD i default)) := by
  have hxi : xs.getD i default = xs[i] := by simp [h]
  rw [hxi, List.take_succ_eq_append_getElem h, spacedL, List.flatMap_append]
  simp only [List.flatMap_cons, List.flatMap_nil, List.append_nil]
  rfl

/-! ### Reports -/
def hexD (n : Nat) : UInt8 := ([48, 49, 50, 51, 52, 53, 54, 55, 56, 57, 97, 98, 99, 100, 101, 102] : List UInt8).getD n 0
def hexF (s : List UInt8) : List UInt8 := s.flatMap fun c => [hexD (c.toNat / 16), hexD (c.toNat % 16)]
theorem hexF_len (s : List UInt8) : (hexF s).length = 2 * s.length := by
  induction s with
  | nil => rfl
  | cons c s ih => simp only [hexF, List.flatMap_cons, List.length_append, List.length_cons, List.length_nil] at ih ⊢; omega
theorem hexF_next {s : List UInt8} {i : Nat} (h : i < s.length) : hexF (s.take (i + 1)) = hexF (s.take i) ++ [hexD ((s.getD i default).toNat / 16), hexD ((s.getD i default).toNat % 16)] := by
  have hxi : s.getD i default = s[i] := by simp [h]
  rw [hxi, List.take_succ_eq_append_getElem h, hexF, List.flatMap_append]
  simp only [List.flatMap_cons, List.flatMap_nil, List.append_nil]
  rfl
def reportOK (r : Rep) : Bool := cell r.th && decide (r.st.length ≤ 32) && cellsOK r.st && inR r.fu 0 4000 && decide (r.sa.length ≤ 300)
def headF (r : Rep) : List UInt8 := if r.th ≠ 0 then [116, 104, 114, 111, 119] ++ spacedL [r.th] else if r.co = true then [99, 111, 109, 112, 105, 108, 105, 110, 103] else [111, 107]
def saidF (s : List UInt8) : List UInt8 := if s = [] then [45] else hexF s
def repT (r : Rep) : List UInt8 := headF r ++ [32, 102, 117, 101, 108] ++ spacedL [r.fu] ++ [32, 115, 97, 105, 100, 32] ++ saidF r.sa ++ [32, 115, 116, 97, 99, 107] ++ spacedL r.st

/-! ### Hosts -/
def grT (gr : List Bool) (i : Nat) : List UInt8 := [103, 114, 97, 110, 116, 101, 100] ++ (List.range i).flatMap fun j => if gr.getD j false = true then 32 :: capW.getD j [] else []
theorem grT_next (gr : List Bool) (i : Nat) : grT gr (i + 1) = if gr.getD i false = true then grT gr i ++ (32 :: capW.getD i []) else grT gr i := by
  unfold grT
  rw [List.range_succ, List.flatMap_append]
  simp only [List.flatMap_cons, List.flatMap_nil, List.append_nil]
  split <;> simp
def clockT (h : Hst) : List UInt8 := [99, 108, 111, 99, 107] ++ spacedL [h.tk] ++ [32, 97, 110, 115, 119, 101, 114, 115] ++ spacedL [(h.q.length : Int)]
def storeT (st : List Int) (i : Nat) : List (List UInt8) := (List.range i).flatMap fun j => if st.getD j 0 = 0 then [] else [[115, 116, 111, 114, 101] ++ spacedL [(j : Int), st.getD j 0]]
theorem storeT_next (st : List Int) (i : Nat) : storeT st (i + 1) = if st.getD i 0 = 0 then storeT st i else storeT st i ++ [[115, 116, 111, 114, 101] ++ spacedL [(i : Int), st.getD i 0]] := by
  unfold storeT
  rw [List.range_succ, List.flatMap_append]
  simp only [List.flatMap_cons, List.flatMap_nil, List.append_nil]
  split <;> simp
def dealT (d : Deal) : List UInt8 := capW.getD d.c.toNat [] ++ spacedL [d.a, d.b, d.r]
def hostT (h : Hst) : List (List UInt8) := [grT h.gr 4, clockT h] ++ storeT h.st 8 ++ h.ds.map dealT
end Go.Abs
