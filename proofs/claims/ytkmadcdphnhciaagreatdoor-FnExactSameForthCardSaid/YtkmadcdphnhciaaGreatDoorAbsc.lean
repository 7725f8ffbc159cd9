/- The data of the program in plain Lean: their rows, sizes and marks. No program in sight. -/
import Derived.Test.YtkmadcdphnhciaaGreatDoorAbs6
set_option linter.unusedVariables false
set_option linter.unusedSimpArgs false
noncomputable section
namespace Go.Abs
open Go

section
variable {α : Type} (mks : Int → α) (c : Int)
def mkS (n : Nat) (k : Int) : List α := (List.range n).map fun i : Nat => mks (k + c * (i : Int))
theorem mkS_len (n : Nat) (k : Int) : (mkS mks c n k).length = n := by simp [mkS]
end

theorem setRow_len (rows : List (List AV)) (i j : Nat) (z vs : List AV) : (setRow rows i j z vs).length = rows.length := by simp [setRow]
def szC (x : Int) (f : Int → Int) : Int := if x < 0 then -1 else f x
theorem szC_step {x : Int} {f : Int → Int} (e : 0 ≤ szC x f) : 0 ≤ x ∧ 0 ≤ f x ∧ szC x f = f x := by
  unfold szC at e ⊢
  by_cases h : x < 0
  · rw [if_pos h] at e; omega
  · rw [if_neg h] at e ⊢; exact ⟨by omega, e, rfl⟩
def szN (n : Nat) (left : Int) : Int := if IntKind.i64.wrap (left - n) < 0 then -1 else IntKind.i64.wrap (left - n)
theorem szN_le {m : Nat} {l : Int} (h1 : 0 ≤ l) (h2 : l ≤ 1048576) (hx : m ≤ 9223372036854775807) (h : 0 ≤ szN m l) : szN m l ≤ l ∧ m ≤ 1048576 := by
  unfold szN at h ⊢
  rw [wr h1 h2 hx] at h ⊢
  by_cases h3 : l - (m : Int) < 0
  · rw [if_pos h3] at h; omega
  · rw [if_neg h3]; omega

abbrev zI : List AV := [.int .i64 0]
abbrev zB : List AV := [.bool false]
abbrev zS : List AV := [.str []]
def boolR (b : Bool) : List AV := [.bool b]
def roB (bs : List Bool) : AV := .ro zB (bs.map boolR)
def ownB (bs : List Bool) : AV := .own 0 zB (bs.map boolR)
structure Deal where
  c : Int
  a : Int
  b : Int
  r : Int
  deriving DecidableEq, Inhabited
def dealR (d : Deal) : List AV := [.int .i64 d.c, .int .i64 d.a, .int .i64 d.b, .int .i64 d.r]
def dealV (d : Deal) : AV := .agg (dealR d)
abbrev zD : List AV := [.int .i64 0, .int .i64 0, .int .i64 0, .int .i64 0]
def roD (ds : List Deal) : AV := .ro zD (ds.map dealR)
def ownD (ds : List Deal) : AV := .own 0 zD (ds.map dealR)
structure Wd where
  nm : List UInt8
  k : Int
  v : Int
  deriving DecidableEq, Inhabited
def wdR (x : Wd) : List AV := [.str x.nm, .int .i64 x.k, .int .i64 x.v]
def wdV (x : Wd) : AV := .agg (wdR x)
abbrev zW : List AV := [.str [], .int .i64 0, .int .i64 0]
def roW (xs : List Wd) : AV := .ro zW (xs.map wdR)
def ownW (xs : List Wd) : AV := .own 0 zW (xs.map wdR)

structure Itm where
  k : Int
  v : Int
  deriving DecidableEq, Inhabited
def itR (x : Itm) : List AV := [.int .i64 x.k, .int .i64 x.v]
def itV (x : Itm) : AV := .agg (itR x)
abbrev zT : List AV := [.int .i64 0, .int .i64 0]
def roT (xs : List Itm) : AV := .ro zT (xs.map itR)
def ownT (xs : List Itm) : AV := .own 0 zT (xs.map itR)
structure Cal where
  ip : Int
  fl : Int
  dp : Int
  ca : Bool
  deriving DecidableEq, Inhabited
def calR (x : Cal) : List AV := [.int .i64 x.ip, .int .i64 x.fl, .int .i64 x.dp, .bool x.ca]
def calV (x : Cal) : AV := .agg (calR x)
abbrev zC : List AV := [.int .i64 0, .int .i64 0, .int .i64 0, .bool false]
def roC (xs : List Cal) : AV := .ro zC (xs.map calR)
def ownC (xs : List Cal) : AV := .own 0 zC (xs.map calR)
structure Dat where
  st : List Int
  bk : List Int
  ce : List Int
  he : Int
  ba : Int
  ou : List UInt8
  deriving DecidableEq, Inhabited
def datR (d : Dat) : List AV := [roI d.st, roI d.bk, roI d.ce, .int .i64 d.he, .int .i64 d.ba, .str d.ou]
def datV (d : Dat) : AV := .agg (datR d)
def datC (d : Dat) : List AV := [ownI d.st, ownI d.bk, ownI d.ce, .int .i64 d.he, .int .i64 d.ba, .str d.ou]
def datO (d : Dat) : AV := .agg (datC d)
@[simp] theorem Dat.eta (d : Dat) : (⟨d.st, d.bk, d.ce, d.he, d.ba, d.ou⟩ : Dat) = d := rfl
structure Hst where
  gr : List Bool
  st : List Int
  q : List Int
  tk : Int
  ds : List Deal
  deriving DecidableEq, Inhabited
def hstR (h : Hst) : List AV := [roB h.gr, roI h.st, roI h.q, .int .i64 h.tk, roD h.ds]
def hstV (h : Hst) : AV := .agg (hstR h)
def hstC (h : Hst) : List AV := [ownB h.gr, ownI h.st, ownI h.q, .int .i64 h.tk, ownD h.ds]
def hstO (h : Hst) : AV := .agg (hstC h)
@[simp] theorem Hst.eta (h : Hst) : (⟨h.gr, h.st, h.q, h.tk, h.ds⟩ : Hst) = h := rfl
end Go.Abs
