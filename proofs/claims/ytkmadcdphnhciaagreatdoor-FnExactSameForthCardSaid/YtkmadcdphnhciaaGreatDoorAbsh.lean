/- What the program computes of words, in plain Lean. -/
import Derived.Test.YtkmadcdphnhciaaGreatDoorAbsd
set_option linter.unusedVariables false
set_option linter.unusedSimpArgs false
noncomputable section
namespace Go.Abs
open Go

def wordOK (s : List UInt8) : Bool := inR s.length 1 12 && s.all fun c => decide (33 ≤ c.toNat) && decide (c.toNat ≤ 126)
def kernelG : List (List (List UInt8)) := [
  [[68, 85, 80], [68, 82, 79, 80], [83, 87, 65, 80], [79, 86, 69, 82], [82, 79, 84], [78, 73, 80], [84, 85, 67, 75], [63, 68, 85, 80], [50, 68, 85, 80], [50, 68, 82, 79, 80], [68, 69, 80, 84, 72], [62, 82], [82, 62], [82, 64], [43], [45], [42], [47], [77, 79, 68], [65, 78, 68], [79, 82], [88, 79, 82], [76, 83, 72, 73, 70, 84], [82, 83, 72, 73, 70, 84], [78, 69, 71, 65, 84, 69], [65, 66, 83], [73, 78, 86, 69, 82, 84], [49, 43], [49, 45], [77, 73, 78], [77, 65, 88], [61], [60, 62], [60], [62], [85, 60], [48, 61], [48, 60], [64], [33], [43, 33], [72, 69, 82, 69], [65, 76, 76, 79, 84], [44], [69, 77, 73, 84], [46], [67, 82], [83, 80, 65, 67, 69], [68, 69, 67, 73, 77, 65, 76], [72, 69, 88], [73], [85, 78, 76, 79, 79, 80]],
  [[69, 88, 73, 84], [69, 88, 69, 67, 85, 84, 69], [67, 65, 84, 67, 72], [84, 72, 82, 79, 87]],
  [[40, 76, 73, 84, 41], [40, 66, 82, 65, 78, 67, 72, 41], [40, 48, 66, 82, 65, 78, 67, 72, 41], [40, 68, 79, 41], [40, 76, 79, 79, 80, 41], [40, 43, 76, 79, 79, 80, 41]],
  [[72, 82, 69, 65, 68], [72, 87, 82, 73, 84, 69], [72, 65, 83, 75], [72, 84, 73, 77, 69]],
  [[58], [59], [73, 70], [69, 76, 83, 69], [84, 72, 69, 78], [66, 69, 71, 73, 78], [85, 78, 84, 73, 76], [87, 72, 73, 76, 69], [82, 69, 80, 69, 65, 84], [68, 79], [76, 79, 79, 80], [43, 76, 79, 79, 80], [82, 69, 67, 85, 82, 83, 69], [86, 65, 82, 73, 65, 66, 76, 69], [67, 79, 78, 83, 84, 65, 78, 84], [39], [91, 39, 93]]]
def kernelR : Nat → List (List (List UInt8)) → List Wd
  | _, [] => []
  | k, g :: l => (g.zipIdx.map fun p => ⟨p.1, (k : Int) + 1, (p.2 : Int) + 1⟩) ++ kernelR (k + 1) l
def kernelW : List Wd := kernelR 0 kernelG
theorem kernelW_len : kernelW.length = 83 := by decide +kernel
def scriptOK (x : Wd) : Bool :=
  if x.k = 6 then wordOK x.nm && inR x.v 0 399 else if x.k = 7 then wordOK x.nm && (inR x.v 4096 4223 && decide (x.v.tmod 4 = 0)) else decide (x.k = 8) && wordOK x.nm && cell x.v
def badScript (x : Wd) : Bool := !scriptOK x
def kernSame (xs : List Wd) : Bool := decide (83 ≤ xs.length) && decide (xs.length ≤ 4096) && decide (xs.take 83 = kernelW)
def dictOK (xs : List Wd) : Bool := decide (xs.length ≤ 103) && kernSame xs && (xs.drop 83).all scriptOK
end Go.Abs
