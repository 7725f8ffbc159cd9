/- What the program tells of actions, reports and hosts, in plain Lean. -/
import Derived.Test.YtidkogijdlfjpaaGreatDoorAbsd
import Derived.Lib.ItoaLen
set_option linter.unusedVariables false
set_option linter.unusedSimpArgs false
noncomputable section
namespace Go.Abs
open Go Go.Proofs
structure Doing where
 k:Int
 n:Int
 l:List UInt8
 deriving DecidableEq,Inhabited
structure Rep where
 th:Int
 fu:Int
 sa:List UInt8
 st:List Int
 co:Bool
 deriving DecidableEq,Inhabited
@[simp] theorem Rep.eta(d:Rep):(⟨d.th,d.fu,d.sa,d.st,d.co⟩:Rep)=d:=rfl
end Go.Abs
