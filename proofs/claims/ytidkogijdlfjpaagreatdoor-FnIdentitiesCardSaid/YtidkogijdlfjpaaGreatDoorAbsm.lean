/- Calls of the host, in plain Lean: what they keep, what they record. -/
import Derived.Test.YtidkogijdlfjpaaGreatDoorAbsd
set_option linter.unusedVariables false
set_option linter.unusedSimpArgs false
noncomputable section
namespace Go.Abs
open Go
theorem cells_app{xs ys:List Int}(h1:cellsOK xs=true)(h2:cellsOK ys=true):cellsOK (xs++ys)=true:=by
 unfold cellsOK at*
 rw[List.all_append,h1,h2];rfl
theorem cells_one{n:Int}(h:cell n=true):cellsOK [n]=true:=by simp[cellsOK,h]
structure CallOk(h:Hst)(d:Dat)(c:Nat)(r:Hst × Dat × Int):Prop where
 ho:HostOk r.1
 da:DataOk r.2.1
 no:r.2.2≠ -100
 yes:r.2.2=0→ ∃y:Deal,r.1.ds=h.ds++[y]∧y.c=c
end Go.Abs
