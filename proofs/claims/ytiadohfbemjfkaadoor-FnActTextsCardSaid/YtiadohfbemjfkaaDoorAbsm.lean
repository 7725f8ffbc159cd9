/- Calls of the host, in plain Lean: what they keep, what they record. -/
import Derived.Test.YtiadohfbemjfkaaDoorAbsd
set_option linter.unusedVariables false
set_option linter.unusedSimpArgs false
noncomputable section
namespace Go.Abs
open Go
structure CallOk(h:Hst)(d:Dat)(c:Nat)(r:Hst × Dat × Int):Prop where
 ho:HostOk r.1
 da:DataOk r.2.1
 no:r.2.2≠ -100
 yes:r.2.2=0→ ∃y:Deal,r.1.ds=h.ds++[y]∧y.c=c
end Go.Abs
