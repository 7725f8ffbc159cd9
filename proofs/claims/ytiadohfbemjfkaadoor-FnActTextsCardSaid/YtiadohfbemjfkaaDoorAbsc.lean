/- The data of the program in plain Lean: their rows, sizes and marks. No program in sight. -/
import Derived.Test.YtiadohfbemjfkaaDoorAbs6
set_option linter.unusedVariables false
set_option linter.unusedSimpArgs false
noncomputable section
namespace Go.Abs
open Go
section
variable{α:Type}(mks:Int→α)(c:Int)
end
abbrev zS:List AV:=[.str []]
structure Deal where
 c:Int
 a:Int
 b:Int
 r:Int
 deriving DecidableEq,Inhabited
structure Wd where
 nm:List UInt8
 k:Int
 v:Int
 deriving DecidableEq,Inhabited
structure Itm where
 k:Int
 v:Int
 deriving DecidableEq,Inhabited
structure Cal where
 ip:Int
 fl:Int
 dp:Int
 ca:Bool
 deriving DecidableEq,Inhabited
structure Dat where
 st:List Int
 bk:List Int
 ce:List Int
 he:Int
 ba:Int
 ou:List UInt8
 deriving DecidableEq,Inhabited
@[simp] theorem Dat.eta(d:Dat):(⟨d.st,d.bk,d.ce,d.he,d.ba,d.ou⟩:Dat)=d:=rfl
structure Hst where
 gr:List Bool
 st:List Int
 q:List Int
 tk:Int
 ds:List Deal
 deriving DecidableEq,Inhabited
@[simp] theorem Hst.eta(h:Hst):(⟨h.gr,h.st,h.q,h.tk,h.ds⟩:Hst)=h:=rfl
end Go.Abs
