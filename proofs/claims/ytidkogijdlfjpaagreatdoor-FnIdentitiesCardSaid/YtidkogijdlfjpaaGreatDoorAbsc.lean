/- The data of the program in plain Lean: their rows, sizes and marks. No program in sight. -/
import Derived.Test.YtidkogijdlfjpaaGreatDoorAbs6
set_option linter.unusedVariables false
set_option linter.unusedSimpArgs false
noncomputable section
namespace Go.Abs
open Go
section
variable{α:Type}(mks:Int→α)(c:Int)
def mkS(n:Nat)(k:Int):List α:=(List.range n).map fun i:Nat=>mks (k+c*(i:Int))
theorem mkS_len(n:Nat)(k:Int):(mkS mks c n k).length=n:=by simp[mkS]
end
theorem setRow_len(rows:List (List AV))(i j:Nat)(z vs:List AV):(setRow rows i j z vs).length=rows.length:=by simp[setRow]
abbrev zI:List AV:=[.int .i64 0]
def mksI(k:Int):Int:=k
structure Deal where
 c:Int
 a:Int
 b:Int
 r:Int
 deriving DecidableEq,Inhabited
structure Wd where
 nm:List UInt8
 k:Int
 v:Int
 deriving DecidableEq,Inhabited
structure Itm where
 k:Int
 v:Int
 deriving DecidableEq,Inhabited
structure Cal where
 ip:Int
 fl:Int
 dp:Int
 ca:Bool
 deriving DecidableEq,Inhabited
structure Dat where
 st:List Int
 bk:List Int
 ce:List Int
 he:Int
 ba:Int
 ou:List UInt8
 deriving DecidableEq,Inhabited
def datR(d:Dat):List AV:=[roI d.st,roI d.bk,roI d.ce,.int .i64 d.he,.int .i64 d.ba,.str d.ou]
def datV(d:Dat):AV:=.agg (datR d)
def datC(d:Dat):List AV:=[ownI d.st,ownI d.bk,ownI d.ce,.int .i64 d.he,.int .i64 d.ba,.str d.ou]
def datO(d:Dat):AV:=.agg (datC d)
@[simp] theorem Dat.eta(d:Dat):(⟨d.st,d.bk,d.ce,d.he,d.ba,d.ou⟩:Dat)=d:=rfl
def dat0:Dat:=⟨[],[],[],0,0,[]⟩
structure Hst where
 gr:List Bool
 st:List Int
 q:List Int
 tk:Int
 ds:List Deal
 deriving DecidableEq,Inhabited
@[simp] theorem Hst.eta(h:Hst):(⟨h.gr,h.st,h.q,h.tk,h.ds⟩:Hst)=h:=rfl
theorem lms:(∀{p:Prop}[Decidable p],(decide p=true)=p)∧(∀{α β:Type}{as:List α}(f:α→β),(as.map f).length=as.length)∧(∀{α:Type}(mks:Int→α)(c:Int)(n:Nat)(k:Int),(mkS mks c n k).length=n)∧(∀(rows:List (List AV))(i j:Nat)(z vs:List AV),(setRow rows i j z vs).length=rows.length):=⟨decide_eq_true_eq,List.length_map,fun m c n k=>mkS_len m c n k,setRow_len⟩
end Go.Abs
