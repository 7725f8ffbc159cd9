/- What the program tells of actions, reports and hosts, in plain Lean. -/
import Derived.Test.YtiadohfbemjfkaaDoorAbsd
import Derived.Lib.ItoaLen
set_option linter.unusedVariables false
set_option linter.unusedSimpArgs false
noncomputable section
namespace Go.Abs
open Go Go.Proofs
structure Doing where
 k:Int
 n:Int
 l:List UInt8
 deriving DecidableEq,Inhabited
def actR(a:Doing):List AV:=[.int .i64 a.k,.int .i64 a.n,.str a.l]
def actV(a:Doing):AV:=.agg (actR a)
def actOK(a:Doing):Bool:=
 if a.k=1∨a.k=2 then inR a.n 0 3&&decide (a.l=[])else if a.k=3 then inR a.n 1 4000&&decide (a.l=[])else if a.k=4 then cell a.n&&decide (a.l=[])
 else if a.k=5 then inR a.n 1 1000&&decide (a.l=[])else decide (a.k=6)&&decide (a.n=0)&&decide (a.l.length≤400)
structure Rep where
 th:Int
 fu:Int
 sa:List UInt8
 st:List Int
 co:Bool
 deriving DecidableEq,Inhabited
@[simp] theorem Rep.eta(d:Rep):(⟨d.th,d.fu,d.sa,d.st,d.co⟩:Rep)=d:=rfl
def capW:List (List UInt8):=[[114,101,97,100],[119,114,105,116,101],[97,115,107],[116,105,109,101]]
def actW:List (List UInt8):=[[103,114,97,110,116],[114,101,118,111,107,101],[114,101,102,117,101,108],[97,110,115,119,101,114],[116,105,99,107]]
def actX:List (List UInt8):=[[103,114,97,110,116],[114,101,118,111,107,101],[114,101,102,117,101,108],[97,110,115,119,101,114],[116,105,99,107],[101,118,97,108]]
def spacedL(xs:List Int):List UInt8:=xs.flatMap fun n=>32::Lib.itoa n
theorem itoa_len{n:Int}(h0: -9223372036854775808≤n)(h1:n≤9223372036854775807):(Lib.itoa n).length≤21:=Lib.itoa_length_le n h0 h1
theorem spaced_len(xs:List Int)(h: ∀x∈xs,-9223372036854775808≤x∧x≤9223372036854775807):(spacedL xs).length≤22*xs.length:=by
 induction xs with
 |nil=>simp[spacedL]
 |cons x xs ih=>
  have h1:=itoa_len (h x (by simp)).1 (h x (by simp)).2
  have h2:=ih fun y hy=>h y (by simp[hy])
  simp only[spacedL,List.flatMap_cons,List.length_append,List.length_cons]at h2⊢
  omega
end Go.Abs
