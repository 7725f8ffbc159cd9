/- What the program computes, in plain Lean: cells, data, the host. -/
import Derived.Test.YtidkogijdlfjpaaGreatDoorAbsc
set_option linter.unusedVariables false
set_option linter.unusedSimpArgs false
noncomputable section
namespace Go.Abs
open Go
def inR(n lo hi:Int):Bool:=decide (lo≤n)&&decide (n≤hi)
theorem inR_t{n lo hi:Int}(h:inR n lo hi=true):lo≤n∧n≤hi:=by simpa[inR]using h
def cell(n:Int):Bool:=inR n (-2147483648) 2147483647
theorem wrap_cell{n:Int}(h1: -9223372036854775808≤n)(h2:n≤9223372036854775807):(IntKind.i64.wrap (IntKind.i32.wrap n)==n)=cell n:=by
 have h3: -2147483648≤IntKind.i32.wrap n∧IntKind.i32.wrap n≤2147483647:=by
  simp[IntKind.wrap,IntKind.signed,IntKind.bits]
  omega
 rw[wrap64 (by omega) (by omega)]
 by_cases h: -2147483648≤n∧n≤2147483647
 ·rw[wrap32 h.1 h.2]
  simp[cell,inR,h.1,h.2]
 ·have:IntKind.i32.wrap n≠n:=fun e=>by rw[e]at h3;exact h h3
  have h5:cell n=false:=by simp[cell,inR];omega
  rw[h5]
  simpa using this
theorem any_hit{α:Type}[Inhabited α]{p:α→Bool}{xs:List α}{i:Nat}(h:i<xs.length)(hp:p (xs.getD i default)=true):xs.any p=true:=List.any_eq_true.2 ⟨xs[i],List.getElem_mem h,by simpa[h]using hp⟩
theorem any_none{α:Type}[Inhabited α]{p:α→Bool}{xs:List α}(h: ∀j,j<xs.length→p (xs.getD j default)=false):xs.any p=false:=by
 rw[List.any_eq_false]
 intro x hx
 obtain⟨j,hj,rfl⟩:=List.mem_iff_getElem.1 hx
 have:=h j hj
 simpa[hj]using this
theorem all_not_any{α:Type}(p:α→Bool)(xs:List α):(!xs.any fun x=> !p x)=xs.all p:=by
 induction xs with
 |nil=>rfl
 |cons x xs ih=>simp only[List.any_cons,List.all_cons,Bool.not_or,Bool.not_not,ih]
theorem all_bad{α:Type}[Inhabited α]{p:α→Bool}{xs:List α}{i:Nat}(h:i<xs.length)(hp:p (xs.getD i default)=false):xs.all p=false:=by
 rw[←all_not_any,any_hit h (by rw[hp];rfl)]
 rfl
theorem all_good{α:Type}[Inhabited α]{p:α→Bool}{xs:List α}(h: ∀j,j<xs.length→p (xs.getD j default)=true):xs.all p=true:=by
 rw[←all_not_any,any_none fun j hj=>by rw[h j hj];rfl]
 rfl
def badCell(n:Int):Bool:= !cell n
def cellsOK(xs:List Int):Bool:=xs.all cell
theorem cells_any(xs:List Int):xs.any badCell= !cellsOK xs:=by
 have:=all_not_any cell xs
 unfold cellsOK
 rw[←this,Bool.not_not]
 rfl
def dataOK(d:Dat):Bool:=decide (d.st.length≤32)&&decide (d.bk.length≤32)&&decide (d.ce.length=32)&&cellsOK d.st&&cellsOK d.bk&&cellsOK d.ce&&inR d.he 0 32&&inR d.ba 2 16&&decide (d.ou.length≤300)
structure DataOk(d:Dat):Prop where
 st:d.st.length≤32
 bk:d.bk.length≤32
 ce:d.ce.length=32
 cst:cellsOK d.st=true
 cbk:cellsOK d.bk=true
 cce:cellsOK d.ce=true
 he:0≤d.he∧d.he≤32
 ba:2≤d.ba∧d.ba≤16
 ou:d.ou.length≤300
theorem dataOK_iff(d:Dat):dataOK d=true↔DataOk d:=by
 constructor
 ·intro h
  simp only[dataOK,Bool.and_eq_true,decide_eq_true_eq]at h
  obtain⟨⟨⟨⟨⟨⟨⟨⟨h1,h2⟩,h3⟩,h4⟩,h5⟩,h6⟩,h7⟩,h8⟩,h9⟩:=h
  exact⟨h1,h2,h3,h4,h5,h6,inR_t h7,inR_t h8,h9⟩
 ·rintro ⟨h1,h2,h3,h4,h5,h6,h7,h8,h9⟩
  simp[dataOK,inR,h1,h2,h3,h4,h5,h6,h7,h8,h9]
def putF(d:Dat)(t:Nat)(l:List Int):Dat × Int:=if d.st.length-t+l.length>32 then(d,-3)else({d with st:=d.st.take (d.st.length-t)++l},0)
def dealOK(d:Deal):Bool:=inR d.c 0 3&&cell d.a&&cell d.b&&cell d.r
def dealsOK(xs:List Deal):Bool:=xs.all dealOK
structure HostOk(h:Hst):Prop where
 gr:h.gr.length=4
 st:h.st.length=8
 cst:cellsOK h.st=true
 q:h.q.length≤20
 cq:cellsOK h.q=true
 tk:0≤h.tk∧h.tk≤2147483647
 ds:h.ds.length≤40
 cds:dealsOK h.ds=true
section
variable{h:Hst}{d:Dat}{c:Nat}
end
end Go.Abs
