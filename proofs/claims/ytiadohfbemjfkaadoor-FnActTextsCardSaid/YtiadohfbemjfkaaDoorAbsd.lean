/- What the program computes, in plain Lean: cells, data, the host. -/
import Derived.Test.YtiadohfbemjfkaaDoorAbsc
set_option linter.unusedVariables false
set_option linter.unusedSimpArgs false
noncomputable section
namespace Go.Abs
open Go
def inR(n lo hi:Int):Bool:=decide (lo≤n)&&decide (n≤hi)
def cell(n:Int):Bool:=inR n (-2147483648) 2147483647
theorem wrap_cell{n:Int}(h1: -9223372036854775808≤n)(h2:n≤9223372036854775807):(IntKind.i64.wrap (IntKind.i32.wrap n)==n)=cell n:=by
 have h3: -2147483648≤IntKind.i32.wrap n∧IntKind.i32.wrap n≤2147483647:=by
  simp[IntKind.wrap,IntKind.signed,IntKind.bits]
  omega
 rw[wrap64 (by omega) (by omega)]
 by_cases h: -2147483648≤n∧n≤2147483647
 ·rw[wrap32 h.1 h.2]
  simp[cell,inR,h.1,h.2]
 ·have:IntKind.i32.wrap n≠n:=fun e=>by rw[e]at h3;exact h h3
  have h5:cell n=false:=by simp[cell,inR];omega
  rw[h5]
  simpa using this
def cellsOK(xs:List Int):Bool:=xs.all cell
structure DataOk(d:Dat):Prop where
 st:d.st.length≤32
 bk:d.bk.length≤32
 ce:d.ce.length=32
 cst:cellsOK d.st=true
 cbk:cellsOK d.bk=true
 cce:cellsOK d.ce=true
 he:0≤d.he∧d.he≤32
 ba:2≤d.ba∧d.ba≤16
 ou:d.ou.length≤300
def dealOK(d:Deal):Bool:=inR d.c 0 3&&cell d.a&&cell d.b&&cell d.r
def dealsOK(xs:List Deal):Bool:=xs.all dealOK
structure HostOk(h:Hst):Prop where
 gr:h.gr.length=4
 st:h.st.length=8
 cst:cellsOK h.st=true
 q:h.q.length≤20
 cq:cellsOK h.q=true
 tk:0≤h.tk∧h.tk≤2147483647
 ds:h.ds.length≤40
 cds:dealsOK h.ds=true
section
variable{h:Hst}{d:Dat}{c:Nat}
end
end Go.Abs
