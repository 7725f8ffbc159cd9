/- The abstract layer, 22: from a contract to a given row. -/
import Derived.Test.YtiadohfbemjfkaaDoorAbsJ
import Derived.Below
set_option linter.unusedVariables false
set_option linter.unusedSimpArgs false
noncomputable section
namespace Go.Abs
open Go Go.RowKit
theorem Frame.below{w w':World}(h:Frame w w' none2):Below w.heap.size w w':=⟨h.os,h.tape,h.output,h.size,fun k hk=>h.same k hk fun _ k=>k⟩
theorem Con.law{P:Program}{f:FuncId}{as:List AV}{b:Bool}(h:Con P f as (undefs as) (.bool b))(w:World)(tb:Tabs P w none2)(vals:List Value)(hp:Parts w (fun g _=>g<w.heap.size) noLoc as vals none2):
  Calls P f vals.toArray w (fun e w'=>e=.returned (.bool b)∧Below w.heap.size w w'):=by
 refine(h.calls w _ none2 vals hp (fun g o k=>⟨k,fun k=>k⟩) (fun g o k=>k.elim) tb).mono fun e w' hb=> ?_
 cases e with
 |returned v=>
  obtain⟨O',hF,hO',O1,O2,hOO,hdd,hres,hrest⟩:=hb
  rw[hres.inv_bool]
  exact⟨rfl,hF.below⟩
 |panicked ch=>exact hb.elim
 |outgrown=>exact hb.elim
theorem parts_nil(w:World)(R:Cells)(loc:Locs):Parts w R loc [] [] none2:=emp_none2
theorem parts_cons{w:World}{R:Cells}{loc:Locs}{x:AV}{l:List AV}{v:Value}{vs:List Value}(hx:AR w R loc x v none2)(hp:Parts w R loc l vs none2):Parts w R loc (x::l) (v::vs) none2:=
 ⟨none2,none2,fun g o=>by simp[none2],emp_none2.disj,hx,hp⟩
theorem fits_wf{k:IntKind}{n:Int}(h:(Lit.int k n).wf=true):fitsK k n=true:=by
 cases k<;>simp[Lit.wf,IntKind.min,IntKind.max,IntKind.signed,IntKind.bits,fitsK]at h⊢ <;>omega
theorem ar_int{w:World}{R:Cells}{loc:Locs}{k:IntKind}{n:Int}(h:(Lit.int k n).wf=true):AR w R loc (.int k n) (.int k n) none2:=.sc ⟨rfl,fits_wf h⟩ emp_none2
theorem ar_bool{w:World}{R:Cells}{loc:Locs}(b:Bool):AR w R loc (.bool b) (.bool b) none2:=.sc rfl emp_none2
theorem ar_str{w:World}{R:Cells}{loc:Locs}{s:ByteArray}(h:s.size≤maxLen):AR w R loc (.str s.data.toList) (.string s) none2:=.sc ⟨by simp,by have e:s.data.toList.length=s.size:=rfl;rw[e];exact h⟩ emp_none2
end Go.Abs
