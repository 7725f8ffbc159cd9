/- Contracts from calls that leave all as it was below the heap's end. -/
import Derived.Test.YtiadohfbemjfkaaDoorAbs7
import Derived.Test.YtiadohfbemjfkaaDoorAbsK
import Derived.Below
set_option linter.unusedVariables false
set_option linter.unusedSimpArgs false
noncomputable section
namespace Go.Abs
open Go Go.RowKit
theorem Frame.of_below{w w':World}(h:Below w.heap.size w w'):Frame w w' none2:=by
 refine⟨h.size,fun g n hb=> ?_,fun g o hg _=> ?_,fun g hg=> ?_,fun g hg _=>h.block g hg,fun g hg _=>h.block g hg,h.os,h.tape,h.output⟩
 ·have hlt:=hb.lt
  obtain⟨c,e,fz,h1,r⟩:=hb
  exact⟨c,e,fz,(h.block g hlt).trans h1,r⟩
 ·simp only[World.cell?,h.block g hg]
 ·simp only[World.shape?,h.block g hg]
theorem flat_ar{w w':World}{R R' O:Cells}{loc loc':Locs}{x:AV}{v:Value}(hx:x.flat=true)(h:AR w R loc x v O):AR w' R' loc' x v none2∧Emp O:=by
 cases h with
 |sc h e=>exact⟨.sc h emp_none2,e⟩
 |_=>simp[AV.flat]at hx
theorem parts_flat{w:World}{R R':Cells}: ∀(l:List AV)(vals:List Value)(O:Cells),l.all AV.flat=true→Parts w R noLoc l vals O→Parts w R' noLoc l vals none2∧Emp O
 |[],[],O,_,h=>⟨emp_none2,h⟩
 |[],_::_,_,_,h=>h.elim
 |_::_,[],_,_,h=>h.elim
 |x::l,v::vs,O,hf,h=>by
  simp only[List.all_cons,Bool.and_eq_true]at hf
  obtain⟨O1,O2,hO,hd,hx,hp⟩:=h
  obtain⟨h1,e1⟩:=flat_ar (w':=w) (R':=R') (loc':=noLoc) hf.1 hx
  obtain⟨h2,e2⟩:=parts_flat l vs O2 hf.2 hp
  exact⟨⟨none2,none2,fun g o=>by simp[none2],emp_none2.disj,h1,h2⟩,fun g o k=>((hO g o).1 k).elim (e1 g o) (e2 g o)⟩
end Go.Abs
