/- The abstract layer, 30: contracts of Go's library, from the kit's shelf. -/
import Derived.Test.YtiadohfbemjfkaaDoorAbs6
import Derived.Shelf.Strconv.Itoa3
set_option linter.unusedVariables false
set_option linter.unusedSimpArgs false
noncomputable section
namespace Go.Abs
open Go Go.Sort
theorem grow_at{w:World}{os:Array Obj}{g:Nat}(h:g<w.heap.size):(grow w os).heap[g]? =w.heap[g]? :=by
 simp[grow,Array.getElem?_append,h]
theorem Frame.grow(w:World)(os:Array Obj)(O:Cells):Frame w (grow w os) O:=by
 refine⟨by simp[Go.Sort.grow],fun g n hb=> ?_,fun g off hg _=> ?_,fun g hg=> ?_,fun g hg _=>grow_at hg,fun g hg _=>grow_at hg,rfl,rfl,rfl⟩
 ·obtain⟨c,e,fz,h,k⟩:=hb
  exact⟨c,e,fz,(grow_at (Array.getElem?_eq_some_iff.1 h).1).trans h,k⟩
 ·simp only[World.cell?,grow_at hg]
 ·simp only[World.shape?,grow_at hg]
theorem Frame.lib(w:World)(k:Nat)(os:Array Obj):Frame w (Go.Sort.grow (w.drewN k) os) none2:=by
 refine(Frame.drew w (w.drawn+k) none2).trans (Frame.grow (w.drewN k) os none2) fun g o h=>h.elim
theorem Tabs.is{P:Program}{w:World}{O:Cells}(h:Tabs P w O){nm:String}{cs:Array Value}(hm:(nm,cs)∈tabL){g:Nat}(hg:P.globalNamed nm=some g):w.var? P nm=some cs:=by
 obtain⟨⟨e,fz,h1⟩,_⟩:=h.1 _ hm g hg
 simp[World.var?,hg,h1]
theorem Tabs.nil{P:Program}{w:World}{O:Cells}(h:Tabs P w O):Tabs P w none2:=
 ⟨fun x hx g hg=>⟨(h.1 x hx g hg).1,fun _ k=>k⟩,fun x hx g hg=>⟨(h.2 x hx g hg).1,fun _ k=>k⟩⟩
theorem Tabs.err{P:Program}{w:World}{O:Cells}(h:Tabs P w O){nm:String}(hm:nm∈errL){g:Nat}(hg:P.globalNamed nm=some g): ∃t p,w.cell? ⟨g,0,none⟩=some (.iface t p):=by
 obtain⟨⟨t,p,e,fz,h1⟩,_⟩:=h.2 _ hm g hg
 exact⟨t,p,by simp[World.cell?,h1]⟩
theorem Con.scal{P:Program}{f:FuncId}{xs:List AV}{res:AV}(ok:FnOk P f)
  (h: ∀(w:World)(vals:List Value),Parts w (fun _ _=>False) noLoc xs vals none2→Tabs P w none2→Calls P f vals.toArray w fun e w'=> ∃v,e=.returned v∧SR res v∧ ∃k os,w'=Go.Sort.grow (w.drewN k) os)
  (hs: ∀(w:World)(R O:Cells)(vals:List Value),Parts w R noLoc xs vals O→Parts w (fun _ _=>False) noLoc xs vals none2∧Emp O):Con P f xs (undefs xs) res:=by
 refine⟨ok,fun w R O vals hp hR hO tb=> ?_⟩
 obtain⟨hp0,hemp⟩:=hs w R O vals hp
 refine(h w vals hp0 tb.nil).mono fun e w' hb=> ?_
 obtain⟨v,rfl,hv,k,os,rfl⟩:=hb
 refine⟨none2,(Frame.lib w k os).weak fun _ _ k=>k.elim,fun _ _ k=>k.elim,none2,none2,fun g o=>by simp[none2],emp_none2.disj,.sc hv emp_none2,?_⟩
 have hl:=(uni_of_parts _ _ _ hp).1
 have: ∀(l:List AV)(vs:List Value),vs.length=l.length→Parts (Go.Sort.grow (w.drewN k) os) (RS ⟨w,R,O,noLoc⟩ (Go.Sort.grow (w.drewN k) os) none2) noLoc (undefs l) vs none2:=by
  intro l
  induction l with
  |nil=>intro vs hl;match vs,hl with|[],_=>exact emp_none2
  |cons x l ih=>
   intro vs hl
   match vs,hl with
   |v::vs,hl=>exact⟨none2,none2,fun g o=>by simp[none2],emp_none2.disj,.sc trivial emp_none2,ih vs (by simpa using hl)⟩
 exact this xs vals hl
end Go.Abs
