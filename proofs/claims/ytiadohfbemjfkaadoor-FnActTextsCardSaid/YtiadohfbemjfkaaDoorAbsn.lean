/- The abstract layer: contracts of Go's library whose result is a new slice of strings. -/
import Derived.Test.YtiadohfbemjfkaaDoorAbs7
import Derived.Test.YtiadohfbemjfkaaDoorAbsc
import Derived.Shelf.Strings.Split
import Derived.Shelf.Strings.Fields
set_option linter.unusedVariables false
set_option linter.unusedSimpArgs false
noncomputable section
namespace Go.Abs
open Go
theorem own_fresh{w:World}{R:Cells}{ss:List (List UInt8)}{t:TypeId}(hl:ss.length≤maxLn)(hs: ∀s∈ss,s.length≤maxLn):
  AR (w.alloc (.cells (ss.map fun s=>Value.string ⟨s.toArray⟩).toArray t)) R noLoc (.own 0 zS (ss.map strR)) (.slice (some ⟨w.heap.size,0,none⟩) ss.length ss.length) (fun g _=>g=w.heap.size):=by
 have hat:(w.alloc (.cells (ss.map fun s=>Value.string ⟨s.toArray⟩).toArray t)).heap[w.heap.size]? =some (.cells (ss.map fun s=>Value.string ⟨s.toArray⟩).toArray t (0,0)):=by
  show(w.heap.push _)[w.heap.size]? =_
  exact Array.getElem?_push_size
 have e:(ss.map strR).length=ss.length:=List.length_map _
 have h:=AR.own (w:=w.alloc (.cells (ss.map fun s=>Value.string ⟨s.toArray⟩).toArray t)) (R:=R) (loc:=noLoc) (lvl:=0) (z:=zS) (rows:=ss.map strR) (g:=w.heap.size) (o:=0) (cap:=ss.length) (O:=fun g _=>g=w.heap.size)
  (fun i _=>.string ⟨(ss.getD i []).toArray⟩) (fun _ _=>none2) (by omega)
  ⟨_,t,(0,0),hat,by simp,fun i _ h=>by simp at h,Nat.le_refl _⟩
  ⟨fun row hr=>by obtain⟨s,_,rfl⟩:=List.mem_map.1 hr;rfl,fun row hr x hx=>by
   obtain⟨s,_,rfl⟩:=List.mem_map.1 hr
   simp only[strR,List.mem_singleton]at hx
   subst hx
   rfl⟩
  (fun i j hi hj=>by
   rw[e]at hi
   have hj0:j=0:=by simp at hj;omega
   subst hj0
   simp only[World.cell?,hat]
   simp[hi])
  (fun i j row x h1 h2=>by
   rw[List.getElem?_map]at h1
   obtain⟨s,hs1,rfl⟩:=Option.map_eq_some_iff.1 h1
   match j,h2 with
   |0,h2=>
    simp only[strR,List.getElem?_cons_zero,Option.some.injEq]at h2
    subst h2
    refine .sc ⟨?_,hs s (List.mem_of_getElem? hs1)⟩ emp_none2
    rw[List.getD_eq_getElem?_getD,hs1];rfl)
  (fun g' o'=>⟨fun h=>.inl h,fun h=>h.elim id fun⟨_,_,_,_,k⟩=>k.elim⟩)
  (fun _ _ _ _ _ h=>h) (fun _ _ _ _ _ _ _ _ _=>fun _ _ h=>h.elim)
  (fun _ row hr x hx=>by
   obtain⟨s,_,rfl⟩:=List.mem_map.1 hr
   simp only[strR,List.mem_singleton]at hx
   subst hx
   rfl)
  (fun _ row hr x hx=>by
   obtain⟨s,_,rfl⟩:=List.mem_map.1 hr
   simp only[strR,List.mem_singleton]at hx
   subst hx
   rfl) (by omega)
 rw[e]at h
 exact h
theorem Con.fresh{P:Program}{f:FuncId}{xs:List AV}(ss:List (List UInt8))(ok:FnOk P f)(hl:ss.length≤maxLn)(hsl: ∀s∈ss,s.length≤maxLn)
  (h: ∀(w:World)(vals:List Value),Parts w (fun _ _=>False) noLoc xs vals none2→Tabs P w none2→Calls P f vals.toArray w fun e w'=>e=.returned (.slice (some ⟨w.heap.size,0,none⟩) ss.length ss.length)∧ ∃t,w'=w.alloc (.cells (ss.map fun s=>Value.string ⟨s.toArray⟩).toArray t))
  (hs: ∀(w:World)(R O:Cells)(vals:List Value),Parts w R noLoc xs vals O→Parts w (fun _ _=>False) noLoc xs vals none2∧Emp O):Con P f xs (undefs xs) (ownS ss):=by
 refine⟨ok,fun w R O vals hp hR hO tb=> ?_⟩
 obtain⟨hp0,hemp⟩:=hs w R O vals hp
 refine(h w vals hp0 tb.nil).mono fun e w' hb=> ?_
 obtain⟨rfl,t,rfl⟩:=hb
 refine⟨fun g _=>g=w.heap.size,Frame.push w _ O,fun g o k=> ?_,(fun g _=>g=w.heap.size),none2,fun g o=> ?_,fun _ _ _ h=>h,own_fresh hl hsl,?_⟩
 ·subst k
  exact⟨.inr (Nat.le_refl _),by show w.heap.size<(w.heap.push _).size;rw[Array.size_push];omega⟩
 ·simp[none2]
 ·have hl:=(uni_of_parts _ _ _ hp).1
  have: ∀(l:List AV)(vs:List Value)(w':World)(R':Cells),vs.length=l.length→Parts w' R' noLoc (undefs l) vs none2:=by
   intro l
   induction l with
   |nil=>intro vs w' R' hl;match vs,hl with|[],_=>exact emp_none2
   |cons x l ih=>
    intro vs w' R' hl
    match vs,hl with
    |v::vs,hl=>exact⟨none2,none2,fun g o=>by simp[none2],emp_none2.disj,.sc trivial emp_none2,ih vs w' R' (by simpa using hl)⟩
  exact this xs vals _ _ hl
end Go.Abs
