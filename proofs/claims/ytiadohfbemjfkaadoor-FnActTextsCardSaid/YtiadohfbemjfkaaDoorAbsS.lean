/- The abstract layer, 3: how the relation goes from state to state. -/
import Derived.Test.YtiadohfbemjfkaaDoorAbsR
set_option linter.unusedVariables false
set_option linter.unusedSimpArgs false
noncomputable section
namespace Go.Abs
open Go
def BF1(E:Env)(w:World)(ow:Cells)(loc:Locs)(b:Nat)(x:MB)(O:Cells):Prop:=match x with
 | .abs=>loc b=none∧Emp O
 | .dead=>(loc b).isSome∧Emp O
 | .live blk=>BR w (RS E w ow) loc b blk O
theorem RelC.at{E:Env}{st:St}{a:Act}{w:World}{X:Cells}{loc:Locs}{ob:Nat→Cells}(h:RelC E st a w X loc ob)(b:Nat):
  BF1 E w (Owned ob X) loc b (st.m b) (ob b):=by
 unfold BF1
 split
 ·rename_i hm;exact h.ab b hm
 ·rename_i hm;exact h.dd b hm
 ·rename_i blk hm;exact h.lv b blk hm
theorem RS.sub{E:Env}{w w':World}{ow ow':Cells}(hs:w.heap.size≤w'.heap.size)(hD: ∀g o,ow' g o→ow g o∨w.heap.size≤g)(g o:Nat)(h:RS E w ow g o):RS E w' ow' g o:=by
 obtain⟨h1,h2,h3⟩:=h
 refine⟨h1,Nat.lt_of_lt_of_le h2 hs,fun k=> ?_⟩
 rcases hD g o k with k|k
 ·exact h3 k
 ·omega
theorem RelC.go{E:Env}{st st':St}{a:Act}{w w':World}{X X':Cells}{loc loc':Locs}{ob ob':Nat→Cells}(h:RelC E st a w X loc ob)(Wt:Cells)
  (hn:st'.n=st.n)(ht:st'.t=st.t)(hF:Frame w w' Wt)
  (hD: ∀g o,Owned ob' X' g o→(Owned ob X g o∨w.heap.size≤g)∧g<w'.heap.size)
  (hW: ∀g o,Wt g o→Owned ob X g o)
  (hloc: ∀b l,loc b=some l→loc' b=some l)
  (hb: ∀b,(st'.m b=st.m b∧ob' b=ob b∧loc' b=loc b∧Disj Wt (ob b))∨BF1 E w' (Owned ob' X') loc' b (st'.m b) (ob' b))
  (hdb: ∀b b',b≠b'→Disj (ob' b) (ob' b'))(hdx: ∀b,Disj (ob' b) X')(han:st'.an=st.an:=by rfl):RelC E st' a w' X' loc' ob':=by
 have hK:Keeps w w' (fun g o=>g<w.heap.size∧ ¬Wt g o):=hF.keeps fun g o k=>k
 have hR: ∀g o,RS E w (Owned ob X) g o→(g<w.heap.size∧ ¬Wt g o)∧RS E w' (Owned ob' X') g o:=fun g o k=>
  ⟨⟨k.2.1,fun hw=>k.2.2 (hW g o hw)⟩,RS.sub hF.size (fun g o k=>(hD g o k).1) g o k⟩
 have key: ∀b,BF1 E w' (Owned ob' X') loc' b (st'.m b) (ob' b):=by
  intro b
  rcases hb b with⟨h1,h2,h3,h4⟩|hb
  ·have hat:=h.at b
   rw[h1,h2]
   cases hm:st.m b with
   |abs=>rw[hm]at hat;exact⟨h3.trans hat.1,hat.2⟩
   |dead=>rw[hm]at hat;exact⟨by rw[h3];exact hat.1,hat.2⟩
   |live blk=>
    rw[hm]at hat
    exact BR.keep hat hK hR (fun g o k=>⟨h.lt g o (.inl ⟨b,k⟩),fun hw=>h4 g o hw k⟩) hloc
  ·exact hb
 refine⟨fun k=> ?_,hn.trans h.sz,h.df,fun b hm=> ?_,fun b hm=> ?_,fun b blk hm=> ?_,hdb,hdx,fun g o k=>(hD g o k).2,fun g o k=> ?_,?_,fun b hb=> ?_⟩
 ·rw[ht]
  exact(h.tm k).keep hK hR (fun _ _ k=>k.elim) hloc
 ·have:=key b;rw[hm]at this;exact this
 ·have:=key b;rw[hm]at this;exact this
 ·have:=key b;rw[hm]at this;exact this
 ·rcases(hD g o k).1 with k|k
  ·exact h.sub g o k
  ·exact .inr (Nat.le_trans h.fr.size k)
 ·exact h.fr.trans hF fun g o k=>h.sub g o (hW g o k)
 ·rw[han]at hb
  obtain⟨h1,h2⟩:=h.an b hb
  obtain⟨l,hl⟩:=Option.isSome_iff_exists.1 h2
  have:=hloc b l hl
  rw[this]
  exact⟨by rw[←h1,hl],rfl⟩
theorem RelC.put{E:Env}{st:St}{a:Act}{w:World}{X:Cells}{loc:Locs}{ob:Nat→Cells}(h:RelC E st a w X loc ob)(d:Option Nat)(x:AV)(v:Value)
  (hd:st.dstOk d=true)(hx:d≠none→AR w (RS E w (Owned ob X)) loc x v none2):RelC E (st.put d x) (a.put d v) w X loc ob:=by
 cases d with
 |none=>exact h
 |some d=>
  have hlt:d<a.tmps.size:=by have:=of_decide_eq_true hd;rw[h.sz]at this;exact this
  refine⟨fun k=> ?_,?_,h.df,h.ab,h.dd,h.lv,h.db,h.dx,h.lt,h.sub,h.fr,h.an⟩
  ·simp only[St.put,upd,Act.put]
   by_cases hk:k=d
   ·subst hk
    simp only[if_true]
    have:(a.tmps.setIfInBounds k v).getD k undef=v:=by simp[hlt]
    rw[this]
    exact hx (by simp)
   ·simp only[hk,if_false]
    have:(a.tmps.setIfInBounds d v).getD k undef=a.tmps.getD k undef:=by
     simp[Array.getElem?_setIfInBounds_ne (Ne.symm hk)]
    rw[this]
    exact h.tm k
  ·simp[St.put,Act.put,h.sz]
theorem Frame.drew(w:World)(n:Nat)(O:Cells):Frame w {w with drawn:=n} O:=
 ⟨Nat.le_refl _,fun _ _ h=>h,fun _ _ _ _=>rfl,fun _ _=>rfl,fun _ _ _=>rfl,fun _ _ _=>rfl,rfl,rfl,rfl⟩
def World.push(w:World)(o:Obj):World:={w with heap:=w.heap.push o}
theorem push_at{w:World}{o:Obj}{g:Nat}(h:g<w.heap.size):(World.push w o).heap[g]? =w.heap[g]? :=by
 simp[World.push,Array.getElem?_push,Nat.ne_of_lt h]
theorem push_new{w:World}{o:Obj}:(World.push w o).heap[w.heap.size]? =some o:=by simp[World.push]
theorem Frame.push(w:World)(o:Obj)(O:Cells):Frame w (World.push w o) O:=by
 refine⟨by simp[World.push],fun g n hb=> ?_,fun g off hg _=> ?_,fun g hg=> ?_,fun g hg _=>push_at hg,fun g hg _=>push_at hg,rfl,rfl,rfl⟩
 ·obtain⟨c,e,fz,h,k⟩:=hb
  exact⟨c,e,fz,(push_at (Array.getElem?_eq_some_iff.1 h).1).trans h,k⟩
 ·simp only[World.cell?,push_at hg]
 ·simp only[World.shape?,push_at hg]
theorem Frame.set(w:World)(g o:Nat)(v:Value)(O:Cells)(hO:O g o):Frame w (w.setCell ⟨g,o,none⟩ v) O:=by
 have hat: ∀g',(w.setCell ⟨g,o,none⟩ v).heap[g']? =if g'=g then(w.heap[g']?).map (fun| .cells c e f=>.cells (c.setIfInBounds o v) e f|x=>x)else w.heap[g']? :=by
  intro g'
  simp only[World.setCell,Array.getElem?_modify]
  by_cases h:g=g'
  ·subst h;simp only[if_true];cases w.heap[g]? with
   |none=>rfl
   |some x=>cases x<;>rfl
  ·simp[h,Ne.symm h]
 refine⟨by simp[World.setCell],fun g' n hb=> ?_,fun g' o' hg hno=> ?_,fun g' hg=> ?_,fun g' hg hn=> ?_,fun g' hg hno=> ?_,rfl,rfl,rfl⟩
 ·obtain⟨c,e,fz,h,h1,h2⟩:=hb
  by_cases hgg:g'=g
  ·refine⟨c.setIfInBounds o v,e,fz,by rw[hat,if_pos hgg,h];rfl,by simpa using h1,by simpa using h2.1,h2.2⟩
  ·exact⟨c,e,fz,by rw[hat,if_neg hgg,h],h1,h2⟩
 ·simp only[World.cell?]
  rw[hat]
  by_cases hgg:g'=g
  ·subst hgg
   simp only[if_true]
   cases hh:w.heap[g']? with
   |none=>rfl
   |some x=>
    cases x<;>simp
    have:o≠o':=fun e=>hno (e▸hO)
    simp[Array.getElem?_setIfInBounds_ne this]
  ·simp[hgg]
 ·simp only[World.shape?]
  rw[hat]
  by_cases hgg:g'=g
  ·subst hgg
   simp only[if_true]
   cases hh:w.heap[g']? with
   |none=>rfl
   |some x=>cases x<;>simp
  ·simp[hgg]
 ·rw[hat]
  by_cases hgg:g'=g
  ·subst hgg
   simp only[if_true]
   simp only[World.shape?]at hn
   cases hh:w.heap[g']? with
   |none=>rfl
   |some x=>cases x<;>simp_all
  ·simp[hgg]
 ·rw[hat]
  by_cases hgg:g'=g
  ·subst hgg
   exact(hno o hO).elim
  ·simp[hgg]
theorem freeze_at{w:World}{g n g':Nat}:(w.freeze ⟨g,n,none⟩ 1).heap[g']? =if g'=g then(w.heap[g']?).map (fun| .cells c e (lo,hi)=>.cells c e (if lo==hi then(n,n+1)else(min lo n,max hi (n+1)))|x=>x)else w.heap[g']? :=by
 simp only[World.freeze,if_neg (show ¬(1:Nat)=0 by decide),Array.getElem?_modify]
 by_cases h:g=g'
 ·subst h;simp only[if_true];cases w.heap[g]? with
  |none=>rfl
  |some x=>cases x<;>rfl
 ·simp[h,Ne.symm h]
theorem freeze_cell{w:World}{g n:Nat}(g' o:Nat):(w.freeze ⟨g,n,none⟩ 1).cell? ⟨g',o,none⟩=w.cell? ⟨g',o,none⟩:=by
 simp only[World.cell?]
 rw[freeze_at]
 by_cases hgg:g'=g
 ·subst hgg
  simp only[if_true]
  cases hh:w.heap[g']? with
  |none=>rfl
  |some x=>cases x<;>rfl
 ·simp[hgg]
theorem Frame.freeze(w:World){g n:Nat}(O:Cells)(hO: ∃o,O g o){c:Array Value}{e:TypeId}{fz:Nat × Nat}(hc:w.heap[g]? =some (.cells c e fz))(hn:n=c.size)(h1: ∀i,i<c.size→ ¬(fz.1≤i∧i<fz.2))(h2:fz.1≤fz.2):
  Frame w (w.freeze ⟨g,n,none⟩ 1) O:=by
 refine⟨by simp[World.freeze],fun g' m hb=> ?_,fun g' o' hg hno=>freeze_cell g' o',fun g' hg=> ?_,fun g' hg hs=> ?_,fun g' hg hno=> ?_,rfl,rfl,rfl⟩
 ·obtain⟨c',e',fz',h3,h4,h5,h6⟩:=hb
  by_cases hgg:g'=g
  ·subst hgg
   rw[hc]at h3
   injection h3 with h3
   injection h3 with h7 h8 h9
   subst h7;subst h8;subst h9
   refine⟨c,e,if fz.1==fz.2 then(n,n+1)else(min fz.1 n,max fz.2 (n+1)),by rw[freeze_at,if_pos rfl,hc];rfl,h4,?_⟩
   split
   ·exact⟨fun i hi=>by simp only;omega,by simp⟩
   ·rename_i hne
    simp only[beq_iff_eq]at hne
    have:=h1 fz.1
    exact⟨fun i hi=>by simp only;omega,by simp only;omega⟩
  ·exact⟨c',e',fz',by rw[freeze_at,if_neg hgg,h3],h4,h5,h6⟩
 ·simp only[World.shape?]
  rw[freeze_at]
  by_cases hgg:g'=g
  ·subst hgg
   simp only[if_true]
   cases hh:w.heap[g']? with
   |none=>rfl
   |some x=>cases x<;>rfl
  ·simp[hgg]
 ·rw[freeze_at]
  by_cases hgg:g'=g
  ·subst hgg
   simp only[World.shape?,hc]at hs
   cases hs
  ·simp[hgg]
 ·rw[freeze_at]
  by_cases hgg:g'=g
  ·subst hgg
   obtain⟨o,ho⟩:=hO
   exact(hno o ho).elim
  ·simp[hgg]
theorem BF.cell{w:World}{g n o:Nat}(h:BF w g n)(ho:o<n): ∃v,w.cell? ⟨g,o,none⟩=some v:=by
 obtain⟨c,e,fz,h,h1,h2⟩:=h
 simp only[World.cell?,h]
 exact⟨c[o],by simp[Nat.lt_of_lt_of_le ho h1]⟩
theorem BF.unfrozen{w:World}{g n o:Nat}(h:BF w g n)(ho:o<n):w.frozen? ⟨g,o,none⟩=false:=by
 obtain⟨c,e,fz,h,h1,h2,_⟩:=h
 simp only[World.frozen?,h]
 have:=h2 o (by omega)
 obtain⟨lo,hi⟩:=fz
 simp at this⊢
 omega
end Go.Abs
