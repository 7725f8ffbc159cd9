/- The abstract layer, 16: what goes into a call and what comes out of it. -/
import Derived.Test.YtiadohfbemjfkaaDoorAbsD
set_option linter.unusedVariables false
set_option linter.unusedSimpArgs false
noncomputable section
namespace Go.Abs
open Go
def AV.nr0:AV→Bool
 | .undef=>true
 | .int _ _=>true
 | .bool _=>true
 | .str _=>true
 | .nilp=>true
 | .nilfn=>true
 | .nili=>true
 | .ifc=>true
 | .emp=>true
 | .own lvl _ _=>lvl==0
 | .fn _ caps=>caps.isEmpty
 |_=>false
def AV.nr1:AV→Bool
 | .agg cs=>cs.all AV.nr0
 |v=>v.nr0
def AV.nr:AV→Bool
 | .tup vs=>vs.all AV.nr1
 |v=>v.nr1
def impLeaf(b:Nat):AV→AV × List (Nat × MB)
 | .own lvl z rows=>(.ref b 0 rows.length,[(b,.live ⟨true,lvl,z,rows⟩)])
 |v=>(v,[])
def impLeafOk:AV→Bool
 | .own _ _ _=>true
 |v=>v.light
def impLeaves(b:Nat):List AV→List AV × List (Nat × MB)
 |[]=>([],[])
 |x::l=>((impLeaf b x).1::(impLeaves (b+1) l).1,(impLeaf b x).2++(impLeaves (b+1) l).2)
def impVal(b:Nat):AV→AV × List (Nat × MB)
 | .agg cs=>(.agg (impLeaves b cs).1,(impLeaves b cs).2)
 |v=>impLeaf b v
def impValOk:AV→Bool
 | .agg cs=>cs.all impLeafOk
 |v=>impLeafOk v
def impVals(b:Nat):List AV→List AV × List (Nat × MB)
 |[]=>([],[])
 |x::l=>((impVal b x).1::(impVals (b+x.leaves.length) l).1,(impVal b x).2++(impVals (b+x.leaves.length) l).2)
def impRes(b:Nat):AV→AV × List (Nat × MB)
 | .tup vs=>(.tup (impVals b vs).1,(impVals b vs).2)
 | .obj cs=>(.ptr b 0 0,(impLeaves (b+1) cs).2++[(b,.live ⟨false,0,List.replicate cs.length .undef,[(impLeaves (b+1) cs).1]⟩)])
 |v=>impVal b v
def impResOk:AV→Bool
 | .tup vs=>vs.all impValOk
 | .obj cs=>cs.all impLeafOk
 |v=>impValOk v
section
variable{P:Program}{T:TT}{E:Env}{o:Oper}{st:St}{a:Act}{w:World}{X:Cells}{loc:Locs}{ob:Nat→Cells}{r:Res}
def Parts(w:World)(R:Cells)(loc:Locs):List AV→List Value→Cells→Prop
 |[],[],O=>Emp O
 |x::l,v::vs,O=> ∃O1 O2,(∀g o,O g o↔O1 g o∨O2 g o)∧Disj O1 O2∧AR w R loc x v O1∧Parts w R loc l vs O2
 |_,_,_=>False
theorem parts_of_uni{R:Cells}: ∀(l:List AV)(vs:List Value)(os:Nat→Cells)(O:Cells),vs.length=l.length→
  (∀(k:Nat) x v,l[k]? =some x→vs[k]? =some v→AR w R loc x v (os k))→Uni l.length os O→Parts w R loc l vs O
 |[],[],os,O,_,_,hu=>fun g o k=>by
  obtain⟨j,hj,_⟩:=(hu.iff g o).1 k
  simp at hj
 |[],_::_,_,_,h,_,_=>by simp at h
 |_::_,[],_,_,h,_,_=>by simp at h
 |x::l,v::vs,os,O,hl,hx,hu=>by
  let O2:Cells:=fun g o=> ∃j,j<l.length∧os (j+1) g o
  refine⟨os 0,O2,fun g o=> ?_,fun g o k1 k2=> ?_,hx 0 x v (by simp) (by simp),parts_of_uni l vs (fun k=>os (k+1)) O2 (by simpa using hl) (fun k y u h1 h2=>hx (k+1) y u (by simpa using h1) (by simpa using h2)) ⟨fun g o=>Iff.rfl,fun j k hj hk hne=>hu.dis (j+1) (k+1) (by simpa using hj) (by simpa using hk) (by omega)⟩⟩
  ·rw[hu.iff]
   constructor
   ·rintro ⟨j,hj,k⟩
    cases j with
    |zero=>exact .inl k
    |succ j=>exact .inr ⟨j,by simpa using hj,k⟩
   ·rintro (k|⟨j,hj,k⟩)
    ·exact⟨0,by simp,k⟩
    ·exact⟨j+1,by simpa using hj,k⟩
  ·obtain⟨j,hj,k2⟩:=k2
   exact hu.dis 0 (j+1) (by simp) (by simpa using hj) (by omega) g o k1 k2
theorem uni_of_parts{R:Cells}: ∀(l:List AV)(vs:List Value)(O:Cells),Parts w R loc l vs O→
  vs.length=l.length∧ ∃os:Nat→Cells,(∀(k:Nat) x v,l[k]? =some x→vs[k]? =some v→AR w R loc x v (os k))∧Uni l.length os O
 |[],[],O,h=>⟨rfl,fun _=>none2,fun k x v h1=>by simp at h1,fun g o=>⟨fun k=>(h g o k).elim,fun⟨j,hj,_⟩=>by simp at hj⟩,fun j k hj=>by simp at hj⟩
 |[],_::_,_,h=>h.elim
 |_::_,[],_,h=>h.elim
 |x::l,v::vs,O,h=>by
  obtain⟨O1,O2,hO,hd,hx,hp⟩:=h
  obtain⟨hl,os,h1,h2⟩:=uni_of_parts l vs O2 hp
  refine⟨by simp[hl],fun k=>match k with|0=>O1|k+1=>os k,fun k y u h3 h4=> ?_,fun g o=> ?_,fun j k hj hk hne=> ?_⟩
  ·cases k with
   |zero=>
    simp only[List.getElem?_cons_zero,Option.some.injEq]at h3 h4
    subst h3;subst h4
    exact hx
   |succ k=>exact h1 k y u (by simpa using h3) (by simpa using h4)
  ·rw[hO,h2.iff]
   constructor
   ·rintro (k|⟨j,hj,k⟩)
    ·exact⟨0,by simp,k⟩
    ·exact⟨j+1,by simpa using hj,k⟩
   ·rintro ⟨j,hj,k⟩
    cases j with
    |zero=>exact .inl k
    |succ j=>exact .inr ⟨j,by simpa using hj,k⟩
  ·cases j with
   |zero=>
    cases k with
    |zero=>exact absurd rfl hne
    |succ k=>intro g o k1 k2;exact hd g o k1 ((h2.iff g o).2 ⟨k,by simpa using hk,k2⟩)
   |succ j=>
    cases k with
    |zero=>intro g o k1 k2;exact hd g o k2 ((h2.iff g o).2 ⟨j,by simpa using hj,k1⟩)
    |succ k=>exact h2.dis j k (by simpa using hj) (by simpa using hk) (by omega)
theorem Parts.mono{R R':Cells}{loc loc':Locs}(hR: ∀g o,R g o→R' g o)(hl: ∀b l,loc b=some l→loc' b=some l): ∀(l:List AV)(vs:List Value)(O:Cells),Parts w R loc l vs O→Parts w R' loc' l vs O
 |[],[],_,h=>h
 |[],_::_,_,h=>h.elim
 |_::_,[],_,h=>h.elim
 |x::l,v::vs,O,⟨O1,O2,h1,h2,h3,h4⟩=>⟨O1,O2,h1,h2,h3.weak hR hl,Parts.mono hR hl l vs O2 h4⟩
theorem AR.flat_any{R R':Cells}{loc loc':Locs}{x:AV}{v:Value}{O:Cells}(h:AR w R loc x v O)(hx:x.flat=true):AR w R' loc' x v O:=by
 cases h with
 |sc h e=>exact .sc h e
 |_=>simp[AV.flat]at hx
theorem AR.nr0_any{R R':Cells}{loc:Locs}{x:AV}{v:Value}{O:Cells}(h:AR w R loc x v O)(hx:x.nr0=true):AR w R' loc x v O:=by
 cases h with
 |sc h e=>exact .sc h e
 |own0 e=>exact .own0 e
 | @own _ lvl z rows g o cap O vs os hcap hb hw hc hxx hO hd hdd h0 h1 hm=>
  have:lvl=0:=by simpa[AV.nr0]using hx
  exact .own vs os hcap hb hw hc (fun i j row x h2 h3=>(hxx i j row x h2 h3).flat_any (h0 this row (List.mem_of_getElem? h2) x (List.mem_of_getElem? h3))) hO hd hdd h0 h1 hm
 | @fn _ f caps vs O os hn hxx hu=>
  have:caps=[]:=by simpa[AV.nr0]using hx
  subst this
  exact .fn os hn (fun k x v h1=>by simp at h1) hu
 |_=>simp[AV.nr0]at hx
theorem AR.nr1_any{R R':Cells}{loc:Locs}{x:AV}{v:Value}{O:Cells}(h:AR w R loc x v O)(hx:x.nr1=true):AR w R' loc x v O:=by
 cases x with
 |agg cs=>
  cases h with
  |sc h e=>exact h.elim
  |agg os hn hxx hu=>
   simp only[AV.nr1,List.all_eq_true]at hx
   exact .agg os hn (fun k x v h1 h2=>(hxx k x v h1 h2).nr0_any (hx x (List.mem_of_getElem? h1))) hu
 |_=>exact h.nr0_any hx
theorem AR.nr_any{R R':Cells}{loc:Locs}{x:AV}{v:Value}{O:Cells}(h:AR w R loc x v O)(hx:x.nr=true):AR w R' loc x v O:=by
 cases x with
 |tup cs=>
  cases h with
  |sc h e=>exact h.elim
  |tup os hn hxx hu=>
   simp only[AV.nr,List.all_eq_true]at hx
   exact .tup os hn (fun k x v h1 h2=>(hxx k x v h1 h2).nr1_any (hx x (List.mem_of_getElem? h1))) hu
 |_=>exact h.nr1_any hx
structure Landed(E:Env)(st:St)(a:Act)(w:World)(X:Cells)(loc:Locs)(ob:Nat→Cells)(st':St)(Y:Cells)(loc':Locs)(ob':Nat→Cells):Prop where
 rel:RelC E st' a w Y loc' ob'
 own:Owned ob' Y=Owned ob X
 ext: ∀b l,loc b=some l→loc' b=some l
theorem Landed.refl(h:RelC E st a w X loc ob){Y:Cells}(hY: ∀g o,X g o↔Y g o):Landed E st a w X loc ob st Y loc ob:=by
 have:X=Y:=by funext g o;exact propext (hY g o)
 subst this
 exact⟨h,rfl,fun _ _ k=>k⟩
theorem imp_leaf(h:RelC E st a w X loc ob){x:AV}{v:Value}{O Y:Cells}(hX: ∀g o,X g o↔O g o∨Y g o)(hd:Disj O Y)(hx:AR w (RS E w (Owned ob X)) noLoc x v O)(hok:impLeafOk x=true){b:Nat}
  (hb: ∀p∈(impLeaf b x).2,st.m p.1=.abs):
  ∃loc' ob',Landed E st a w X loc ob (st.mws (impLeaf b x).2) Y loc' ob'∧AR w (RS E w (Owned ob' Y)) loc' (impLeaf b x).1 v none2:=by
 have rest:x.light=true→impLeaf b x=(x,[])→ ∃loc' ob',Landed E st a w X loc ob (st.mws (impLeaf b x).2) Y loc' ob'∧AR w (RS E w (Owned ob' Y)) loc' (impLeaf b x).1 v none2:=by
  intro hl he
  have hemp:Emp O:=hx.light_emp hl
  rw[he]
  have hL:=Landed.refl h (Y:=Y) fun g o=>by rw[hX];exact⟨fun k=>k.resolve_left (hemp g o),.inr⟩
  refine⟨loc,ob,hL,?_⟩
  rw[hL.own]
  exact(hx.emp_weak hemp emp_none2).weak (fun _ _ k=>k) (fun _ _ k=>by cases k)
 cases x with
 |own lvl z rows=>
  have hbb:=hb (b,.live ⟨true,lvl,z,rows⟩) (by simp[impLeaf])
  simp only at hbb
  have hab:=h.ab b hbb
  have go: ∀(l:Loc),(∀ow:Cells,(∀g o,Owned ob X g o↔ow g o)→BR w (RS E w ow) (upd loc b (some l)) b ⟨true,lvl,z,rows⟩ O)→
    Landed E st a w X loc ob (st.mws [(b,.live ⟨true,lvl,z,rows⟩)]) Y (upd loc b (some l)) (upd ob b O):=by
   intro l hbr
   have hob:Owned (upd ob b O) Y=Owned ob X:=by
    funext g o
    apply propext
    constructor
    ·rintro (⟨b',k⟩|k)
     ·by_cases hbb':b'=b
      ·subst hbb'
       simp only[upd,if_true]at k
       exact .inr ((hX g o).2 (.inl k))
      ·simp only[upd,hbb',if_false]at k
       exact .inl ⟨b',k⟩
     ·exact .inr ((hX g o).2 (.inr k))
    ·rintro (⟨b',k⟩|k)
     ·by_cases hbb':b'=b
      ·subst hbb'
       exact(hab.2 g o k).elim
      ·exact .inl ⟨b',by simpa only[upd,hbb',if_false]using k⟩
     ·rcases(hX g o).1 k with k|k
      ·exact .inl ⟨b,by simpa only[upd,if_true]using k⟩
      ·exact .inr k
   have hloc: ∀b' l',loc b'=some l'→upd loc b (some l) b'=some l':=fun b' l' hl=>by
    have hne:b'≠b:=fun e=>by rw[e,hab.1]at hl;cases hl
    simp[upd,hne,hl]
   refine⟨h.go none2 rfl rfl (Frame.refl w _) (fun g o k=>⟨.inl (hob▸k),h.lt g o (hob▸k)⟩) (fun _ _ k=>k.elim) hloc (fun b'=> ?_) (fun b1 b2 hne g o k1 k2=> ?_) (fun b1 g o k1 k2=> ?_),hob,hloc⟩
   ·by_cases hbb':b'=b
    ·subst hbb'
     right
     simp only[St.mws,upd,if_true,BF1]
     rw[hob]
     exact hbr _ fun g o=>Iff.rfl
    ·left
     exact⟨by simp[St.mws,upd,hbb'],by simp[upd,hbb'],by simp[upd,hbb'],fun _ _ k=>k.elim⟩
   ·by_cases h1:b1=b
    ·subst h1
     have h2: ¬b2=b1:=fun e=>hne e.symm
     simp only[upd,if_true,h2,if_false]at k1 k2
     exact h.dx b2 g o k2 ((hX g o).2 (.inl k1))
    ·simp only[upd,h1,if_false]at k1
     by_cases h2:b2=b
     ·subst h2
      simp only[upd,if_true]at k2
      exact h.dx b1 g o k1 ((hX g o).2 (.inl k2))
     ·simp only[upd,h2,if_false]at k2
      exact h.db b1 b2 hne g o k1 k2
   ·by_cases h1:b1=b
    ·subst h1
     simp only[upd,if_true]at k1
     exact hd g o k1 k2
    ·simp only[upd,h1,if_false]at k1
     exact h.dx b1 g o k1 ((hX g o).2 (.inr k2))
  cases hx with
  |sc hs e=>exact hs.elim
  |own0 e=>
   have hL:=go ⟨0,0,z.length,0,false⟩ fun ow how=>.arr0 ⟨0,0,z.length,0,false⟩ (by simp[upd]) rfl rfl rfl e
   exact⟨_,_,hL,.ref0 ⟨0,0,z.length,0,false⟩ emp_none2 (by simp[upd]) (Nat.le_refl _)⟩
  | @own _ _ _ _ g oo cap _ vs os hcap hbf hw hc hxx hO hdo hdd h0 h1 hm=>
   have hL:=go ⟨g,oo,z.length,rows.length,true⟩ fun ow how=>.arr ⟨g,oo,z.length,rows.length,true⟩ vs os (by simp[upd]) rfl rfl rfl
    (hbf.mono (Nat.add_le_add_left (Nat.mul_le_mul_right _ hcap) _)) hw hc (fun i j row x h1 h2=>(hxx i j row x h1 h2).weak (fun g o k=>⟨k.1,k.2.1,fun hk=>k.2.2 ((how g o).2 hk)⟩) (fun _ _ k=>k)) hO hdo hdd h0 h1 hm
   refine⟨_,_,hL,?_⟩
   have:=AR.ref (w:=w) (R:=RS E w (Owned (upd ob b O) Y)) (loc:=upd loc b (some ⟨g,oo,z.length,rows.length,true⟩)) (b:=b) (off:=0) (len:=rows.length) (cap:=cap) (O:=none2) ⟨g,oo,z.length,rows.length,true⟩ emp_none2 (by simp[upd]) rfl (by simp) hcap (by simpa using hbf) hm
   simpa[impLeaf]using this
 |_=>exact rest (by simpa[impLeafOk]using hok) rfl
theorem mws_append(l l':List (Nat × MB)): ∀s:St,s.mws (l++l')=(s.mws l).mws l':=by
 induction l with
 |nil=>intro s;rfl
 |cons x l ih=>intro s;exact ih _
theorem mws_other{b:Nat}: ∀(l:List (Nat × MB))(s:St),(∀p∈l,p.1≠b)→(s.mws l).m b=s.m b
 |[],_,_=>rfl
 |x::l,s,h=>by
  refine(mws_other l _ fun p hp=>h p (by simp[hp])).trans ?_
  have:b≠x.1:=fun e=>h x (by simp) e.symm
  simp[upd,this]
theorem Landed.trans{st1 st2:St}{X Y Z:Cells}{loc loc1 loc2:Locs}{ob ob1 ob2:Nat→Cells}(h1:Landed E st a w X loc ob st1 Y loc1 ob1)(h2:Landed E st1 a w Y loc1 ob1 st2 Z loc2 ob2):Landed E st a w X loc ob st2 Z loc2 ob2:=
 ⟨h2.rel,h2.own.trans h1.own,fun b l hl=>h2.ext b l (h1.ext b l hl)⟩
theorem impLeaf_ids(b:Nat)(x:AV): ∀p∈(impLeaf b x).2,p.1=b:=by
 intro p hp
 cases x<;>simp[impLeaf]at hp
 rw[hp]
theorem impLeaves_ids: ∀(l:List AV)(b:Nat),∀p∈(impLeaves b l).2,b≤p.1∧p.1<b+l.length
 |[],_,p,h=>by simp[impLeaves]at h
 |x::l,b,p,h=>by
  simp only[impLeaves,List.mem_append]at h
  rcases h with h|h
  ·have:=impLeaf_ids b x p h
   simp only[List.length_cons]
   omega
  ·have:=impLeaves_ids l (b+1) p h
   simp only[List.length_cons]
   omega
theorem impVal_ids(b:Nat)(x:AV): ∀p∈(impVal b x).2,b≤p.1∧p.1<b+x.leaves.length:=by
 intro p hp
 have leaf:x.leaves=[x]→impVal b x=impLeaf b x→b≤p.1∧p.1<b+x.leaves.length:=by
  intro h1 h2
  rw[h2]at hp
  have:=impLeaf_ids b x p hp
  rw[h1]
  simp only[List.length_cons,List.length_nil]
  omega
 cases x with
 |agg cs=>exact impLeaves_ids cs b p hp
 |_=>exact leaf rfl rfl
theorem impVals_ids: ∀(l:List AV)(b:Nat),∀p∈(impVals b l).2,b≤p.1
 |[],_,p,h=>by simp[impVals]at h
 |x::l,b,p,h=>by
  simp only[impVals,List.mem_append]at h
  rcases h with h|h
  ·exact(impVal_ids b x p h).1
  ·have:=impVals_ids l _ p h
   omega
theorem imp_leaves: ∀(l:List AV)(vs:List Value)(st:St)(X O Y:Cells)(loc:Locs)(ob:Nat→Cells)(b:Nat),RelC E st a w X loc ob→(∀g o,X g o↔O g o∨Y g o)→Disj O Y→
  Parts w (RS E w (Owned ob X)) noLoc l vs O→l.all impLeafOk=true→(∀p∈(impLeaves b l).2,st.m p.1=.abs)→
  ∃loc' ob',Landed E st a w X loc ob (st.mws (impLeaves b l).2) Y loc' ob'∧Parts w (RS E w (Owned ob' Y)) loc' (impLeaves b l).1 vs none2
 |[],[],st,X,O,Y,loc,ob,b,h,hX,hd,hp,hok,hb=>by
  have hL:=Landed.refl h (Y:=Y) fun g o=>by rw[hX];exact⟨fun k=>k.resolve_left (hp g o),.inr⟩
  exact⟨loc,ob,hL,emp_none2⟩
 |[],_::_,_,_,_,_,_,_,_,_,_,_,h,_,_=>h.elim
 |_::_,[],_,_,_,_,_,_,_,_,_,_,h,_,_=>h.elim
 |x::l,v::vs,st,X,O,Y,loc,ob,b,h,hX,hd,hp,hok,hb=>by
  obtain⟨O1,O2,hO,hdd,hx,hrest⟩:=hp
  simp only[List.all_cons,Bool.and_eq_true]at hok
  let Y1:Cells:=fun g o=>O2 g o∨Y g o
  obtain⟨loc1,ob1,hL1,hy1⟩:=imp_leaf h (O:=O1) (Y:=Y1) (fun g o=>by rw[hX,hO];simp only[Y1];rw[or_assoc]) (fun g o k1 k2=>by
   rcases k2 with k2|k2
   ·exact hdd g o k1 k2
   ·exact hd g o ((hO g o).2 (.inl k1)) k2) hx hok.1 (b:=b) (fun p hp=>hb p (by simp[impLeaves,hp]))
  have hRS:RS E w (Owned ob1 Y1)=RS E w (Owned ob X):=by rw[hL1.own]
  obtain⟨loc2,ob2,hL2,hy2⟩:=imp_leaves l vs _ Y1 O2 Y loc1 ob1 (b+1) hL1.rel (fun g o=>Iff.rfl) (fun g o k1 k2=>hd g o ((hO g o).2 (.inr k1)) k2) (by rw[hRS];exact hrest) hok.2
   (fun p hp=>by
    rw[mws_other _ _ fun q hq=>by
     have h1:=impLeaf_ids b x q hq
     have h2:=impLeaves_ids l (b+1) p hp
     omega]
    exact hb p (by simp[impLeaves,hp]))
  refine⟨loc2,ob2,?_,none2,none2,fun g o=>by simp[none2],emp_none2.disj,?_,hy2⟩
  ·have:=hL1.trans hL2
   rw[←mws_append]at this
   exact this
  ·refine hy1.weak (fun g o k=> ?_) hL2.ext
   rw[hL2.own]
   exact k
theorem imp_val(h:RelC E st a w X loc ob){x:AV}{v:Value}{O Y:Cells}(hX: ∀g o,X g o↔O g o∨Y g o)(hd:Disj O Y)(hx:AR w (RS E w (Owned ob X)) noLoc x v O)(hok:impValOk x=true){b:Nat}
  (hb: ∀p∈(impVal b x).2,st.m p.1=.abs):
  ∃loc' ob',Landed E st a w X loc ob (st.mws (impVal b x).2) Y loc' ob'∧AR w (RS E w (Owned ob' Y)) loc' (impVal b x).1 v none2:=by
 cases x with
 |agg cs=>
  cases hx with
  |sc hs e=>exact hs.elim
  | @agg _ _ vs _ os hn hxx hu=>
   have hp:=parts_of_uni cs vs.toList os O (by simpa using hn) (fun k x v h1 h2=>hxx k x v h1 (by simpa using h2)) hu
   obtain⟨loc',ob',hL,hp'⟩:=imp_leaves cs vs.toList st X O Y loc ob b h hX hd hp hok hb
   obtain⟨hl,os',h1,h2⟩:=uni_of_parts _ _ _ hp'
   exact⟨loc',ob',hL,.agg os' (by simpa using hl) (fun k x v h3 h4=>h1 k x v h3 (by simpa using h4)) h2⟩
 |_=>exact imp_leaf (b:=b) h hX hd hx hok hb
theorem imp_vals: ∀(l:List AV)(vs:List Value)(st:St)(X O Y:Cells)(loc:Locs)(ob:Nat→Cells)(b:Nat),RelC E st a w X loc ob→(∀g o,X g o↔O g o∨Y g o)→Disj O Y→
  Parts w (RS E w (Owned ob X)) noLoc l vs O→l.all impValOk=true→(∀p∈(impVals b l).2,st.m p.1=.abs)→
  ∃loc' ob',Landed E st a w X loc ob (st.mws (impVals b l).2) Y loc' ob'∧Parts w (RS E w (Owned ob' Y)) loc' (impVals b l).1 vs none2
 |[],[],st,X,O,Y,loc,ob,b,h,hX,hd,hp,hok,hb=>by
  have hL:=Landed.refl h (Y:=Y) fun g o=>by rw[hX];exact⟨fun k=>k.resolve_left (hp g o),.inr⟩
  exact⟨loc,ob,hL,emp_none2⟩
 |[],_::_,_,_,_,_,_,_,_,_,_,_,h,_,_=>h.elim
 |_::_,[],_,_,_,_,_,_,_,_,_,_,h,_,_=>h.elim
 |x::l,v::vs,st,X,O,Y,loc,ob,b,h,hX,hd,hp,hok,hb=>by
  obtain⟨O1,O2,hO,hdd,hx,hrest⟩:=hp
  simp only[List.all_cons,Bool.and_eq_true]at hok
  let Y1:Cells:=fun g o=>O2 g o∨Y g o
  obtain⟨loc1,ob1,hL1,hy1⟩:=imp_val h (O:=O1) (Y:=Y1) (fun g o=>by rw[hX,hO];simp only[Y1];rw[or_assoc]) (fun g o k1 k2=>by
   rcases k2 with k2|k2
   ·exact hdd g o k1 k2
   ·exact hd g o ((hO g o).2 (.inl k1)) k2) hx hok.1 (b:=b) (fun p hp=>hb p (by simp[impVals,hp]))
  have hRS:RS E w (Owned ob1 Y1)=RS E w (Owned ob X):=by rw[hL1.own]
  obtain⟨loc2,ob2,hL2,hy2⟩:=imp_vals l vs _ Y1 O2 Y loc1 ob1 (b+x.leaves.length) hL1.rel (fun g o=>Iff.rfl) (fun g o k1 k2=>hd g o ((hO g o).2 (.inr k1)) k2) (by rw[hRS];exact hrest) hok.2
   (fun p hp=>by
    rw[mws_other _ _ fun q hq=>by
     have h1:=impVal_ids b x q hq
     have h2:=impVals_ids l _ p hp
     omega]
    exact hb p (by simp[impVals,hp]))
  refine⟨loc2,ob2,?_,none2,none2,fun g o=>by simp[none2],emp_none2.disj,?_,hy2⟩
  ·have:=hL1.trans hL2
   rw[←mws_append]at this
   exact this
  ·refine hy1.weak (fun g o k=> ?_) hL2.ext
   rw[hL2.own]
   exact k
theorem RelC.birth(h:RelC E st a w X loc ob){b:Nat}(hb:st.m b=.abs){l:Loc}{m:MB}{Ob X':Cells}(hown: ∀g o,Owned (upd ob b Ob) X' g o↔Owned ob X g o)(hbr:BF1 E w (Owned ob X) (upd loc b (some l)) b m Ob)
  (hd: ∀b',b'≠b→Disj (ob b') Ob)(hx: ∀b',b'≠b→Disj (ob b') X')(hbx:Disj Ob X'):RelC E (st.mws [(b,m)]) a w X' (upd loc b (some l)) (upd ob b Ob):=by
 have hab:=h.ab b hb
 have he:Owned (upd ob b Ob) X'=Owned ob X:=by funext g o;exact propext (hown g o)
 have hloc: ∀b' l',loc b'=some l'→upd loc b (some l) b'=some l':=fun b' l' hl=>by
  have hne:b'≠b:=fun e=>by rw[e,hab.1]at hl;cases hl
  simp[upd,hne,hl]
 refine h.go none2 rfl rfl (Frame.refl w _) (fun g o k=>⟨.inl (he▸k),h.lt g o (he▸k)⟩) (fun _ _ k=>k.elim) hloc (fun b'=> ?_) (fun b1 b2 hne g o k1 k2=> ?_) (fun b1 g o k1 k2=> ?_)
 ·by_cases hb:b'=b
  ·subst hb
   right
   have e1:(st.mws [(b',m)]).m b'=m:=by simp[St.mws,upd]
   have e2:upd ob b' Ob b'=Ob:=by simp[upd]
   rw[e1,e2,he]
   exact hbr
  ·left
   exact⟨by simp[St.mws,upd,hb],by simp[upd,hb],by simp[upd,hb],fun _ _ k=>k.elim⟩
 ·by_cases h1:b1=b
  ·subst h1
   have h2: ¬b2=b1:=fun e=>hne e.symm
   simp only[upd,if_true,h2,if_false]at k1 k2
   exact hd b2 h2 g o k2 k1
  ·by_cases h2:b2=b
   ·subst h2
    simp only[upd,if_true,h1,if_false]at k1 k2
    exact hd b1 h1 g o k1 k2
   ·simp only[upd,h1,h2,if_false]at k1 k2
    exact h.db b1 b2 hne g o k1 k2
 ·by_cases h1:b1=b
  ·subst h1
   simp only[upd,if_true]at k1
   exact hbx g o k1 k2
  ·simp only[upd,h1,if_false]at k1
   exact hx b1 h1 g o k1 k2
theorem impLeaves_len: ∀(l:List AV)(b:Nat),(impLeaves b l).1.length=l.length
 |[],_=>rfl
 |x::l,b=>by simp[impLeaves,impLeaves_len l]
theorem impLeaves_known: ∀(l:List AV)(b:Nat),l.all impLeafOk=true→ ∀x∈(impLeaves b l).1,x.isUndef=false
 |[],_,_,x,hx=>by simp[impLeaves]at hx
 |y::l,b,hk,x,hx=>by
  simp only[List.all_cons,Bool.and_eq_true]at hk
  simp only[impLeaves,List.mem_cons]at hx
  rcases hx with rfl|hx
  ·cases y<;>first|rfl|(simp[impLeafOk,AV.light]at hk)
  ·exact impLeaves_known l _ hk.2 x hx
theorem imp_obj(h:RelC E st a w X loc ob){cs:List AV}{v:Value}{O Y:Cells}(hX: ∀g o,X g o↔O g o∨Y g o)(hd:Disj O Y)(hx:AR w (RS E w (Owned ob X)) noLoc (.obj cs) v O)(hok:cs.all impLeafOk=true){b:Nat}
  (hb: ∀p∈(impLeaves (b+1) cs).2++[(b,MB.live ⟨false,0,List.replicate cs.length .undef,[(impLeaves (b+1) cs).1]⟩)],st.m p.1=.abs):
  ∃loc' ob',Landed E st a w X loc ob (st.mws ((impLeaves (b+1) cs).2++[(b,MB.live ⟨false,0,List.replicate cs.length .undef,[(impLeaves (b+1) cs).1]⟩)])) Y loc' ob'∧AR w (RS E w (Owned ob' Y)) loc' (.ptr b 0 0) v none2:=by
 have hbb:st.m b=.abs:=hb (b,.live ⟨false,0,List.replicate cs.length .undef,[(impLeaves (b+1) cs).1]⟩) (by simp)
 cases hx with
 |sc h _=>exact h.elim
 | @obj _ _ g oo _ vs os hbf hkn hc hxx hO hdo hdd=>
  let n:=cs.length
  let C:Cells:=fun g' o'=>g'=g∧oo≤o'∧o'<oo+cs.length
  let O2:Cells:=fun g o=> ∃k,k<cs.length∧os k g o
  have hO': ∀g o,O g o↔C g o∨O2 g o:=hO
  have hCO2:Disj C O2:=fun g o ⟨e1,e2,e3⟩⟨k,k1,k2⟩=>by subst e1;exact hdo k k1 o e2 e3 k2
  let vl:List Value:=(List.range n).map vs
  have hpl:Parts w (RS E w (Owned ob X)) noLoc cs vl O2:=parts_of_uni cs vl os O2 (by simp[vl,n]) (fun k x v h1 h2=>by
   have hk:k<n:=(List.getElem?_eq_some_iff.1 h1).1
   have:v=vs k:=by simpa[vl,hk]using h2.symm
   subst this
   exact hxx k x h1) ⟨fun g o=>Iff.rfl,hdd⟩
  let Y1:Cells:=fun g o=>C g o∨Y g o
  obtain⟨loc',ob',hL,hpi⟩:=imp_leaves cs vl st X O2 Y1 loc ob (b+1) h (fun g o=>by
   rw[hX,hO']
   exact⟨fun k=>k.elim (fun k=>k.elim (fun k=>.inr (.inl k)) .inl) fun k=>.inr (.inr k),fun k=>k.elim (fun k=>.inl (.inr k)) fun k=>k.elim (fun k=>.inl (.inl k)) .inr⟩)
   (fun g o k1 k2=>k2.elim (fun k2=>hCO2 g o k2 k1) fun k2=>hd g o ((hO' g o).2 (.inr k1)) k2) hpl hok (fun p hp=>hb p (by simp[hp]))
  have hmb:(st.mws (impLeaves (b+1) cs).2).m b=.abs:=by
   rw[mws_other _ _ fun p hp e=>by have:=impLeaves_ids cs (b+1) p hp;omega]
   exact hbb
  obtain⟨hil,os1,hi1,hi2⟩:=uni_of_parts _ _ _ hpi
  have hin:=impLeaves_len cs (b+1)
  have hlk:=impLeaves_known cs (b+1) hok
  have habs:=hL.rel.ab b hmb
  let l:Loc:=⟨g,oo,n,1,true⟩
  have hext: ∀b' l',loc' b'=some l'→upd loc' b (some l) b'=some l':=fun b' l' hl=>by
   have hne:b'≠b:=fun e=>by rw[e,habs.1]at hl;cases hl
   simp[upd,hne,hl]
  have hbr:BF1 E w (Owned ob' Y1) (upd loc' b (some l)) b (.live ⟨false,0,List.replicate cs.length .undef,[(impLeaves (b+1) cs).1]⟩) C:=by
   refine BR.var l vs (fun _=>none2) (by simp[upd]) rfl (by simp[l,n]) rfl (by simp[hin]) (by simpa using hbf) (fun k c h1 h2=> ?_) (fun k c h1 h2=> ?_) (fun g' o'=> ?_) (fun _ _ _ _ _ _ _ _ k=>k) (fun _ _ _ _ _ _ _ _ _ _ _ k=>k.elim)
   ·have hk:k<cs.length:=by rw[←hin];exact(List.getElem?_eq_some_iff.1 h1).1
    exact hc k hk
   ·have hk:k<(impLeaves (b+1) cs).1.length:=(List.getElem?_eq_some_iff.1 h1).1
    refine((hi1 k c (vs k) h1 (by simp only[vl,List.getElem?_map];rw[List.getElem?_range (by rw[hin]at hk;exact hk)];rfl)).emp_weak (fun g o m=>(hi2.iff g o).2 ⟨k,hk,m⟩) emp_none2).weak (fun _ _ k=>k) hext
   ·constructor
    ·rintro ⟨rfl,k1,k2⟩
     have hk:o'-oo<(impLeaves (b+1) cs).1.length:=by omega
     exact⟨o'-oo,_,List.getElem?_eq_getElem hk,hlk _ (List.getElem_mem _),.inl ⟨rfl,by show o'=oo+(o'-oo);omega⟩⟩
    ·rintro ⟨k,c,e1,e2,⟨rfl,rfl⟩|e3⟩
     ·have hk:k<cs.length:=by rw[←hin];exact(List.getElem?_eq_some_iff.1 e1).1
      exact⟨rfl,by show oo≤oo+k;omega,by show oo+k<oo+cs.length;omega⟩
     ·exact e3.elim
  have hown: ∀g o,Owned (upd ob' b C) Y g o↔Owned ob' Y1 g o:=by
   intro g o
   constructor
   ·rintro (⟨b',k⟩|k)
    ·by_cases hbb:b'=b
     ·subst hbb;simp only[upd,if_true]at k;exact .inr (.inl k)
     ·simp only[upd,hbb,if_false]at k;exact .inl ⟨b',k⟩
    ·exact .inr (.inr k)
   ·rintro (⟨b',k⟩|k|k)
    ·by_cases hbb:b'=b
     ·subst hbb;exact(habs.2 g o k).elim
     ·exact .inl ⟨b',by simpa only[upd,hbb,if_false]using k⟩
    ·exact .inl ⟨b,by simp only[upd,if_true];exact k⟩
    ·exact .inr k
  have hfin:=hL.rel.birth hmb hown hbr (fun b' hne g o k1 k2=>hL.rel.dx b' g o k1 (.inl k2)) (fun b' hne g o k1 k2=>hL.rel.dx b' g o k1 (.inr k2)) (fun g o k1 k2=>hd g o ((hO' g o).2 (.inl k1)) k2)
  rw[←mws_append]at hfin
  have hfo:Owned (upd ob' b C) Y=Owned ob X:=by rw[←hL.own];funext g o;exact propext (hown g o)
  refine⟨_,_,⟨hfin,hfo,fun b' l' hl=>hext _ _ (hL.ext _ _ hl)⟩,?_⟩
  have:=AR.ptr (w:=w) (R:=RS E w (Owned (upd ob' b C) Y)) (loc:=upd loc' b (some l)) (b:=b) (i:=0) (j:=0) (O:=none2) l emp_none2 (by simp[upd]) rfl (by simp[l])
  simpa[l]using this
theorem imp_res(h:RelC E st a w X loc ob){x:AV}{v:Value}{O Y:Cells}(hX: ∀g o,X g o↔O g o∨Y g o)(hd:Disj O Y)(hx:AR w (RS E w (Owned ob X)) noLoc x v O)(hok:impResOk x=true){b:Nat}
  (hb: ∀p∈(impRes b x).2,st.m p.1=.abs):
  ∃loc' ob',Landed E st a w X loc ob (st.mws (impRes b x).2) Y loc' ob'∧AR w (RS E w (Owned ob' Y)) loc' (impRes b x).1 v none2:=by
 cases x with
 |tup cs=>
  cases hx with
  |sc hs e=>exact hs.elim
  | @tup _ _ vs _ os hn hxx hu=>
   have hp:=parts_of_uni cs vs.toList os O (by simpa using hn) (fun k x v h1 h2=>hxx k x v h1 (by simpa using h2)) hu
   obtain⟨loc',ob',hL,hp'⟩:=imp_vals cs vs.toList st X O Y loc ob b h hX hd hp hok hb
   obtain⟨hl,os',h1,h2⟩:=uni_of_parts _ _ _ hp'
   exact⟨loc',ob',hL,.tup os' (by simpa using hl) (fun k x v h3 h4=>h1 k x v h3 (by simpa using h4)) h2⟩
 |obj cs=>exact imp_obj (b:=b) h hX hd hx hok hb
 |_=>exact imp_val (b:=b) h hX hd hx hok hb
end
end Go.Abs
