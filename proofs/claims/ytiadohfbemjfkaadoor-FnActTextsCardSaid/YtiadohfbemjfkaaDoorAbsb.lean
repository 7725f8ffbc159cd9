/- The abstract layer: functions that are handed pointers. -/
import Derived.Test.YtiadohfbemjfkaaDoorAbsB
set_option linter.unusedVariables false
set_option linter.unusedSimpArgs false
noncomputable section
namespace Go.Abs
open Go
def impArg(b:Nat):AV→AV × List (Nat × MB)
 | .obj cs=>(.ptr b 0 0,(impLeaves (b+1) cs).2++[(b,.live ⟨false,0,List.replicate cs.length .undef,[(impLeaves (b+1) cs).1]⟩)])
 |v=>impVal b v
def impArgOk:AV→Bool
 | .obj cs=>cs.all impLeafOk&&decide (cs.length<90)
 |v=>impValOk v&&decide (v.leaves.length<90)
def impArgs(b:Nat):List AV→List AV × List (Nat × MB)
 |[]=>([],[])
 |x::l=>((impArg b x).1::(impArgs (b+100) l).1,(impArg b x).2++(impArgs (b+100) l).2)
def objIds(b:Nat):List AV→List Nat
 |[]=>[]
 |x::l=>(match x with| .obj _=>[b]|_=>[])++objIds (b+100) l
def enterP(n:Nat)(as:List AV)(an:List Nat):St:={St.mws ⟨n,fun _=>.undef,fun _=>.abs,[]⟩ (impArgs e0 as).2 with t:=fun k=>(impArgs e0 as).1.getD k .undef,an:=an}
def aftPs:Nat→List AV→List AV→St→Prop
 |_,[],[],_=>True
 |b,x::as,o::os,st=>match x with
  | .obj _=>match o with
   | .obj cs=>match st.m b with
    | .live ⟨arr,_,_,rows⟩=>match arr with
     |false=>match rows with
      |[row]=>Rq (row.all (fun c=>c.light&& !c.isUndef)&&cs.all fun c=> !c.isUndef) (expLeavesK row (st.mws [(b,.dead)]) fun ys st=>Sh (.agg ys) (.agg cs)∧aftPs (b+100) as os st)
      |_=>False
     |true=>False
    |_=>False
   |_=>False
  |_=>o=.undef∧aftPs (b+100) as os st
 |_,_,_,_=>False
def AncP(E:Env):Nat→List AV→List Value→Prop
 |_,[],[]=>True
 |b,x::as,v::vs=>(match x with
  | .obj _=> ∃l,E.A b=some l∧v=.pointer (some ⟨l.g,l.base,none⟩)
  |_=>True)∧AncP E (b+100) as vs
 |_,_,_=>False
section
variable{P:Program}{T:TT}{E:Env}{o:Oper}{st:St}{a:Act}{w:World}{X:Cells}{loc:Locs}{ob:Nat→Cells}{r:Res}
theorem imp_arg(h:RelC E st a w X loc ob){x:AV}{v:Value}{O Y:Cells}(hX: ∀g o,X g o↔O g o∨Y g o)(hd:Disj O Y)(hx:AR w (RS E w (Owned ob X)) noLoc x v O)(hok:impArgOk x=true){b:Nat}
  (hb: ∀p∈(impArg b x).2,st.m p.1=.abs):
  ∃loc' ob',Landed E st a w X loc ob (st.mws (impArg b x).2) Y loc' ob'∧AR w (RS E w (Owned ob' Y)) loc' (impArg b x).1 v none2:=by
 have rest: ∀x:AV,AR w (RS E w (Owned ob X)) noLoc x v O→(impValOk x&&decide (x.leaves.length<90))=true→(∀p∈(impVal b x).2,st.m p.1=.abs)→
   ∃loc' ob',Landed E st a w X loc ob (st.mws (impVal b x).2) Y loc' ob'∧AR w (RS E w (Owned ob' Y)) loc' (impVal b x).1 v none2:=fun x hx hok hb=>by
  simp only[Bool.and_eq_true]at hok
  exact imp_val h hX hd hx hok.1 hb
 cases x with
 |obj cs=>
  simp only[impArgOk,Bool.and_eq_true,decide_eq_true_eq]at hok
  simp only[impArg]at hb⊢
  have hbb:st.m b=.abs:=hb (b,.live ⟨false,0,List.replicate cs.length .undef,[(impLeaves (b+1) cs).1]⟩) (by simp)
  cases hx with
  |sc h _=>exact h.elim
  | @obj _ _ g oo _ vs os hbf hkn hc hxx hO hdo hdd=>
   let n:=cs.length
   let C:Cells:=fun g' o'=>g'=g∧oo≤o'∧o'<oo+cs.length
   let O2:Cells:=fun g o=> ∃k,k<cs.length∧os k g o
   have hO': ∀g o,O g o↔C g o∨O2 g o:=hO
   have hCO2:Disj C O2:=fun g o ⟨e1,e2,e3⟩⟨k,k1,k2⟩=>by subst e1;exact hdo k k1 o e2 e3 k2
   let vl:List Value:=(List.range n).map vs
   have hpl:Parts w (RS E w (Owned ob X)) noLoc cs vl O2:=parts_of_uni cs vl os O2 (by simp[vl,n]) (fun k x v h1 h2=>by
    have hk:k<n:=(List.getElem?_eq_some_iff.1 h1).1
    have:v=vs k:=by simpa[vl,hk]using h2.symm
    subst this
    exact hxx k x h1) ⟨fun g o=>Iff.rfl,hdd⟩
   let Y1:Cells:=fun g o=>C g o∨Y g o
   obtain⟨loc',ob',hL,hpi⟩:=imp_leaves cs vl st X O2 Y1 loc ob (b+1) h (fun g o=>by
    rw[hX,hO']
    exact⟨fun k=>k.elim (fun k=>k.elim (fun k=>.inr (.inl k)) .inl) fun k=>.inr (.inr k),fun k=>k.elim (fun k=>.inl (.inr k)) fun k=>k.elim (fun k=>.inl (.inl k)) .inr⟩)
    (fun g o k1 k2=>k2.elim (fun k2=>hCO2 g o k2 k1) fun k2=>hd g o ((hO' g o).2 (.inr k1)) k2) hpl hok.1 (fun p hp=>hb p (by simp[hp]))
   have hmb:(st.mws (impLeaves (b+1) cs).2).m b=.abs:=by
    rw[mws_other _ _ fun p hp e=>by have:=impLeaves_ids cs (b+1) p hp;omega]
    exact hbb
   obtain⟨hil,os1,hi1,hi2⟩:=uni_of_parts _ _ _ hpi
   have hin:=impLeaves_len cs (b+1)
   have hlk:=impLeaves_known cs (b+1) hok.1
   have habs:=hL.rel.ab b hmb
   let l:Loc:=⟨g,oo,n,1,true⟩
   have hext: ∀b' l',loc' b'=some l'→upd loc' b (some l) b'=some l':=fun b' l' hl=>by
    have hne:b'≠b:=fun e=>by rw[e,habs.1]at hl;cases hl
    simp[upd,hne,hl]
   have hbr:BF1 E w (Owned ob' Y1) (upd loc' b (some l)) b (.live ⟨false,0,List.replicate cs.length .undef,[(impLeaves (b+1) cs).1]⟩) C:=by
    refine BR.var l vs (fun _=>none2) (by simp[upd]) rfl (by simp[l,n]) rfl (by simp[hin]) (by simpa using hbf) (fun k c h1 h2=> ?_) (fun k c h1 h2=> ?_) (fun g' o'=> ?_) (fun _ _ _ _ _ _ _ _ k=>k) (fun _ _ _ _ _ _ _ _ _ _ _ k=>k.elim)
    ·have hk:k<cs.length:=by rw[←hin];exact(List.getElem?_eq_some_iff.1 h1).1
     exact hc k hk
    ·have hk:k<(impLeaves (b+1) cs).1.length:=(List.getElem?_eq_some_iff.1 h1).1
     refine((hi1 k c (vs k) h1 (by simp only[vl,List.getElem?_map];rw[List.getElem?_range (by rw[hin]at hk;exact hk)];rfl)).emp_weak (fun g o m=>(hi2.iff g o).2 ⟨k,hk,m⟩) emp_none2).weak (fun _ _ k=>k) hext
    ·constructor
     ·rintro ⟨rfl,k1,k2⟩
      have hk:o'-oo<(impLeaves (b+1) cs).1.length:=by omega
      exact⟨o'-oo,_,List.getElem?_eq_getElem hk,hlk _ (List.getElem_mem _),.inl ⟨rfl,by show o'=oo+(o'-oo);omega⟩⟩
     ·rintro ⟨k,c,e1,e2,⟨rfl,rfl⟩|e3⟩
      ·have hk:k<cs.length:=by rw[←hin];exact(List.getElem?_eq_some_iff.1 e1).1
       exact⟨rfl,by show oo≤oo+k;omega,by show oo+k<oo+cs.length;omega⟩
      ·exact e3.elim
   have hown: ∀g o,Owned (upd ob' b C) Y g o↔Owned ob' Y1 g o:=by
    intro g o
    constructor
    ·rintro (⟨b',k⟩|k)
     ·by_cases hbb:b'=b
      ·subst hbb;simp only[upd,if_true]at k;exact .inr (.inl k)
      ·simp only[upd,hbb,if_false]at k;exact .inl ⟨b',k⟩
     ·exact .inr (.inr k)
    ·rintro (⟨b',k⟩|k|k)
     ·by_cases hbb:b'=b
      ·subst hbb;exact(habs.2 g o k).elim
      ·exact .inl ⟨b',by simpa only[upd,hbb,if_false]using k⟩
     ·exact .inl ⟨b,by simp only[upd,if_true];exact k⟩
     ·exact .inr k
   have hfin:=hL.rel.birth hmb hown hbr (fun b' hne g o k1 k2=>hL.rel.dx b' g o k1 (.inl k2)) (fun b' hne g o k1 k2=>hL.rel.dx b' g o k1 (.inr k2)) (fun g o k1 k2=>hd g o ((hO' g o).2 (.inl k1)) k2)
   rw[←mws_append]at hfin
   have hfo:Owned (upd ob' b C) Y=Owned ob X:=by rw[←hL.own];funext g o;exact propext (hown g o)
   refine⟨_,_,⟨hfin,hfo,fun b' l' hl=>hext _ _ (hL.ext _ _ hl)⟩,?_⟩
   have:=AR.ptr (w:=w) (R:=RS E w (Owned (upd ob' b C) Y)) (loc:=upd loc' b (some l)) (b:=b) (i:=0) (j:=0) (O:=none2) l emp_none2 (by simp[upd]) rfl (by simp[l])
   simpa[l]using this
 |_=>exact rest _ hx hok hb
theorem impArg_ids(b:Nat)(x:AV)(hok:impArgOk x=true): ∀p∈(impArg b x).2,b≤p.1∧p.1<b+100:=by
 have rest: ∀x:AV,(impValOk x&&decide (x.leaves.length<90))=true→ ∀p∈(impVal b x).2,b≤p.1∧p.1<b+100:=fun x hok p hp=>by
  simp only[Bool.and_eq_true,decide_eq_true_eq]at hok
  have:=impVal_ids b x p hp
  omega
 cases x with
 |obj cs=>
  intro p hp
  simp only[impArgOk,Bool.and_eq_true,decide_eq_true_eq]at hok
  simp only[impArg,List.mem_append,List.mem_singleton]at hp
  rcases hp with hp|rfl
  ·have:=impLeaves_ids cs (b+1) p hp
   omega
  ·exact⟨Nat.le_refl _,by show b<b+100;omega⟩
 |_=>exact rest _ hok
theorem impArgs_ids: ∀(l:List AV)(b:Nat),l.all impArgOk=true→ ∀p∈(impArgs b l).2,b≤p.1
 |[],b,_,p,hp=>by simp[impArgs]at hp
 |x::l,b,hok,p,hp=>by
  simp only[List.all_cons,Bool.and_eq_true]at hok
  simp only[impArgs,List.mem_append]at hp
  rcases hp with hp|hp
  ·exact(impArg_ids b x hok.1 p hp).1
  ·have:=impArgs_ids l (b+100) hok.2 p hp
   omega
theorem imp_args: ∀(l:List AV)(vs:List Value)(st:St)(X O Y:Cells)(loc:Locs)(ob:Nat→Cells)(b:Nat),RelC E st a w X loc ob→(∀g o,X g o↔O g o∨Y g o)→Disj O Y→
  Parts w (RS E w (Owned ob X)) noLoc l vs O→l.all impArgOk=true→(∀p∈(impArgs b l).2,st.m p.1=.abs)→
  ∃loc' ob',Landed E st a w X loc ob (st.mws (impArgs b l).2) Y loc' ob'∧Parts w (RS E w (Owned ob' Y)) loc' (impArgs b l).1 vs none2
 |[],[],st,X,O,Y,loc,ob,b,h,hX,hd,hp,hok,hb=>by
  have hL:=Landed.refl h (Y:=Y) fun g o=>by rw[hX];exact⟨fun k=>k.resolve_left (hp g o),.inr⟩
  exact⟨loc,ob,hL,emp_none2⟩
 |[],_::_,_,_,_,_,_,_,_,_,_,_,h,_,_=>h.elim
 |_::_,[],_,_,_,_,_,_,_,_,_,_,h,_,_=>h.elim
 |x::l,v::vs,st,X,O,Y,loc,ob,b,h,hX,hd,hp,hok,hb=>by
  obtain⟨O1,O2,hO,hdd,hx,hrest⟩:=hp
  simp only[List.all_cons,Bool.and_eq_true]at hok
  let Y1:Cells:=fun g o=>O2 g o∨Y g o
  obtain⟨loc1,ob1,hL1,hy1⟩:=imp_arg h (O:=O1) (Y:=Y1) (fun g o=>by rw[hX,hO];simp only[Y1];rw[or_assoc]) (fun g o k1 k2=>by
   rcases k2 with k2|k2
   ·exact hdd g o k1 k2
   ·exact hd g o ((hO g o).2 (.inl k1)) k2) hx hok.1 (b:=b) (fun p hp=>hb p (by simp[impArgs,hp]))
  have hRS:RS E w (Owned ob1 Y1)=RS E w (Owned ob X):=by rw[hL1.own]
  obtain⟨loc2,ob2,hL2,hy2⟩:=imp_args l vs _ Y1 O2 Y loc1 ob1 (b+100) hL1.rel (fun g o=>Iff.rfl) (fun g o k1 k2=>hd g o ((hO g o).2 (.inr k1)) k2) (by rw[hRS];exact hrest) hok.2
   (fun p hp=>by
    rw[mws_other _ _ fun q hq=>by
     have h1:=impArg_ids b x hok.1 q hq
     have h2:=impArgs_ids l _ hok.2 p hp
     omega]
    exact hb p (by simp[impArgs,hp]))
  refine⟨loc2,ob2,?_,none2,none2,fun g o=>by simp[none2],emp_none2.disj,?_,hy2⟩
  ·have:=hL1.trans hL2
   rw[←mws_append]at this
   exact this
  ·refine hy1.weak (fun g o k=> ?_) hL2.ext
   rw[hL2.own]
   exact k
theorem anc_of{R:Cells}: ∀(as:List AV)(vs:List Value)(b:Nat)(O:Cells),Parts w R E.A (impArgs b as).1 vs O→AncP E b as vs
 |[],[],b,O,_=>trivial
 |[],_::_,b,O,h=>h.elim
 |x::as,[],b,O,h=>h.elim
 |x::as,v::vs,b,O,⟨O1,O2,_,_,h1,h2⟩=>by
  refine⟨?_,anc_of as vs (b+100) O2 h2⟩
  cases x with
  |obj cs=>
   obtain⟨l,hl,_,_,rfl⟩:=AR.inv_ptr (b:=b) (i:=0) (j:=0) h1
   exact⟨l,hl,by simp⟩
  |_=>trivial
theorem expLeavesK_an: ∀(l:List AV)(s:St)(K:List AV→St→Prop),expLeavesK l s K→expLeavesK l s (fun ys s'=>K ys s'∧s'.an=s.an):=by
 intro l
 induction l with
 |nil=>intro s K h;exact⟨h,rfl⟩
 |cons x l ih=>
  intro s K h
  have mono: ∀{α:Type}(p:RP α)(K1 K2:α→Prop)(s:St),p.runK s K1→(∀a,K1 a→K2 a)→p.runK s K2:=by
   intro α p
   induction p with
   |ret a=>intro K1 K2 s h hk;exact hk a h
   |tmp k c ih=>intro K1 K2 s h hk;exact ih _ K1 K2 s h hk
   |mem b c ih=>intro K1 K2 s h hk;exact ih _ K1 K2 s h hk
   |req b c ih=>intro K1 K2 s h hk;exact⟨h.1,ih K1 K2 s h.2 hk⟩
   |fail=>intro K1 K2 s h hk;exact h.elim
  refine mono _ _ _ _ h fun p hp=> ?_
  have:=ih _ _ hp
  have e:(s.mws p.2).an=s.an:=mws_an _ _
  rw[e]at this
  exact this
theorem aftPs_ok: ∀(as os:List AV)(vs:List Value)(b:Nat)(st:St)(X:Cells)(ob:Nat→Cells),RelC E st a w X loc ob→aftPs b as os st→AncP E b as vs→(∀i∈objIds b as,i∈st.an)→
  ∃st' X' ob' O2 O3,Left E a w X loc ob st' X' ob' O2∧(∀g o,O3 g o→O2 g o)∧ ∀R':Cells,(∀g o,RS E w (Owned ob' X') g o→R' g o)→(∀g o,O2 g o→ ¬O3 g o→R' g o)→Parts w R' noLoc os vs O3
 |[],[],[],b,st,X,ob,h,_,_,_=>⟨st,X,ob,none2,none2,Left.refl h,fun _ _ k=>k,fun _ _ _=>emp_none2⟩
 |[],[],_::_,_,_,_,_,_,_,h,_=>h.elim
 |[],_::_,_,_,_,_,_,_,h,_,_=>h.elim
 |_::_,[],_,_,_,_,_,_,h,_,_=>h.elim
 |_::_,_::_,[],_,_,_,_,_,_,h,_=>h.elim
 |x::as,o::os,v::vs,b,st,X,ob,h,hk,⟨hv,ha⟩,hi=>by
  have rest:(o=.undef∧aftPs (b+100) as os st)→(∀i∈objIds (b+100) as,i∈st.an)→ ∃st' X' ob' O2 O3,Left E a w X loc ob st' X' ob' O2∧(∀g o,O3 g o→O2 g o)∧ ∀R':Cells,(∀g o,RS E w (Owned ob' X') g o→R' g o)→(∀g o,O2 g o→ ¬O3 g o→R' g o)→Parts w R' noLoc (o::os) (v::vs) O3:=by
   rintro ⟨rfl,hk'⟩ hi
   obtain⟨st',X',ob',O2,O3,h1,h2,h3⟩:=aftPs_ok as os vs (b+100) st X ob h hk' ha hi
   exact⟨st',X',ob',O2,O3,h1,h2,fun R' hR hR'=>⟨none2,O3,fun g o=>by simp[none2],emp_none2.disj,.sc trivial emp_none2,h3 R' hR hR'⟩⟩
  cases x with
  |obj cs0=>
   unfold aftPs at hk
   simp only at hk
   split at hk
   case h_2=>exact hk.elim
   rename_i cs
   split at hk
   case h_2=>exact hk.elim
   rename_i arr lvl z rows hm
   split at hk
   case h_2=>exact hk.elim
   split at hk
   case h_2=>exact hk.elim
   rename_i row
   obtain⟨hq,hk⟩:=hk
   simp only[Bool.and_eq_true]at hq
   obtain⟨hrow,hcs⟩:=hq
   obtain⟨l,hA,rfl⟩:=hv
   have hloc:=(h.an b (hi b (by simp[objIds]))).1
   rw[hA]at hloc
   have hat:=h.lv b _ hm
   generalize hob:ob b=Ob at hat
   cases hat with
   |var l' vs0 os0 hl' hbd hs hn hz hbf hc hxx hO hd hdd=>
    rw[hloc]at hl';injection hl' with hl';subst hl'
    have hall: ∀(k:Nat) c,row[k]? =some c→c.light=true∧c.isUndef=false:=fun k c h1=>by
     have:=List.all_eq_true.1 hrow c (List.mem_of_getElem? h1)
     simpa using this
    have hemp: ∀(k:Nat) c,row[k]? =some c→Emp (os0 k):=fun k c h1=>(hxx k c h1 (hall k c h1).2).light_emp (hall k c h1).1
    have hspan: ∀g o,Ob g o↔span l 0 row.length g o:=by
     intro g o
     rw[hO]
     constructor
     ·rintro ⟨k,c,e1,e2,⟨rfl,rfl⟩|e3⟩
      ·have:k<row.length:=(List.getElem?_eq_some_iff.1 e1).1
       exact⟨rfl,by omega,by omega⟩
      ·exact(hemp k c e1 g o e3).elim
     ·rintro ⟨rfl,e1,e2⟩
      have hlt:o-l.base<row.length:=by omega
      have e:=List.getElem?_eq_getElem hlt
      exact⟨o-l.base,_,e,(hall _ _ e).2,.inl ⟨rfl,by omega⟩⟩
    have hown: ∀g o,Owned (upd ob b none2) (fun g o=>X g o∨Ob g o) g o↔Owned ob X g o:=by
     intro g o
     constructor
     ·rintro (⟨b',k⟩|k|k)
      ·by_cases hbb:b'=b
       ·subst hbb;simp only[upd,if_true]at k;exact k.elim
       ·simp only[upd,hbb,if_false]at k;exact .inl ⟨b',k⟩
      ·exact .inr k
      ·exact .inl ⟨b,by rw[hob];exact k⟩
     ·rintro (⟨b',k⟩|k)
      ·by_cases hbb:b'=b
       ·subst hbb;rw[hob]at k;exact .inr (.inr k)
       ·exact .inl ⟨b',by simpa only[upd,hbb,if_false]using k⟩
      ·exact .inr (.inl k)
    have hrel1:=h.part (b:=b) (m:=.dead) (Ob:=none2) (X':=fun g o=>X g o∨Ob g o) hown ⟨by rw[hloc];rfl,emp_none2⟩ (fun b' hne g o k1 k2=>k2.elim) (fun b' hne g o k1 k2=>by
     rcases k2 with k2|k2
     ·exact h.dx b' g o k1 k2
     ·exact h.db b' b hne g o k1 (hob▸k2)) (fun g o k1=>k1.elim)
    have hL1:Left E a w X loc ob _ (fun g o=>X g o∨Ob g o) _ Ob:=⟨hrel1,fun g o=>Iff.rfl,fun g o k1 k2=>h.dx b g o (hob▸k2) k1,fun g o k=>(hown g o).1 k⟩
    let vl:List Value:=(List.range row.length).map vs0
    obtain⟨ys,st2,X2,ob2,O2,⟨⟨hsh,hk2⟩,han⟩,hL2,hp⟩:=expLeavesK_ok row vl _ _ _ _ hrel1 (by simp[vl]) (fun k c u h1 h2=>by
     have hkn:k<row.length:=(List.getElem?_eq_some_iff.1 h1).1
     have:u=vs0 k:=by simpa[vl,hkn]using h2.symm
     subst this
     exact((hxx k c h1 (hall k c h1).2).emp_weak (hemp k c h1) emp_none2).weak hL1.RS fun _ _ k=>k) (expLeavesK_an _ _ _ hk)
    obtain⟨hL12,hd12⟩:=hL1.trans hL2
    have han2: ∀i∈objIds (b+100) as,i∈st2.an:=fun i hi'=>by rw[han];exact hi i (by simp[objIds,hi'])
    obtain⟨hyl,os2,hy,hu⟩:=uni_of_parts _ _ _ hp
    have hagg:AR w (RS E w (Owned ob2 X2)) noLoc (.agg ys) (.agg vl.toArray) O2:=.agg os2 (by simpa using hyl) (fun k x v k1 k2=>hy k x v k1 (by simpa using k2)) hu
    obtain⟨O1,hO1,hA1⟩:=hsh w _ O2 _ hagg fun g o k=>hL2.rel.lt g o (.inr ((hL2.iff g o).2 (.inr k)))
    obtain⟨st',X',ob',O4,O5,g1,g2,g3⟩:=aftPs_ok as os vs (b+100) st2 X2 ob2 hL2.rel hk2 ha han2
    obtain⟨hL,hdis⟩:=hL12.trans g1
    refine⟨st',X',ob',_,fun g o=>(Ob g o∨O1 g o)∨O5 g o,hL,fun g o k=> ?_,fun R' hR hR'=> ?_⟩
    ·rcases k with(k|k)|k
     ·exact .inl (.inl k)
     ·exact .inl (.inr (hO1 g o k))
     ·exact .inr (g2 g o k)
    ·have hd5: ∀g o,(Ob g o∨O2 g o)→O5 g o→False:=fun g o k1 k2=>hdis g o k1 (g2 g o k2)
     have hp1:=hA1 R' (fun g o k=>hR g o (g1.RS g o k)) (fun g o k1 k2=>hR' g o (.inl (.inr k1)) fun m=>by
      rcases m with(m|m)|m
      ·exact hd12 g o m k1
      ·exact k2 m
      ·exact hd5 g o (.inr k1) m)
     refine⟨fun g o=>Ob g o∨O1 g o,O5,fun g o=>Iff.rfl,fun g o k1 k2=>hd5 g o (k1.imp id (hO1 g o)) k2,?_,g3 R' hR fun g o k1 k2=>hR' g o (.inr k1) fun m=>by
      rcases m with(m|m)|m
      ·exact hdis g o (.inl m) k1
      ·exact hdis g o (.inr (hO1 g o m)) k1
      ·exact k2 m⟩
     cases hp1 with
     |sc h _=>exact h.elim
     |agg os3 hn3 hx3 hu3=>
      have hcl:cs.length=row.length:=by simpa[vl]using hn3.symm
      refine AR.obj vs0 os3 (hbf.mono (by rw[←hz];omega)) (fun c hc=>by simpa using List.all_eq_true.1 hcs c hc) (fun k hk=> ?_) (fun k c k1=> ?_) (fun g o=> ?_) (fun k hk o k1 k2 k3=> ?_) (fun k k' hk hk' hne=>hu3.dis k k' hk hk' hne)
      ·have e:=List.getElem?_eq_getElem (l:=row) (i:=k) (by omega)
       exact hc k _ e (hall _ _ e).2
      ·have hk:k<row.length:=by rw[←hcl];exact(List.getElem?_eq_some_iff.1 k1).1
       exact hx3 k c _ k1 (by simp[vl,hk])
      ·rw[hu3.iff,hspan,hcl]
       exact Iff.rfl
      ·refine hd12 l.g o ((hspan _ _).2 ⟨rfl,by omega,by omega⟩) (hO1 _ _ ((hu3.iff _ _).2 ⟨k,hk,k3⟩))
  |_=>exact rest hk hi
theorem Con.of_coreP(hT:T.ok P){f:FuncId}{fn:Func}{c:Code}{as os:List AV}{res:AV}(hf:P.funcs[f]? =some fn)(hn:(fn.name== "runtime.NumGoroutine")=false)(hb:fn.body=some c)(hok:as.all impArgOk=true)
  (hids: ∀b∈objIds e0 as,(enterP (as.length+(fn.ntmps-as.length)) as (objIds e0 as)).m b≠.abs)
  (h:WP P c (retQA T fn.results.toList res fun st=>aftPs e0 as os st∧st.an=objIds e0 as) (enterP (as.length+(fn.ntmps-as.length)) as (objIds e0 as))):Con P f as os res:=by
 refine⟨⟨fn,hf,hn,by rw[hb];rfl⟩,fun w R O vals hp hR hO tb=> ?_⟩
 refine calls_of_wp hf hb ?_
 let E0:Env:=⟨w,R,O,noLoc⟩
 have hvl:=(uni_of_parts _ _ _ hp).1
 let a:Act:={tmps:=vals.toArray++Array.replicate (fn.ntmps-vals.toArray.size) undef,defers:=[]}
 let st0:St:=⟨as.length+(fn.ntmps-as.length),fun _=>.undef,fun _=>.abs,[]⟩
 have hrel0:RelC E0 st0 a w O noLoc (fun _=>none2):=by
  refine⟨fun k=>.sc trivial emp_none2,?_,rfl,fun b _=>⟨rfl,emp_none2⟩,fun b hb=>MB.noConfusion hb,fun b blk hb=>MB.noConfusion hb,fun _ _ _=>emp_none2.disj,fun _=>emp_none2.disj,fun g o k=> ?_,fun g o k=> ?_,Frame.refl w _,fun b hb=>by simp[st0]at hb⟩
  ·simp[st0,a,hvl]
  ·rcases k with⟨_,k⟩|k
   ·exact k.elim
   ·exact hO g o k
  ·rcases k with⟨_,k⟩|k
   ·exact k.elim
   ·exact .inl k
 have hRS: ∀g o,R g o→RS E0 w (Owned (fun _=>none2) O) g o:=fun g o k=>⟨.inl k,(hR g o k).1,fun n=>by
  rcases n with⟨_,n⟩|n
  ·exact n.elim
  ·exact(hR g o k).2 n⟩
 obtain⟨loc',ob',hL,hp'⟩:=imp_args as vals st0 O O none2 noLoc (fun _=>none2) e0 hrel0 (fun g o=>by simp[none2]) emp_none2.disj' (Parts.mono hRS (fun _ _ k=>k) _ _ _ hp) hok (fun p _=>rfl)
 obtain⟨hl',os',h4,h5⟩:=uni_of_parts _ _ _ hp'
 let E:Env:=⟨w,R,O,loc'⟩
 have hrel:Rel E (enterP (as.length+(fn.ntmps-as.length)) as (objIds e0 as)) a w none2:=by
  have hr:=hL.rel
  refine⟨loc',ob',fun k=> ?_,?_,hr.df,hr.ab,hr.dd,hr.lv,hr.db,hr.dx,hr.lt,hr.sub,hr.fr,fun b hb=>⟨rfl,?_⟩⟩
  ·simp only[enterP]
   by_cases hk:k<vals.length
   ·have hx:(impArgs e0 as).1[k]? =some ((impArgs e0 as).1[k]'(by omega)):=by simp
    have hv:vals[k]? =some vals[k]:=by simp
    have ht:a.tmps.getD k undef=vals[k]:=by
     simp only[a]
     rw[Array.getD_eq_getD_getElem?,Array.getElem?_append_left (by simpa using hk)]
     simp[hk]
    rw[ht,List.getD_eq_getElem?_getD,hx]
    exact(h4 k _ _ hx hv).emp_weak (fun g o n=>(h5.iff g o).2 ⟨k,by omega,n⟩) emp_none2
   ·rw[List.getD_eq_getElem?_getD,List.getElem?_eq_none (by omega)]
    exact .sc trivial emp_none2
  ·have:(enterP (as.length+(fn.ntmps-as.length)) as (objIds e0 as)).n=st0.n:=mws_n _ _
   rw[this]
   simp[st0,a,hvl]
  ·have hne:=hids b hb
   cases hm:(enterP (as.length+(fn.ntmps-as.length)) as (objIds e0 as)).m b with
   |abs=>exact absurd hm hne
   |dead=>exact(hr.dd b hm).1
   |live blk=>obtain⟨l,hl⟩:=(hr.lv b blk hm).loc_some;rw[hl];rfl
 have ret: ∀st a' w',Rel E st a' w' none2→retWA T fn.results.toList res (fun st=>aftPs e0 as os st∧st.an=objIds e0 as) st→a'.defers=[]∧ ∃v,(results fn a'.tmps).run P w'=.ok v w'∧Back w R O vals os res (.returned v) w':=by
  intro st a' w' h1 h2
  obtain⟨loc,ob,h1⟩:=h1
  obtain⟨v,O3,O1,X',ob2,st',h3,hL2,⟨hG,han⟩,h6,h7⟩:=retWA_ok hT h1 h2
  obtain⟨st'',X'',ob3,O4,O5,hL3,h8,h9⟩:=aftPs_ok as os vals e0 st' X' ob2 hL2.rel hG (anc_of as vals e0 none2 hp') (fun b hb=>by rw[han];exact hb)
  have hX: ∀g o,O3 g o→X'' g o:=fun g o k=>(hL3.iff g o).2 (.inl ((hL2.iff g o).2 (.inr k)))
  have hX4: ∀g o,O4 g o→X'' g o:=fun g o k=>(hL3.iff g o).2 (.inr k)
  have hd34: ∀g o,O3 g o→O4 g o→False:=fun g o k1 k2=>hL3.dis g o ((hL2.iff g o).2 (.inr k1)) k2
  have sub1: ∀g o,(O1 g o∨O5 g o)→Owned ob3 X'' g o:=fun g o k=>k.elim (fun k=>.inr (hX g o (h6 g o k))) fun k=>.inr (hX4 g o (h8 g o k))
  have hRS3: ∀g o,RS E w' (Owned ob3 X'') g o→RS ⟨w,R,O,noLoc⟩ w' (fun g o=>O1 g o∨O5 g o) g o:=fun g o k=>⟨k.1,k.2.1,fun n=>k.2.2 (sub1 g o n)⟩
  have hex: ∀g o,X'' g o→(E.R0 g o∨E.O0 g o∨E.w0.heap.size≤g)∧g<w'.heap.size:=fun g o k=>⟨(hL3.rel.sub g o (.inr k)).elim (fun k=>.inr (.inl k)) fun k=>.inr (.inr k),hL3.rel.lt g o (.inr k)⟩
  refine⟨h1.df,v,h3,fun g o=>O1 g o∨O5 g o,h1.fr,fun g o k=>⟨hL3.rel.sub g o (sub1 g o k),hL3.rel.lt g o (sub1 g o k)⟩,O1,O5,fun g o=>Iff.rfl,fun g o k1 k2=>hd34 g o (h6 g o k1) (h8 g o k2),?_,?_⟩
  ·refine h7 _ (fun g o k=>hRS3 g o (hL3.RS g o k)) fun g o k n=>⟨(hex g o (hX g o k)).1,(hex g o (hX g o k)).2,fun m=>m.elim n fun m=>hd34 g o k (h8 g o m)⟩
  ·refine h9 _ hRS3 fun g o k n=>⟨(hex g o (hX4 g o k)).1,(hex g o (hX4 g o k)).2,fun m=>m.elim (fun m=>hd34 g o (h6 g o m) k) n⟩
 refine wp_mono (h E tb a w hrel) fun e a' w' hl=> ?_
 cases e with
 |normal=>obtain⟨st,h1,h2⟩:=hl;exact ret st a' w' h2 h1
 |ret=>obtain⟨st,h1,h2⟩:=hl;exact ret st a' w' h2 h1
 |exit id=>obtain⟨st,h1,h2⟩:=hl;exact h1.elim
 |_=>exact hl.elim
end
end Go.Abs
