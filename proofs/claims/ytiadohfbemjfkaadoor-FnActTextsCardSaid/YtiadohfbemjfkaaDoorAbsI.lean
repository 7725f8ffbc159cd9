/- The abstract layer, 20: functions. -/
import Derived.Test.YtiadohfbemjfkaaDoorAbsH
set_option linter.unusedVariables false
set_option linter.unusedSimpArgs false
noncomputable section
namespace Go.Abs
open Go
def expValK(x:AV)(st:St)(K:AV→St→Prop):Prop:=match x with
 | .agg cs=>expLeavesK cs st fun ys st'=>K (.agg ys) st'
 | .ptr b i j=>match i,j with
  |0,0=>match st.m b with
   | .live ⟨arr,_,_,rows⟩=>match arr with
    |false=>match rows with
     |[row]=>Rq (row.all fun c=>c.light&& !c.isUndef) (expLeavesK row (st.mws [(b,.dead)]) fun ys st=>Rq (ys.all fun c=> !c.isUndef) (K (.obj ys) st))
     |_=>False
    |true=>False
   |_=>False
  |_,_=>False
 |v=>(expLeaf v).runK st fun p=>K p.1 (st.mws p.2)
def expValsK:List AV→St→(List AV→St→Prop)→Prop
 |[],st,K=>K [] st
 |x::l,st,K=>expValK x st fun y st1=>expValsK l st1 fun ys st'=>K (y::ys) st'
def Sh(x y:AV):Prop:= ∀(w:World)(R O:Cells)(v:Value),AR w R noLoc x v O→(∀g o,O g o→g<w.heap.size)→ ∃O1,(∀g o,O1 g o→O g o)∧ ∀R':Cells,(∀g o,R g o→R' g o)→(∀g o,O g o→ ¬O1 g o→R' g o)→AR w R' noLoc y v O1
def Shs:List AV→List AV→Prop
 |[],[]=>True
 |x::l,y::r=>Sh x y∧Shs l r
 |_,_=>False
def slotsP(T:TT):List ResultVar→RP (List AV)
 |[]=>.ret []
 |r::l=>(match r with
  | .tmp t=>RP.tmp t .ret
  | .cell b t=>(evLoad T t (.tmp b)).bind fun r=>.ret r.1).bind fun x=>(slotsP T l).bind fun xs=>.ret (x::xs)
def retX(res:AV)(st:St)(xs:List AV):Prop:=match xs with
 |[x]=>expValK x st fun y _=>Sh y res
 |xs=>expValsK xs st fun ys _=>Sh (.tup ys) res
def retW(T:TT)(rs:List ResultVar)(res:AV)(st:St):Prop:=(slotsP T rs).runK st (retX res st)
def retQ(T:TT)(rs:List ResultVar)(res:AV):Ex→St→Prop
 | .ret,st=>retW T rs res st
 | .normal,st=>retW T rs res st
 |_,_=>False
def e0:Nat:=500000
def enter(n:Nat)(as:List AV):St:={St.mws ⟨n,fun _=>.undef,fun _=>.abs,[]⟩ (impVals e0 as).2 with t:=fun k=>(impVals e0 as).1.getD k .undef}
section
variable{P:Program}{T:TT}{E:Env}{o:Oper}{st:St}{a:Act}{w:World}{X:Cells}{loc:Locs}{ob:Nat→Cells}{r:Res}{Q Q':Ex→St→Prop}
theorem Sh.refl(x:AV):Sh x x:=fun w R O v h _=>⟨O,fun _ _ k=>k,fun R' hR _=>h.weak hR fun _ _ k=>k⟩
theorem Sh.lvl{lvl lvl':Nat}(hl:lvl≤lvl')(z:List AV)(rows:List (List AV)):Sh (.own lvl z rows) (.own lvl' z rows):=fun w R O v h _=>by
 cases h with
 |sc h e=>exact h.elim
 |own0 e=>exact⟨O,fun _ _ k=>k,fun R' _ _=>.own0 e⟩
 |own vs os hcap hb hw hc hx hO hd hdd h0 h1 hm=>
  exact⟨O,fun _ _ k=>k,fun R' hR _=>.own vs os hcap hb hw hc (fun i j row x h1 h2=>(hx i j row x h1 h2).weak hR fun _ _ k=>k) hO hd hdd (fun e=>h0 (by omega)) (fun e=>h1 (by omega)) hm⟩
theorem Sh.trans{x y z:AV}(h1:Sh x y)(h2:Sh y z):Sh x z:=fun w R O v h hl=>by
 obtain⟨O1,hs1,k1⟩:=h1 w R O v h hl
 obtain⟨O2,hs2,k2⟩:=h2 w (fun g o=>R g o∨(O g o∧ ¬O1 g o)) O1 v (k1 _ (fun _ _ k=>.inl k) fun _ _ k n=>.inr ⟨k,n⟩) (fun g o k=>hl g o (hs1 g o k))
 refine⟨O2,fun g o k=>hs1 g o (hs2 g o k),fun R' hR hR'=>k2 R' (fun g o k=> ?_) (fun g o k n=>hR' g o (hs1 g o k) n)⟩
 rcases k with k|⟨k,n⟩
 ·exact hR g o k
 ·exact hR' g o k fun k2=>n (hs2 g o k2)
theorem sh_parts{R:Cells}: ∀(xs ys:List AV)(vs:List Value)(O:Cells),Shs xs ys→Parts w R noLoc xs vs O→(∀g o,O g o→g<w.heap.size)→ ∃O1,(∀g o,O1 g o→O g o)∧ ∀R':Cells,(∀g o,R g o→R' g o)→(∀g o,O g o→ ¬O1 g o→R' g o)→Parts w R' noLoc ys vs O1
 |[],[],[],O,_,h,_=>⟨O,fun _ _ k=>k,fun _ _ _=>h⟩
 |[],[],_::_,_,_,h,_=>h.elim
 |[],_::_,_,_,h,_,_=>h.elim
 |_::_,[],_,_,h,_,_=>h.elim
 |x::xs,y::ys,[],_,_,h,_=>h.elim
 |x::xs,y::ys,v::vs,O,⟨hs,hf⟩,⟨O1,O2,hO,hd,hx,hp⟩,hl=>by
   obtain⟨Oa,ha1,ha2⟩:=hs w R O1 v hx fun g o k=>hl g o ((hO g o).2 (.inl k))
   obtain⟨Ob,hb1,hb2⟩:=sh_parts xs ys vs O2 hf hp fun g o k=>hl g o ((hO g o).2 (.inr k))
   refine⟨fun g o=>Oa g o∨Ob g o,fun g o k=>(hO g o).2 (k.imp (ha1 g o) (hb1 g o)),fun R' hR hR'=>⟨Oa,Ob,fun g o=>Iff.rfl,fun g o k1 k2=>hd g o (ha1 g o k1) (hb1 g o k2),?_,?_⟩⟩
   ·exact ha2 R' hR fun g o k n=>hR' g o ((hO g o).2 (.inl k)) fun k'=>k'.elim n fun k'=>hd g o k (hb1 g o k')
   ·exact hb2 R' hR fun g o k n=>hR' g o ((hO g o).2 (.inr k)) fun k'=>k'.elim (fun k'=>hd g o (ha1 g o k') k) n
theorem Sh.agg{xs ys:List AV}(h:Shs xs ys):Sh (.agg xs) (.agg ys):=fun w R O v hx hl=>by
 cases hx with
 |sc h _=>exact h.elim
 | @agg _ _ vs _ os hn hxx hu=>
  obtain⟨O1,h1,h2⟩:=sh_parts xs ys vs.toList O h (parts_of_uni xs vs.toList os O (by simpa using hn) (fun k x v h1 h2=>hxx k x v h1 (by simpa using h2)) hu) hl
  refine⟨O1,h1,fun R' hR hR'=> ?_⟩
  obtain⟨h3,os',h4,h5⟩:=uni_of_parts _ _ _ (h2 R' hR hR')
  exact .agg os' (by simpa using h3) (fun k x v h6 h7=>h4 k x v h6 (by simpa using h7)) h5
theorem Sh.tup{xs ys:List AV}(h:Shs xs ys):Sh (.tup xs) (.tup ys):=fun w R O v hx hl=>by
 cases hx with
 |sc h _=>exact h.elim
 | @tup _ _ vs _ os hn hxx hu=>
  obtain⟨O1,h1,h2⟩:=sh_parts xs ys vs.toList O h (parts_of_uni xs vs.toList os O (by simpa using hn) (fun k x v h1 h2=>hxx k x v h1 (by simpa using h2)) hu) hl
  refine⟨O1,h1,fun R' hR hR'=> ?_⟩
  obtain⟨h3,os',h4,h5⟩:=uni_of_parts _ _ _ (h2 R' hR hR')
  exact .tup os' (by simpa using h3) (fun k x v h6 h7=>h4 k x v h6 (by simpa using h7)) h5
theorem exp_obj(h:RelC E st a w X loc ob){b:Nat}{v:Value}(hx:AR w (RS E w (Owned ob X)) loc (.ptr b 0 0) v none2){lvl:Nat}{z row:List AV}(hm:st.m b=.live ⟨false,lvl,z,[row]⟩)
  (hrow:(row.all fun c=>c.light&& !c.isUndef)=true){K:List AV→St→Prop}(hk:expLeavesK row (st.mws [(b,.dead)]) fun ys st=>Rq (ys.all fun c=> !c.isUndef) (K ys st)):
  ∃ys st' X' ob' O,K ys st'∧Left E a w X loc ob st' X' ob' O∧AR w (RS E w (Owned ob' X')) noLoc (.obj ys) v O:=by
 obtain⟨l,hloc,_,_,rfl⟩:=hx.inv_ptr
 have hat:=h.lv b _ hm
 generalize hob:ob b=Ob at hat
 cases hat with
 |var l' vs0 os0 hl' hbd hs hn hz hbf hc hxx hO hd hdd=>
  rw[hloc]at hl';injection hl' with hl';subst hl'
  have hall: ∀(k:Nat) c,row[k]? =some c→c.light=true∧c.isUndef=false:=fun k c h1=>by
   have:=List.all_eq_true.1 hrow c (List.mem_of_getElem? h1)
   simpa using this
  have hemp: ∀(k:Nat) c,row[k]? =some c→Emp (os0 k):=fun k c h1=>(hxx k c h1 (hall k c h1).2).light_emp (hall k c h1).1
  have hspan: ∀g o,Ob g o↔span l 0 row.length g o:=by
   intro g o
   rw[hO]
   constructor
   ·rintro ⟨k,c,e1,e2,⟨rfl,rfl⟩|e3⟩
    ·have:k<row.length:=(List.getElem?_eq_some_iff.1 e1).1
     exact⟨rfl,by omega,by omega⟩
    ·exact(hemp k c e1 g o e3).elim
   ·rintro ⟨rfl,e1,e2⟩
    have hlt:o-l.base<row.length:=by omega
    have e:=List.getElem?_eq_getElem hlt
    exact⟨o-l.base,_,e,(hall _ _ e).2,.inl ⟨rfl,by omega⟩⟩
  have hown: ∀g o,Owned (upd ob b none2) (fun g o=>X g o∨Ob g o) g o↔Owned ob X g o:=by
   intro g o
   constructor
   ·rintro (⟨b',k⟩|k|k)
    ·by_cases hbb:b'=b
     ·subst hbb;simp only[upd,if_true]at k;exact k.elim
     ·simp only[upd,hbb,if_false]at k;exact .inl ⟨b',k⟩
    ·exact .inr k
    ·exact .inl ⟨b,by rw[hob];exact k⟩
   ·rintro (⟨b',k⟩|k)
    ·by_cases hbb:b'=b
     ·subst hbb;rw[hob]at k;exact .inr (.inr k)
     ·exact .inl ⟨b',by simpa only[upd,hbb,if_false]using k⟩
    ·exact .inr (.inl k)
  have hrel1:=h.part (b:=b) (m:=.dead) (Ob:=none2) (X':=fun g o=>X g o∨Ob g o) hown ⟨by rw[hloc];rfl,emp_none2⟩ (fun b' hne g o k1 k2=>k2.elim) (fun b' hne g o k1 k2=>by
   rcases k2 with k2|k2
   ·exact h.dx b' g o k1 k2
   ·exact h.db b' b hne g o k1 (hob▸k2)) (fun g o k1=>k1.elim)
  have hL1:Left E a w X loc ob _ (fun g o=>X g o∨Ob g o) _ Ob:=⟨hrel1,fun g o=>Iff.rfl,fun g o k1 k2=>h.dx b g o (hob▸k2) k1,fun g o k=>(hown g o).1 k⟩
  let vl:List Value:=(List.range row.length).map vs0
  obtain⟨ys,st2,X2,ob2,O2,⟨hcs,hk2⟩,hL2,hp⟩:=expLeavesK_ok row vl _ _ _ _ hrel1 (by simp[vl]) (fun k c u h1 h2=>by
   have hkn:k<row.length:=(List.getElem?_eq_some_iff.1 h1).1
   have:u=vs0 k:=by simpa[vl,hkn]using h2.symm
   subst this
   exact((hxx k c h1 (hall k c h1).2).emp_weak (hemp k c h1) emp_none2).weak hL1.RS fun _ _ k=>k) hk
  obtain⟨hL12,hd12⟩:=hL1.trans hL2
  obtain⟨hyl,os2,hy,hu⟩:=uni_of_parts _ _ _ hp
  have hcl:ys.length=row.length:=by simpa[vl]using hyl.symm
  refine⟨ys,st2,X2,ob2,_,hk2,hL12,?_⟩
  simp only[Nat.zero_mul,Nat.add_zero]
  refine AR.obj vs0 os2 (hbf.mono (by rw[←hz];omega)) (fun c hc=>by simpa using List.all_eq_true.1 hcs c hc) (fun k hk=> ?_) (fun k c k1=> ?_) (fun g o=> ?_) (fun k hk o k1 k2 k3=> ?_) (fun k k' hk hk' hne=>hu.dis k k' hk hk' hne)
  ·have e:=List.getElem?_eq_getElem (l:=row) (i:=k) (by omega)
   exact hc k _ e (hall _ _ e).2
  ·have hk:k<row.length:=by rw[←hcl];exact(List.getElem?_eq_some_iff.1 k1).1
   exact hy k c _ k1 (by simp[vl,hk])
  ·rw[hu.iff,hspan,hcl]
   exact Iff.rfl
  ·exact hd12 l.g o ((hspan _ _).2 ⟨rfl,by omega,by omega⟩) ((hu.iff _ _).2 ⟨k,hk,k3⟩)
theorem expValK_ok(h:RelC E st a w X loc ob){x:AV}{v:Value}(hx:AR w (RS E w (Owned ob X)) loc x v none2){K:AV→St→Prop}(hk:expValK x st K):
  ∃y st' X' ob' O,K y st'∧Left E a w X loc ob st' X' ob' O∧AR w (RS E w (Owned ob' X')) noLoc y v O:=by
 cases x with
 |agg cs=>
  obtain⟨vs,rfl,hvl,hvx⟩:=hx.inv_agg
  obtain⟨ys,st',X',ob',O,hK,hL,hp⟩:=expLeavesK_ok cs vs.toList st X ob _ h (by simpa using hvl) (fun k x v h5 h6=>hvx k x v h5 (by simpa using h6)) hk
  obtain⟨h3,os',h4,h5⟩:=uni_of_parts _ _ _ hp
  exact⟨_,st',X',ob',O,hK,hL,.agg os' (by simpa using h3) (fun k x v h6 h7=>h4 k x v h6 (by simpa using h7)) h5⟩
 |ptr b i j=>
  unfold expValK at hk
  simp only at hk
  split at hk
  case h_2=>exact hk.elim
  split at hk
  case h_2=>exact hk.elim
  rename_i hm
  split at hk
  case h_2=>exact hk.elim
  split at hk
  case h_2=>exact hk.elim
  obtain⟨hq,hk⟩:=hk
  obtain⟨ys,st',X',ob',O,h1,h2,h3⟩:=exp_obj h hx hm hq hk
  exact⟨_,st',X',ob',O,h1,h2,h3⟩
 |_=>
  obtain⟨p,hp,hk⟩:=runK_run hk
  obtain⟨X1,ob1,O1,hL1,hy⟩:=expLeaf_ok h hx hp
  exact⟨_,_,X1,ob1,O1,hk,hL1,hy⟩
theorem expValsK_ok: ∀(l:List AV)(vs:List Value)(st:St)(X:Cells)(ob:Nat→Cells)(K:List AV→St→Prop),RelC E st a w X loc ob→vs.length=l.length→
  (∀(k:Nat) x v,l[k]? =some x→vs[k]? =some v→AR w (RS E w (Owned ob X)) loc x v none2)→expValsK l st K→
  ∃ys st' X' ob' O,K ys st'∧Left E a w X loc ob st' X' ob' O∧Parts w (RS E w (Owned ob' X')) noLoc ys vs O
 |[],[],st,X,ob,K,h,_,_,hk=>⟨[],st,X,ob,none2,hk,Left.refl h,emp_none2⟩
 |[],_::_,_,_,_,_,_,hl,_,_=>by simp at hl
 |_::_,[],_,_,_,_,_,hl,_,_=>by simp at hl
 |x::l,v::vs,st,X,ob,K,h,hl,hx,hk=>by
  obtain⟨y,st1,X1,ob1,O1,hk,hL1,hy⟩:=expValK_ok h (hx 0 x v (by simp) (by simp)) hk
  obtain⟨ys,st',X2,ob2,O2,hK,hL2,hp2⟩:=expValsK_ok l vs _ X1 ob1 _ hL1.rel (by simpa using hl) (fun k y u h1 h2=>(hx (k+1) y u (by simpa using h1) (by simpa using h2)).weak hL1.RS fun _ _ k=>k) hk
  obtain⟨hL,hd⟩:=hL1.trans hL2
  exact⟨y::ys,st',X2,ob2,_,hK,hL,O1,O2,fun g o=>Iff.rfl,hd,hy.weak hL2.RS fun _ _ k=>k,hp2⟩
theorem slots_vals(hT:T.ok P)(h:RelC E st a w X loc ob): ∀(rs:List ResultVar)(xs:List AV),(slotsP T rs).run st=some xs→ ∃vs:List Value,vs.length=xs.length∧
  (∀(k:Nat) x v,xs[k]? =some x→vs[k]? =some v→AR w (RS E w (Owned ob X)) loc x v none2)∧
  (rs.mapM (fun(r:ResultVar)=>match r with
   | .tmp t=>(Pure.pure (a.tmps.getD t undef):Sem Value)
   | .cell b t=>(do loadVar t (←asAddr (a.tmps.getD b undef)):Sem Value))).run P w=.ok vs w
 |[],xs,hs=>by
  obtain rfl:=ret_some (st:=st) hs
  exact⟨[],rfl,fun k x v h1=>by simp at h1,by simp[List.mapM_nil]⟩
 |r::l,xs,hs=>by
  obtain⟨x,hx,hs1⟩:=bind_some hs
  obtain⟨ys,h1,hs2⟩:=bind_some hs1
  obtain rfl:=ret_some hs2
  obtain⟨vs,h2,h3,h4⟩:=slots_vals hT h l ys h1
  have key: ∃u,AR w (RS E w (Owned ob X)) loc x u none2∧(match r with
   | .tmp t=>(Pure.pure (a.tmps.getD t undef):Sem Value)
   | .cell b t=>(do loadVar t (←asAddr (a.tmps.getD b undef)):Sem Value)).run P w=.ok u w:=by
   cases r with
   |tmp t=>obtain rfl:=ret_some (st:=st) hx;exact⟨_,h.tm t,rfl⟩
   |cell b t=>
    obtain⟨q,hq,hx1⟩:=bind_some hx
    obtain rfl:=ret_some hx1
    obtain⟨ad,u,hp,hl,hxx,_⟩:=load_val hT h hq
    refine⟨u,hxx,?_⟩
    have hp':a.tmps.getD b undef=.pointer (some ad):=hp
    simp only[hp',asAddr,Sem.run_bind,Sem.run_pure,Result.andThen_ok,hl]
  obtain⟨u,hxx,hru⟩:=key
  refine⟨u::vs,by simp[h2],fun k x v k1 k2=> ?_,?_⟩
  ·cases k with
   |zero=>
    simp only[List.getElem?_cons_zero,Option.some.injEq]at k1 k2
    subst k1;subst k2
    exact hxx
   |succ k=>exact h3 k x v (by simpa using k1) (by simpa using k2)
  ·rw[List.mapM_cons]
   simp only[Sem.run_bind,Sem.run_pure,Result.andThen_ok,hru]
   rw[h4]
   rfl
theorem retW_ok(hT:T.ok P)(h:Rel E st a w none2){fn:Func}{res:AV}(hk:retW T fn.results.toList res st): ∃v O',(results fn a.tmps).run P w=.ok v w∧(∀g o,O' g o→(E.O0 g o∨E.w0.heap.size≤g)∧g<w.heap.size)∧AR w (RS E w O') noLoc res v O':=by
 obtain⟨loc,ob,h⟩:=h
 obtain⟨xs,hs,hk⟩:=runK_run hk
 obtain⟨vs,hvl,hvx,hrun⟩:=slots_vals hT h _ _ hs
 have hres:(results fn a.tmps).run P w=.ok (if h:vs.toArray.size=1 then vs.toArray[0]else .tuple vs.toArray) w:=by
  unfold results
  rw[Array.mapM_eq_mapM_toList,Sem.run_bind,Sem.run_map]
  exact(congrArg (fun r:Go.Result (List Value)=>((Go.Result.andThen r fun a w'=>.ok a.toArray w').andThen fun a w'=>Sem.run P (Pure.pure (if h:a.size=1 then a[0]else Value.tuple a)) w')) hrun).trans rfl
 have fin: ∀(y:AV)(v:Value)(X' O:Cells)(ob':Nat→Cells)(st':St),Left E a w none2 loc ob st' X' ob' O→AR w (RS E w (Owned ob' X')) noLoc y v O→Sh y res→
   ∃O',(∀g o,O' g o→(E.O0 g o∨E.w0.heap.size≤g)∧g<w.heap.size)∧AR w (RS E w O') noLoc res v O':=by
  intro y v X' O ob' st' hL hy hs
  have hOX: ∀g o,O g o→Owned ob' X' g o:=fun g o k=>.inr ((hL.iff g o).2 (.inr k))
  obtain⟨O1,h1,h2⟩:=hs w _ O v hy fun g o k=>hL.rel.lt g o (hOX g o k)
  refine⟨O1,fun g o k=>⟨hL.rel.sub g o (hOX g o (h1 g o k)),hL.rel.lt g o (hOX g o (h1 g o k))⟩,h2 _ (fun g o k=>⟨k.1,k.2.1,fun n=>k.2.2 (hOX g o (h1 g o n))⟩) fun g o k n=>⟨?_,hL.rel.lt g o (hOX g o k),n⟩⟩
  exact(hL.rel.sub g o (hOX g o k)).elim (fun k=>.inr (.inl k)) fun k=>.inr (.inr k)
 unfold retX at hk
 split at hk
 ·rename_i x
  obtain⟨v,rfl⟩: ∃v,vs=[v]:=by
   match vs,hvl with
   |[v],_=>exact⟨v,rfl⟩
  obtain⟨y,st',X',ob',O,hK,hL,hy⟩:=expValK_ok h (hvx 0 x v (by simp) (by simp)) hk
  obtain⟨O',h1,h2⟩:=fin y v X' O ob' st' hL hy hK
  exact⟨v,O',hres,h1,h2⟩
 ·rename_i hne
  obtain⟨ys,st',X',ob',O,hK,hL,hp⟩:=expValsK_ok _ vs st none2 ob _ h hvl hvx hk
  obtain⟨h3,os',h4,h5⟩:=uni_of_parts _ _ _ hp
  obtain⟨O',h1,h2⟩:=fin (.tup ys) (.tuple vs.toArray) X' O ob' st' hL (.tup os' (by simpa using h3) (fun k x v h6 h7=>h4 k x v h6 (by simpa using h7)) h5) hK
  refine⟨.tuple vs.toArray,O',?_,h1,h2⟩
  rw[hres,dif_neg]
  intro h1
  have hl1:xs.length=1:=by rw[←hvl];simpa using h1
  obtain⟨x,hx⟩:=List.length_eq_one_iff.1 hl1
  exact hne x hx
theorem Con.of_WP(hT:T.ok P){f:FuncId}{fn:Func}{c:Code}{as:List AV}{res:AV}(hf:P.funcs[f]? =some fn)(hn:(fn.name== "runtime.NumGoroutine")=false)(hb:fn.body=some c)(hok:as.all impValOk=true)
  (h:WP P c (retQ T fn.results.toList res) (enter (as.length+(fn.ntmps-as.length)) as)):Con P f as (undefs as) res:=by
 refine⟨⟨fn,hf,hn,by rw[hb];rfl⟩,fun w R O vals hp hR hO tb=> ?_⟩
 refine calls_of_wp hf hb ?_
 let E:Env:=⟨w,R,O,noLoc⟩
 have hvl:=(uni_of_parts _ _ _ hp).1
 let a:Act:={tmps:=vals.toArray++Array.replicate (fn.ntmps-vals.toArray.size) undef,defers:=[]}
 let st0:St:=⟨as.length+(fn.ntmps-as.length),fun _=>.undef,fun _=>.abs,[]⟩
 have hrel0:RelC E st0 a w O noLoc (fun _=>none2):=by
  refine⟨fun k=>.sc trivial emp_none2,?_,rfl,fun b _=>⟨rfl,emp_none2⟩,fun b hb=>MB.noConfusion hb,fun b blk hb=>MB.noConfusion hb,fun _ _ _=>emp_none2.disj,fun _=>emp_none2.disj,fun g o k=> ?_,fun g o k=> ?_,Frame.refl w _,fun b hb=>by simp[st0]at hb⟩
  ·simp[st0,a,hvl]
  ·rcases k with⟨_,k⟩|k
   ·exact k.elim
   ·exact hO g o k
  ·rcases k with⟨_,k⟩|k
   ·exact k.elim
   ·exact .inl k
 have hRS: ∀g o,R g o→RS E w (Owned (fun _=>none2) O) g o:=fun g o k=>⟨.inl k,(hR g o k).1,fun n=>by
  rcases n with⟨_,n⟩|n
  ·exact n.elim
  ·exact(hR g o k).2 n⟩
 obtain⟨loc',ob',hL,hp'⟩:=imp_vals as vals st0 O O none2 noLoc (fun _=>none2) e0 hrel0 (fun g o=>by simp[none2]) emp_none2.disj' (Parts.mono hRS (fun _ _ k=>k) _ _ _ hp) hok (fun p _=>rfl)
 obtain⟨hl',os',h4,h5⟩:=uni_of_parts _ _ _ hp'
 have hrel:Rel E (enter (as.length+(fn.ntmps-as.length)) as) a w none2:=by
  have hr:=hL.rel
  refine⟨loc',ob',fun k=> ?_,?_,hr.df,hr.ab,hr.dd,hr.lv,hr.db,hr.dx,hr.lt,hr.sub,hr.fr,fun b hb=> ?_⟩
  ·simp only[enter]
   by_cases hk:k<vals.length
   ·have hx:(impVals e0 as).1[k]? =some ((impVals e0 as).1[k]'(by omega)):=by simp
    have hv:vals[k]? =some vals[k]:=by simp
    have ht:a.tmps.getD k undef=vals[k]:=by
     simp only[a]
     rw[Array.getD_eq_getD_getElem?,Array.getElem?_append_left (by simpa using hk)]
     simp[hk]
    rw[ht,List.getD_eq_getElem?_getD,hx]
    exact(h4 k _ _ hx hv).emp_weak (fun g o n=>(h5.iff g o).2 ⟨k,by omega,n⟩) emp_none2
   ·rw[List.getD_eq_getElem?_getD,List.getElem?_eq_none (by omega)]
    exact .sc trivial emp_none2
  ·have:(enter (as.length+(fn.ntmps-as.length)) as).n=st0.n:=mws_n _ _
   rw[this]
   simp[st0,a,hvl]
  ·have:(enter (as.length+(fn.ntmps-as.length)) as).an=[]:=mws_an _ _
   rw[this]at hb
   simp at hb
 have ret: ∀st a' w',Rel E st a' w' none2→retW T fn.results.toList res st→a'.defers=[]∧ ∃v,(results fn a'.tmps).run P w'=.ok v w'∧Back w R O vals (undefs as) res (.returned v) w':=by
  intro st a' w' h1 h2
  obtain⟨v,O',h3,h6,h7⟩:=retW_ok hT h1 h2
  obtain⟨loc,ob,h1⟩:=h1
  refine⟨h1.df,v,h3,O',h1.fr,h6,O',none2,fun g o=>by simp[none2],emp_none2.disj',h7,?_⟩
  have: ∀(l:List AV)(vs:List Value),vs.length=l.length→Parts w' (RS ⟨w,R,O,noLoc⟩ w' O') noLoc (undefs l) vs none2:=by
   intro l
   induction l with
   |nil=>intro vs hl;match vs,hl with|[],_=>exact emp_none2
   |cons x l ih=>
    intro vs hl
    match vs,hl with
    |v::vs,hl=>exact⟨none2,none2,fun g o=>by simp[none2],emp_none2.disj,.sc trivial emp_none2,ih vs (by simpa using hl)⟩
  exact this as vals hvl
 refine wp_mono (h E tb a w hrel) fun e a' w' hl=> ?_
 cases e with
 |normal=>obtain⟨st,h1,h2⟩:=hl;exact ret st a' w' h2 h1
 |ret=>obtain⟨st,h1,h2⟩:=hl;exact ret st a' w' h2 h1
 |exit id=>obtain⟨st,h1,h2⟩:=hl;exact h1.elim
 |_=>exact hl.elim
def AV.rowsN:AV→Option Nat
 | .own _ _ rows=>some rows.length
 |_=>none
def retXA(res:AV)(G:St→Prop)(st:St)(xs:List AV):Prop:=match xs with
 |[x]=>expValK x st fun y st'=>Sh y res∧G st'
 |xs=>expValsK xs st fun ys st'=>Sh (.tup ys) res∧G st'
def retWA(T:TT)(rs:List ResultVar)(res:AV)(G:St→Prop)(st:St):Prop:=(slotsP T rs).runK st (retXA res G st)
def retQA(T:TT)(rs:List ResultVar)(res:AV)(G:St→Prop):Ex→St→Prop
 | .ret,st=>retWA T rs res G st
 | .normal,st=>retWA T rs res G st
 |_,_=>False
theorem retWA_ok(hT:T.ok P){G:St→Prop}(h:RelC E st a w none2 loc ob){fn:Func}{res:AV}(hk:retWA T fn.results.toList res G st): ∃v O O1 X' ob' st',(results fn a.tmps).run P w=.ok v w∧Left E a w none2 loc ob st' X' ob' O∧G st'∧
  (∀g o,O1 g o→O g o)∧ ∀R':Cells,(∀g o,RS E w (Owned ob' X') g o→R' g o)→(∀g o,O g o→ ¬O1 g o→R' g o)→AR w R' noLoc res v O1:=by
 obtain⟨xs,hs,hk⟩:=runK_run hk
 obtain⟨vs,hvl,hvx,hrun⟩:=slots_vals hT h _ _ hs
 have hres:(results fn a.tmps).run P w=.ok (if h:vs.toArray.size=1 then vs.toArray[0]else .tuple vs.toArray) w:=by
  unfold results
  rw[Array.mapM_eq_mapM_toList,Sem.run_bind,Sem.run_map]
  exact(congrArg (fun r:Go.Result (List Value)=>((Go.Result.andThen r fun a w'=>.ok a.toArray w').andThen fun a w'=>Sem.run P (Pure.pure (if h:a.size=1 then a[0]else Value.tuple a)) w')) hrun).trans rfl
 have fin: ∀(y:AV)(v:Value)(X' O:Cells)(ob':Nat→Cells)(st':St),Left E a w none2 loc ob st' X' ob' O→AR w (RS E w (Owned ob' X')) noLoc y v O→Sh y res→
   ∃O1,(∀g o,O1 g o→O g o)∧ ∀R':Cells,(∀g o,RS E w (Owned ob' X') g o→R' g o)→(∀g o,O g o→ ¬O1 g o→R' g o)→AR w R' noLoc res v O1:=by
  intro y v X' O ob' st' hL hy hs
  have hOX: ∀g o,O g o→Owned ob' X' g o:=fun g o k=>.inr ((hL.iff g o).2 (.inr k))
  exact hs w _ O v hy fun g o k=>hL.rel.lt g o (hOX g o k)
 unfold retXA at hk
 split at hk
 ·rename_i x
  obtain⟨v,rfl⟩: ∃v,vs=[v]:=by
   match vs,hvl with
   |[v],_=>exact⟨v,rfl⟩
  obtain⟨y,st',X',ob',O,⟨hK,hG⟩,hL,hy⟩:=expValK_ok h (hvx 0 x v (by simp) (by simp)) hk
  obtain⟨O1,h1,h2⟩:=fin y v X' O ob' st' hL hy hK
  exact⟨v,O,O1,X',ob',st',hres,hL,hG,h1,h2⟩
 ·rename_i hne
  obtain⟨ys,st',X',ob',O,⟨hK,hG⟩,hL,hp⟩:=expValsK_ok _ vs st none2 ob _ h hvl hvx hk
  obtain⟨h3,os',h4,h5⟩:=uni_of_parts _ _ _ hp
  obtain⟨O1,h1,h2⟩:=fin (.tup ys) (.tuple vs.toArray) X' O ob' st' hL (.tup os' (by simpa using h3) (fun k x v h6 h7=>h4 k x v h6 (by simpa using h7)) h5) hK
  refine⟨.tuple vs.toArray,O,O1,X',ob',st',?_,hL,hG,h1,h2⟩
  rw[hres,dif_neg]
  intro h1
  have hl1:xs.length=1:=by rw[←hvl];simpa using h1
  obtain⟨x,hx⟩:=List.length_eq_one_iff.1 hl1
  exact hne x hx
end
end Go.Abs
