import Derived.Test.YthfphedhlnoffaaGreatDoorLF
import Derived.Deep.LoopGhost
import Derived.Below
import Derived.Orders
/- The abstract layer, 19: code and functions. -/
set_option linter.unusedVariables false
set_option linter.unusedSimpArgs false
noncomputable section
namespace Go.Abs
open Go
inductive Ex where
 |normal|exit (id:Nat)|ret
def Lift(E:Env)(Q:Ex→St→Prop):Exit→Act→World→Prop
 | .normal,a,w=> ∃st,Q .normal st∧Rel E st a w ae
 | .exit id,a,w=> ∃st,Q (.exit id) st∧Rel E st a w ae
 | .ret,a,w=> ∃st,Q .ret st∧Rel E st a w ae
 |_,_,_=>False
def WP(P:Program)(c:Code)(Q:Ex→St→Prop)(st:St):Prop:= ∀E,Tabs P E.w0 E.O0→ ∀a w,Rel E st a w ae→c.wp P (Lift E Q) a w
def Ky(P:Program)(c:Code)(Q:Ex→St→Prop):Ex→St→Prop
 | .normal,st=>WP P c Q st
 |e,st=>Q e st
def wN(id:Nat)(Q:Ex→St→Prop):Ex→St→Prop
 | .exit i,st=>if i=id then Q .normal st else Q (.exit i) st
 |e,st=>Q e st
def HI(K:St→Prop)(Q:Ex→St→Prop):Ex→St→Prop
 | .normal,st=>K st
 |e,st=>Q e st
def ul(st:St)(c:Operand)(b:Bool):St:=match c with
 | .tmp k=>st.put (some k) (.bool b)
 |_=>st
def Ev(P:Program)(x y:Code)(Q:Ex→St→Prop)(st:St)(c:Operand):AV→Prop
 | .bool b=>Br b (WP P x Q (ul st c true)) (WP P y Q (ul st c false))
 |_=>False
section
variable{P:Program}{T:TT}{E:Env}{o:Oper}{st:St}{a:Act}{w:World}{X:Cells}{loc:bG}{ob:Nat→Cells}{r:di}{Q Q':Ex→St→Prop}
theorem Lift.mono{Q1 Q2:Exit→Act→World→Prop}{e:Exit}(h:Lift E Q e a w)(hn: ∀st,Q .normal st→Rel E st a w ae→e=.normal→Q2 e a w)(he: ∀id st,Q (.exit id) st→Rel E st a w ae→e=.exit id→Q2 e a w)
  (hr: ∀st,Q .ret st→Rel E st a w ae→e=.ret→Q2 e a w):Q2 e a w:=by
 cases e with
 |normal=>obtain⟨st,h1,h2⟩:=h;exact hn st h1 h2 rfl
 |exit id=>obtain⟨st,h1,h2⟩:=h;exact he id st h1 h2 rfl
 |ret=>obtain⟨st,h1,h2⟩:=h;exact hr st h1 h2 rfl
 |_=>exact h.elim
theorem WP.mono{c:Code}(h:WP P c Q st)(hq: ∀e st,Q e st→Q' e st):WP P c Q' st:=fun E tb a w hr=>
 wp_mono (h E tb a w hr) fun e a w hl=>by
  cases e with
  |normal=>obtain⟨s,h1,h2⟩:=hl;exact⟨s,hq _ _ h1,h2⟩
  |exit id=>obtain⟨s,h1,h2⟩:=hl;exact⟨s,hq _ _ h1,h2⟩
  |ret=>obtain⟨s,h1,h2⟩:=hl;exact⟨s,hq _ _ h1,h2⟩
  |_=>exact hl.elim
theorem WP.skip(h:Q .normal st):WP P .skip Q st:=fun E tb a w hr=>wp_skip ⟨st,h,hr⟩
theorem WP.label{l:Nat}(h:Q .normal st):WP P (.label l) Q st:=fun E tb a w hr=>wp_label ⟨st,h,hr⟩
theorem WP.ret(h:Q .ret st):WP P .ret Q st:=fun E tb a w hr=>wp_ret ⟨st,h,hr⟩
theorem WP.exit{id:Nat}(h:Q (.exit id) st):WP P (.exit id) Q st:=fun E tb a w hr=>wp_exit ⟨st,h,hr⟩
theorem WP.seq{x y:Code}(h:WP P x (Ky P y Q) st):WP P (.seq x y) Q st:=fun E tb a w hr=>
 wp_seq (wp_mono (h E tb a w hr) fun e a' w' hl=>by
  cases e with
  |normal=>obtain⟨s,h1,h2⟩:=hl;exact h1 E tb a' w' h2
  |exit id=>exact hl
  |ret=>exact hl
  |_=>exact hl.elim)
theorem WP.block{id:Nat}{c:Code}(h:WP P c (wN id Q) st):WP P (.block id c) Q st:=fun E tb a w hr=>
 wp_block (wp_mono (h E tb a w hr) fun e a' w' hl=>by
  cases e with
  |normal=>exact hl
  |exit i=>
   obtain⟨s,h1,h2⟩:=hl
   simp only[Exit.inBlock]
   simp only[wN]at h1
   split
   ·rename_i hi;rw[if_pos hi]at h1;exact⟨s,h1,h2⟩
   ·rename_i hi;rw[if_neg hi]at h1;exact⟨s,h1,h2⟩
  |ret=>exact hl
  |_=>exact hl.elim)
theorem WP.cond{c:Operand}{x y:Code}(h:(cK c).runK st (Ev P x y Q st c)):WP P (.cond c x y) Q st:=fun E tb a w hr=>by
 obtain⟨v,hv,hk⟩:=cO h
 have hr0:=hr
 obtain⟨loc,ob,hrel⟩:=hr
 have hx:=bp hrel hv
 unfold Ev at hk
 split at hk
 ·rename_i b
  have he:a.eval c=.bool b:=hx.inv_bool
  have hst:ul st c b=st:=by
   cases c with
   |tmp k=>exact le (au (st:=st) hv)
   |_=>rfl
  refine wp_cond_split he (fun hb=> ?_) fun hb=> ?_
  ·subst hb
   have:=hk.1 rfl
   rw[hst]at this
   exact this E tb a w hr0
  ·subst hb
   have:=hk.2 rfl
   rw[hst]at this
   exact this E tb a w hr0
 ·exact hk.elim
theorem WP.region(hT:T.ok P){id:Nat}{ops:Array Oper}(h: ∀K:St→Prop,(∀s,Q .normal s→K s)→vg P T ops.toList ops.toList st K):WP P (.region id ops false) Q st:=fun E tb a w hr=>by
 refine wp_region ?_
 have:=xN hT tb (Q:=Lift E Q) ops.toList 0 st a w (Q .normal) (fun j=>by simp) hr (h _ fun _ h=>h) fun st' a' w' hk h'=>⟨st',hk,h'⟩
 rwa [Array.length_toList,←List.range_eq_range']at this
theorem WP.loop{c:Code}(I:Nat→St→Prop)(n:Nat)(h0:I n st)(hs: ∀n st,I n st→WP P c (HI (fun st'=> ∃m,m<n∧I m st') Q) st):WP P (.loop c) Q st:=fun E tb a w hr=>
 wp_loop_ghost (fun n a w=> ∃st,I n st∧Rel E st a w ae) n ⟨st,h0,hr⟩ fun n a w ⟨s,h1,h2⟩=>wp_mono (hs n s h1 E tb a w h2) fun e a' w' hl=>by
  cases e with
  |normal=>obtain⟨s',⟨m,h3,h4⟩,h5⟩:=hl;exact⟨m,h3,s',h4,h5⟩
  |exit id=>exact hl
  |ret=>exact hl
  |_=>exact hl.elim
theorem WP.weak{c:Code}{st':St}(hw: ∀E a w,Rel E st a w ae→Rel E st' a w ae)(h:WP P c Q st'):WP P c Q st:=fun E tb a w hr=>h E tb a w (hw E a w hr)
end
end Go.Abs

/- The abstract layer, 20: functions. -/
noncomputable section
namespace Go.Abs
open Go
def jH(x:AV)(st:St)(K:AV→St→Prop):Prop:=match x with
 | .agg cs=>cD cs st fun ys st'=>K (.agg ys) st'
 | .ptr b i j=>match i,j with
  |0,0=>match st.m b with
   | .live ⟨arr,_,_,rows⟩=>match arr with
    |false=>match rows with
     |[row]=>Rq (row.all fun c=>c.light&& !c.isUndef) (cD row (st.mws [(b,.dead)]) fun ys st=>Rq (ys.all fun c=> !c.isUndef) (K (.obj ys) st))
     |_=>False
    |true=>False
   |_=>False
  |_,_=>False
 |v=>(dr v).runK st fun p=>K p.1 (st.mws p.2)
def kY:List AV→St→(List AV→St→Prop)→Prop
 |[],st,K=>K [] st
 |x::l,st,K=>jH x st fun y st1=>kY l st1 fun ys st'=>K (y::ys) st'
def Sh(x y:AV):Prop:= ∀(w:World)(R O:Cells)(v:Value),AR w R aC x v O→(∀g o,O g o→g<w.heap.size)→ ∃O1,(∀g o,O1 g o→O g o)∧ ∀R':Cells,(∀g o,R g o→R' g o)→(∀g o,O g o→ ¬O1 g o→R' g o)→AR w R' aC y v O1
def HA:List AV→List AV→Prop
 |[],[]=>True
 |x::l,y::r=>Sh x y∧HA l r
 |_,_=>False
def mA(T:TT):List ResultVar→RP (List AV)
 |[]=>.ret []
 |r::l=>(match r with
  | .tmp t=>RP.tmp t .ret
  | .cell b t=>(kR T t (.tmp b)).bind fun r=>.ret r.1).bind fun x=>(mA T l).bind fun xs=>.ret (x::xs)
def Gp(res:AV)(st:St)(xs:List AV):Prop:=match xs with
 |[x]=>jH x st fun y _=>Sh y res
 |xs=>kY xs st fun ys _=>Sh (.tup ys) res
def B7(T:TT)(rs:List ResultVar)(res:AV)(st:St):Prop:=(mA T rs).runK st (Gp res st)
def Ib(T:TT)(rs:List ResultVar)(res:AV):Ex→St→Prop
 | .ret,st=>B7 T rs res st
 | .normal,st=>B7 T rs res st
 |_,_=>False
def e0:Nat:=500000
def enter(n:Nat)(as:List AV):St:={St.mws ⟨n,fun _=>.undef,fun _=>.abs,[]⟩ (bV e0 as).2 with t:=fun k=>(bV e0 as).1.getD k .undef}
section
variable{P:Program}{T:TT}{E:Env}{o:Oper}{st:St}{a:Act}{w:World}{X:Cells}{loc:bG}{ob:Nat→Cells}{r:di}{Q Q':Ex→St→Prop}
theorem Sh.refl(x:AV):Sh x x:=fun w R O v h _=>⟨O,fun _ _ k=>k,fun R' hR _=>h.weak hR fun _ _ k=>k⟩
theorem Sh.emp_ro(z:List AV):Sh .emp (.ro z []):=fun w R O v h _=>by
 cases h with
 |sc h e=>obtain⟨ad,rfl⟩:=h;exact⟨O,fun _ _ k=>k,fun R' _ _=>.ro0 e⟩
theorem Sh.emp_own(lvl:Nat)(z:List AV):Sh .emp (.own lvl z []):=fun w R O v h _=>by
 cases h with
 |sc h e=>obtain⟨ad,rfl⟩:=h;exact⟨O,fun _ _ k=>k,fun R' _ _=>.own0 e⟩
theorem Sh.lvl{lvl lvl':Nat}(hl:lvl≤lvl')(z:List AV)(rows:List (List AV)):Sh (.own lvl z rows) (.own lvl' z rows):=fun w R O v h _=>by
 cases h with
 |sc h e=>exact h.elim
 |own0 e=>exact⟨O,fun _ _ k=>k,fun R' _ _=>.own0 e⟩
 |own vs os hcap hb hw hc hx hO hd hdd h0 h1 hm=>
  exact⟨O,fun _ _ k=>k,fun R' hR _=>.own vs os hcap hb hw hc (fun i j row x h1 h2=>(hx i j row x h1 h2).weak hR fun _ _ k=>k) hO hd hdd (fun e=>h0 (by omega)) (fun e=>h1 (by omega)) hm⟩
theorem Sh.own_ro{lvl:Nat}(hl:lvl≤1)(z:List AV)(rows:List (List AV)):Sh (.own lvl z rows) (.ro z rows):=fun w R O v h _=>by
 cases h with
 |sc h e=>exact h.elim
 |own0 e=>exact⟨O,fun _ _ k=>k,fun R' _ _=>.ro0 e⟩
 | @own _ _ _ _ g oo cap _ vs os hcap hb hw hc hx hO hd hdd h0 h1 hm=>
  refine⟨ae,fun _ _ k=>k.elim,fun R' hR hR'=> ?_⟩
  by_cases h0:rows=[]
  ·subst h0;exact .ro0 ah
  ·have hpos:0<rows.length:=List.length_pos_iff.2 h0
   refine .ro vs ah hpos hcap hb.lt hw (fun i j hi hj=>⟨hc i j hi hj,hR' _ _ ((hO _ _).2 (.inl rfl)) fun k=>k⟩) (fun i j row x k1 k2=> ?_) (h1 hl) hm
   have hx':=(hx i j row x k1 k2).weak hR fun _ _ k=>k
   have hp:=h1 hl row (List.mem_of_getElem? k1) x (List.mem_of_getElem? k2)
   exact hx'.emp_weak (hx'.plain_emp hp) ah
theorem Sh.trans{x y z:AV}(h1:Sh x y)(h2:Sh y z):Sh x z:=fun w R O v h hl=>by
 obtain⟨O1,hs1,k1⟩:=h1 w R O v h hl
 obtain⟨O2,hs2,k2⟩:=h2 w (fun g o=>R g o∨(O g o∧ ¬O1 g o)) O1 v (k1 _ (fun _ _ k=>.inl k) fun _ _ k n=>.inr ⟨k,n⟩) (fun g o k=>hl g o (hs1 g o k))
 refine⟨O2,fun g o k=>hs1 g o (hs2 g o k),fun R' hR hR'=>k2 R' (fun g o k=> ?_) (fun g o k n=>hR' g o (hs1 g o k) n)⟩
 rcases k with k|⟨k,n⟩
 ·exact hR g o k
 ·exact hR' g o k fun k2=>n (hs2 g o k2)
theorem rD{R:Cells}: ∀(xs ys:List AV)(vs:List Value)(O:Cells),HA xs ys→Parts w R aC xs vs O→(∀g o,O g o→g<w.heap.size)→ ∃O1,(∀g o,O1 g o→O g o)∧ ∀R':Cells,(∀g o,R g o→R' g o)→(∀g o,O g o→ ¬O1 g o→R' g o)→Parts w R' aC ys vs O1
 |[],[],[],O,_,h,_=>⟨O,fun _ _ k=>k,fun _ _ _=>h⟩
 |[],[],_::_,_,_,h,_=>h.elim
 |[],_::_,_,_,h,_,_=>h.elim
 |_::_,[],_,_,h,_,_=>h.elim
 |x::xs,y::ys,[],_,_,h,_=>h.elim
 |x::xs,y::ys,v::vs,O,⟨hs,hf⟩,⟨O1,O2,hO,hd,hx,hp⟩,hl=>by
   obtain⟨Oa,ha1,ha2⟩:=hs w R O1 v hx fun g o k=>hl g o ((hO g o).2 (.inl k))
   obtain⟨Ob,hb1,hb2⟩:=rD xs ys vs O2 hf hp fun g o k=>hl g o ((hO g o).2 (.inr k))
   refine⟨fun g o=>Oa g o∨Ob g o,fun g o k=>(hO g o).2 (k.imp (ha1 g o) (hb1 g o)),fun R' hR hR'=>⟨Oa,Ob,fun g o=>Iff.rfl,fun g o k1 k2=>hd g o (ha1 g o k1) (hb1 g o k2),?_,?_⟩⟩
   ·exact ha2 R' hR fun g o k n=>hR' g o ((hO g o).2 (.inl k)) fun k'=>k'.elim n fun k'=>hd g o k (hb1 g o k')
   ·exact hb2 R' hR fun g o k n=>hR' g o ((hO g o).2 (.inr k)) fun k'=>k'.elim (fun k'=>hd g o (ha1 g o k') k) n
theorem Sh.agg{xs ys:List AV}(h:HA xs ys):Sh (.agg xs) (.agg ys):=fun w R O v hx hl=>by
 cases hx with
 |sc h _=>exact h.elim
 | @agg _ _ vs _ os hn hxx hu=>
  obtain⟨O1,h1,h2⟩:=rD xs ys vs.toList O h (dh xs vs.toList os O (by simpa using hn) (fun k x v h1 h2=>hxx k x v h1 (by simpa using h2)) hu) hl
  refine⟨O1,h1,fun R' hR hR'=> ?_⟩
  obtain⟨h3,os',h4,h5⟩:=aL _ _ _ (h2 R' hR hR')
  exact .agg os' (by simpa using h3) (fun k x v h6 h7=>h4 k x v h6 (by simpa using h7)) h5
theorem Sh.tup{xs ys:List AV}(h:HA xs ys):Sh (.tup xs) (.tup ys):=fun w R O v hx hl=>by
 cases hx with
 |sc h _=>exact h.elim
 | @tup _ _ vs _ os hn hxx hu=>
  obtain⟨O1,h1,h2⟩:=rD xs ys vs.toList O h (dh xs vs.toList os O (by simpa using hn) (fun k x v h1 h2=>hxx k x v h1 (by simpa using h2)) hu) hl
  refine⟨O1,h1,fun R' hR hR'=> ?_⟩
  obtain⟨h3,os',h4,h5⟩:=aL _ _ _ (h2 R' hR hR')
  exact .tup os' (by simpa using h3) (fun k x v h6 h7=>h4 k x v h6 (by simpa using h7)) h5
theorem C6(h:RelC E st a w X loc ob){b:Nat}{v:Value}(hx:AR w (RS E w (al ob X)) loc (.ptr b 0 0) v ae){lvl:Nat}{z row:List AV}(hm:st.m b=.live ⟨false,lvl,z,[row]⟩)
  (hrow:(row.all fun c=>c.light&& !c.isUndef)=true){K:List AV→St→Prop}(hk:cD row (st.mws [(b,.dead)]) fun ys st=>Rq (ys.all fun c=> !c.isUndef) (K ys st)):
  ∃ys st' X' ob' O,K ys st'∧Left E a w X loc ob st' X' ob' O∧AR w (RS E w (al ob' X')) aC (.obj ys) v O:=by
 obtain⟨l,hloc,_,_,rfl⟩:=hx.inv_ptr
 have hat:=h.lv b _ hm
 generalize hob:ob b=Ob at hat
 cases hat with
 |var l' vs0 os0 hl' hbd hs hn hz hbf hc hxx hO hd hdd=>
  rw[hloc]at hl';injection hl' with hl';subst hl'
  have hall: ∀(k:Nat) c,row[k]? =some c→c.light=true∧c.isUndef=false:=fun k c h1=>by
   have:=List.all_eq_true.1 hrow c (List.mem_of_getElem? h1)
   simpa using this
  have hemp: ∀(k:Nat) c,row[k]? =some c→Emp (os0 k):=fun k c h1=>(hxx k c h1 (hall k c h1).2).light_emp (hall k c h1).1
  have hspan: ∀g o,Ob g o↔iO l 0 row.length g o:=by
   intro g o
   rw[hO]
   constructor
   ·rintro ⟨k,c,e1,e2,⟨rfl,rfl⟩|e3⟩
    ·have:k<row.length:=(List.getElem?_eq_some_iff.1 e1).1
     exact⟨rfl,by omega,by omega⟩
    ·exact(hemp k c e1 g o e3).elim
   ·rintro ⟨rfl,e1,e2⟩
    have hlt:o-l.base<row.length:=by omega
    have e:=List.getElem?_eq_getElem hlt
    exact⟨o-l.base,_,e,(hall _ _ e).2,.inl ⟨rfl,by omega⟩⟩
  have hown: ∀g o,al (bi ob b ae) (fun g o=>X g o∨Ob g o) g o↔al ob X g o:=by
   intro g o
   constructor
   ·rintro (⟨b',k⟩|k|k)
    ·by_cases hbb:b'=b
     ·subst hbb;simp only[bi,if_true]at k;exact k.elim
     ·simp only[bi,hbb,if_false]at k;exact .inl ⟨b',k⟩
    ·exact .inr k
    ·exact .inl ⟨b,by rw[hob];exact k⟩
   ·rintro (⟨b',k⟩|k)
    ·by_cases hbb:b'=b
     ·subst hbb;rw[hob]at k;exact .inr (.inr k)
     ·exact .inl ⟨b',by simpa only[bi,hbb,if_false]using k⟩
    ·exact .inr (.inl k)
  have hrel1:=h.part (b:=b) (m:=.dead) (Ob:=ae) (X':=fun g o=>X g o∨Ob g o) hown ⟨by rw[hloc];rfl,ah⟩ (fun b' hne g o k1 k2=>k2.elim) (fun b' hne g o k1 k2=>by
   rcases k2 with k2|k2
   ·exact h.dx b' g o k1 k2
   ·exact h.db b' b hne g o k1 (hob▸k2)) (fun g o k1=>k1.elim)
  have hL1:Left E a w X loc ob _ (fun g o=>X g o∨Ob g o) _ Ob:=⟨hrel1,fun g o=>Iff.rfl,fun g o k1 k2=>h.dx b g o (hob▸k2) k1,fun g o k=>(hown g o).1 k⟩
  let vl:List Value:=(List.range row.length).map vs0
  obtain⟨ys,st2,X2,ob2,O2,⟨hcs,hk2⟩,hL2,hp⟩:=fd row vl _ _ _ _ hrel1 (by simp[vl]) (fun k c u h1 h2=>by
   have hkn:k<row.length:=(List.getElem?_eq_some_iff.1 h1).1
   have:u=vs0 k:=by simpa[vl,hkn]using h2.symm
   subst this
   exact((hxx k c h1 (hall k c h1).2).emp_weak (hemp k c h1) ah).weak hL1.RS fun _ _ k=>k) hk
  obtain⟨hL12,hd12⟩:=hL1.trans hL2
  obtain⟨hyl,os2,hy,hu⟩:=aL _ _ _ hp
  have hcl:ys.length=row.length:=by simpa[vl]using hyl.symm
  refine⟨ys,st2,X2,ob2,_,hk2,hL12,?_⟩
  simp only[Nat.zero_mul,Nat.add_zero]
  refine AR.obj vs0 os2 (hbf.mono (by rw[←hz];omega)) (fun c hc=>by simpa using List.all_eq_true.1 hcs c hc) (fun k hk=> ?_) (fun k c k1=> ?_) (fun g o=> ?_) (fun k hk o k1 k2 k3=> ?_) (fun k k' hk hk' hne=>hu.dis k k' hk hk' hne)
  ·have e:=List.getElem?_eq_getElem (l:=row) (i:=k) (by omega)
   exact hc k _ e (hall _ _ e).2
  ·have hk:k<row.length:=by rw[←hcl];exact(List.getElem?_eq_some_iff.1 k1).1
   exact hy k c _ k1 (by simp[vl,hk])
  ·rw[hu.iff,hspan,hcl]
   exact Iff.rfl
  ·exact hd12 l.g o ((hspan _ _).2 ⟨rfl,by omega,by omega⟩) ((hu.iff _ _).2 ⟨k,hk,k3⟩)
theorem mN(h:RelC E st a w X loc ob){x:AV}{v:Value}(hx:AR w (RS E w (al ob X)) loc x v ae){K:AV→St→Prop}(hk:jH x st K):
  ∃y st' X' ob' O,K y st'∧Left E a w X loc ob st' X' ob' O∧AR w (RS E w (al ob' X')) aC y v O:=by
 cases x with
 |agg cs=>
  obtain⟨vs,rfl,hvl,hvx⟩:=hx.inv_agg
  obtain⟨ys,st',X',ob',O,hK,hL,hp⟩:=fd cs vs.toList st X ob _ h (by simpa using hvl) (fun k x v h5 h6=>hvx k x v h5 (by simpa using h6)) hk
  obtain⟨h3,os',h4,h5⟩:=aL _ _ _ hp
  exact⟨_,st',X',ob',O,hK,hL,.agg os' (by simpa using h3) (fun k x v h6 h7=>h4 k x v h6 (by simpa using h7)) h5⟩
 |ptr b i j=>
  unfold jH at hk
  simp only at hk
  split at hk
  case h_2=>exact hk.elim
  split at hk
  case h_2=>exact hk.elim
  rename_i hm
  split at hk
  case h_2=>exact hk.elim
  split at hk
  case h_2=>exact hk.elim
  obtain⟨hq,hk⟩:=hk
  obtain⟨ys,st',X',ob',O,h1,h2,h3⟩:=C6 h hx hm hq hk
  exact⟨_,st',X',ob',O,h1,h2,h3⟩
 |_=>
  obtain⟨p,hp,hk⟩:=cO hk
  obtain⟨X1,ob1,O1,hL1,hy⟩:=jv h hx hp
  exact⟨_,_,X1,ob1,O1,hk,hL1,hy⟩
theorem lh: ∀(l:List AV)(vs:List Value)(st:St)(X:Cells)(ob:Nat→Cells)(K:List AV→St→Prop),RelC E st a w X loc ob→vs.length=l.length→
  (∀(k:Nat) x v,l[k]? =some x→vs[k]? =some v→AR w (RS E w (al ob X)) loc x v ae)→kY l st K→
  ∃ys st' X' ob' O,K ys st'∧Left E a w X loc ob st' X' ob' O∧Parts w (RS E w (al ob' X')) aC ys vs O
 |[],[],st,X,ob,K,h,_,_,hk=>⟨[],st,X,ob,ae,hk,Left.refl h,ah⟩
 |[],_::_,_,_,_,_,_,hl,_,_=>by simp at hl
 |_::_,[],_,_,_,_,_,hl,_,_=>by simp at hl
 |x::l,v::vs,st,X,ob,K,h,hl,hx,hk=>by
  obtain⟨y,st1,X1,ob1,O1,hk,hL1,hy⟩:=mN h (hx 0 x v (by simp) (by simp)) hk
  obtain⟨ys,st',X2,ob2,O2,hK,hL2,hp2⟩:=lh l vs _ X1 ob1 _ hL1.rel (by simpa using hl) (fun k y u h1 h2=>(hx (k+1) y u (by simpa using h1) (by simpa using h2)).weak hL1.RS fun _ _ k=>k) hk
  obtain⟨hL,hd⟩:=hL1.trans hL2
  exact⟨y::ys,st',X2,ob2,_,hK,hL,O1,O2,fun g o=>Iff.rfl,hd,hy.weak hL2.RS fun _ _ k=>k,hp2⟩
theorem mR(hT:T.ok P)(h:RelC E st a w X loc ob): ∀(rs:List ResultVar)(xs:List AV),(mA T rs).run st=some xs→ ∃vs:List Value,vs.length=xs.length∧
  (∀(k:Nat) x v,xs[k]? =some x→vs[k]? =some v→AR w (RS E w (al ob X)) loc x v ae)∧
  (rs.mapM (fun(r:ResultVar)=>match r with
   | .tmp t=>(Pure.pure (a.tmps.getD t undef):Sem Value)
   | .cell b t=>(do loadVar t (←asAddr (a.tmps.getD b undef)):Sem Value))).run P w=.ok vs w
 |[],xs,hs=>by
  obtain rfl:=au (st:=st) hs
  exact⟨[],rfl,fun k x v h1=>by simp at h1,by simp[List.mapM_nil]⟩
 |r::l,xs,hs=>by
  obtain⟨x,hx,hs1⟩:=bind_some hs
  obtain⟨ys,h1,hs2⟩:=bind_some hs1
  obtain rfl:=au hs2
  obtain⟨vs,h2,h3,h4⟩:=mR hT h l ys h1
  have key: ∃u,AR w (RS E w (al ob X)) loc x u ae∧(match r with
   | .tmp t=>(Pure.pure (a.tmps.getD t undef):Sem Value)
   | .cell b t=>(do loadVar t (←asAddr (a.tmps.getD b undef)):Sem Value)).run P w=.ok u w:=by
   cases r with
   |tmp t=>obtain rfl:=au (st:=st) hx;exact⟨_,h.tm t,rfl⟩
   |cell b t=>
    obtain⟨q,hq,hx1⟩:=bind_some hx
    obtain rfl:=au hx1
    obtain⟨ad,u,hp,hl,hxx,_⟩:=vj hT h hq
    refine⟨u,hxx,?_⟩
    have hp':a.tmps.getD b undef=.pointer (some ad):=hp
    simp only[hp',asAddr,Sem.run_bind,Sem.run_pure,Result.andThen_ok,hl]
  obtain⟨u,hxx,hru⟩:=key
  refine⟨u::vs,by simp[h2],fun k x v k1 k2=> ?_,?_⟩
  ·cases k with
   |zero=>
    simp only[List.getElem?_cons_zero,Option.some.injEq]at k1 k2
    subst k1;subst k2
    exact hxx
   |succ k=>exact h3 k x v (by simpa using k1) (by simpa using k2)
  ·rw[List.mapM_cons]
   simp only[Sem.run_bind,Sem.run_pure,Result.andThen_ok,hru]
   rw[h4]
   rfl
theorem DF(hT:T.ok P)(h:Rel E st a w ae){fn:Func}{res:AV}(hk:B7 T fn.results.toList res st): ∃v O',(results fn a.tmps).run P w=.ok v w∧(∀g o,O' g o→(E.O0 g o∨E.w0.heap.size≤g)∧g<w.heap.size)∧AR w (RS E w O') aC res v O':=by
 obtain⟨loc,ob,h⟩:=h
 obtain⟨xs,hs,hk⟩:=cO hk
 obtain⟨vs,hvl,hvx,hrun⟩:=mR hT h _ _ hs
 have hres:(results fn a.tmps).run P w=.ok (if h:vs.toArray.size=1 then vs.toArray[0]else .tuple vs.toArray) w:=by
  unfold results
  rw[Array.mapM_eq_mapM_toList,Sem.run_bind,Sem.run_map]
  exact(congrArg (fun r:Go.Result (List Value)=>((Go.Result.andThen r fun a w'=>.ok a.toArray w').andThen fun a w'=>Sem.run P (Pure.pure (if h:a.size=1 then a[0]else Value.tuple a)) w')) hrun).trans rfl
 have fin: ∀(y:AV)(v:Value)(X' O:Cells)(ob':Nat→Cells)(st':St),Left E a w ae loc ob st' X' ob' O→AR w (RS E w (al ob' X')) aC y v O→Sh y res→
   ∃O',(∀g o,O' g o→(E.O0 g o∨E.w0.heap.size≤g)∧g<w.heap.size)∧AR w (RS E w O') aC res v O':=by
  intro y v X' O ob' st' hL hy hs
  have hOX: ∀g o,O g o→al ob' X' g o:=fun g o k=>.inr ((hL.iff g o).2 (.inr k))
  obtain⟨O1,h1,h2⟩:=hs w _ O v hy fun g o k=>hL.rel.lt g o (hOX g o k)
  refine⟨O1,fun g o k=>⟨hL.rel.sub g o (hOX g o (h1 g o k)),hL.rel.lt g o (hOX g o (h1 g o k))⟩,h2 _ (fun g o k=>⟨k.1,k.2.1,fun n=>k.2.2 (hOX g o (h1 g o n))⟩) fun g o k n=>⟨?_,hL.rel.lt g o (hOX g o k),n⟩⟩
  exact(hL.rel.sub g o (hOX g o k)).elim (fun k=>.inr (.inl k)) fun k=>.inr (.inr k)
 unfold Gp at hk
 split at hk
 ·rename_i x
  obtain⟨v,rfl⟩: ∃v,vs=[v]:=by
   match vs,hvl with
   |[v],_=>exact⟨v,rfl⟩
  obtain⟨y,st',X',ob',O,hK,hL,hy⟩:=mN h (hvx 0 x v (by simp) (by simp)) hk
  obtain⟨O',h1,h2⟩:=fin y v X' O ob' st' hL hy hK
  exact⟨v,O',hres,h1,h2⟩
 ·rename_i hne
  obtain⟨ys,st',X',ob',O,hK,hL,hp⟩:=lh _ vs st ae ob _ h hvl hvx hk
  obtain⟨h3,os',h4,h5⟩:=aL _ _ _ hp
  obtain⟨O',h1,h2⟩:=fin (.tup ys) (.tuple vs.toArray) X' O ob' st' hL (.tup os' (by simpa using h3) (fun k x v h6 h7=>h4 k x v h6 (by simpa using h7)) h5) hK
  refine⟨.tuple vs.toArray,O',?_,h1,h2⟩
  rw[hres,dif_neg]
  intro h1
  have hl1:xs.length=1:=by rw[←hvl];simpa using h1
  obtain⟨x,hx⟩:=List.length_eq_one_iff.1 hl1
  exact hne x hx
theorem Con.of_WP(hT:T.ok P){f:FuncId}{fn:Func}{c:Code}{as:List AV}{res:AV}(hf:P.funcs[f]? =some fn)(hn:(fn.name== "runtime.NumGoroutine")=false)(hb:fn.body=some c)(hok:as.all cN=true)
  (h:WP P c (Ib T fn.results.toList res) (enter (as.length+(fn.ntmps-as.length)) as)):Con P f as (aa as) res:=by
 refine⟨⟨fn,hf,hn,by rw[hb];rfl⟩,fun w R O vals hp hR hO tb=> ?_⟩
 refine calls_of_wp hf hb ?_
 let E:Env:=⟨w,R,O,aC⟩
 have hvl:=(aL _ _ _ hp).1
 let a:Act:={tmps:=vals.toArray++Array.replicate (fn.ntmps-vals.toArray.size) undef,defers:=[]}
 let st0:St:=⟨as.length+(fn.ntmps-as.length),fun _=>.undef,fun _=>.abs,[]⟩
 have hrel0:RelC E st0 a w O aC (fun _=>ae):=by
  refine⟨fun k=>.sc trivial ah,?_,rfl,fun b _=>⟨rfl,ah⟩,fun b hb=>MB.noConfusion hb,fun b blk hb=>MB.noConfusion hb,fun _ _ _=>ah.disj,fun _=>ah.disj,fun g o k=> ?_,fun g o k=> ?_,Frame.refl w _,fun b hb=>by simp[st0]at hb⟩
  ·simp[st0,a,hvl]
  ·rcases k with⟨_,k⟩|k
   ·exact k.elim
   ·exact hO g o k
  ·rcases k with⟨_,k⟩|k
   ·exact k.elim
   ·exact .inl k
 have hRS: ∀g o,R g o→RS E w (al (fun _=>ae) O) g o:=fun g o k=>⟨.inl k,(hR g o k).1,fun n=>by
  rcases n with⟨_,n⟩|n
  ·exact n.elim
  ·exact(hR g o k).2 n⟩
 obtain⟨loc',ob',hL,hp'⟩:=mY as vals st0 O O ae aC (fun _=>ae) e0 hrel0 (fun g o=>by simp[ae]) ah.disj' (Parts.mono hRS (fun _ _ k=>k) _ _ _ hp) hok (fun p _=>rfl)
 obtain⟨hl',os',h4,h5⟩:=aL _ _ _ hp'
 have hrel:Rel E (enter (as.length+(fn.ntmps-as.length)) as) a w ae:=by
  have hr:=hL.rel
  refine⟨loc',ob',fun k=> ?_,?_,hr.df,hr.ab,hr.dd,hr.lv,hr.db,hr.dx,hr.lt,hr.sub,hr.fr,fun b hb=> ?_⟩
  ·simp only[enter]
   by_cases hk:k<vals.length
   ·have hx:(bV e0 as).1[k]? =some ((bV e0 as).1[k]'(by omega)):=by simp
    have hv:vals[k]? =some vals[k]:=by simp
    have ht:a.tmps.getD k undef=vals[k]:=by
     simp only[a]
     rw[Array.getD_eq_getD_getElem?,Array.getElem?_append_left (by simpa using hk)]
     simp[hk]
    rw[ht,List.getD_eq_getElem?_getD,hx]
    exact(h4 k _ _ hx hv).emp_weak (fun g o n=>(h5.iff g o).2 ⟨k,by omega,n⟩) ah
   ·rw[List.getD_eq_getElem?_getD,List.getElem?_eq_none (by omega)]
    exact .sc trivial ah
  ·have:(enter (as.length+(fn.ntmps-as.length)) as).n=st0.n:=fE _ _
   rw[this]
   simp[st0,a,hvl]
  ·have:(enter (as.length+(fn.ntmps-as.length)) as).an=[]:=oq _ _
   rw[this]at hb
   simp at hb
 have ret: ∀st a' w',Rel E st a' w' ae→B7 T fn.results.toList res st→a'.defers=[]∧ ∃v,(results fn a'.tmps).run P w'=.ok v w'∧DU w R O vals (aa as) res (.returned v) w':=by
  intro st a' w' h1 h2
  obtain⟨v,O',h3,h6,h7⟩:=DF hT h1 h2
  obtain⟨loc,ob,h1⟩:=h1
  refine⟨h1.df,v,h3,O',h1.fr,h6,O',ae,fun g o=>by simp[ae],ah.disj',h7,?_⟩
  have: ∀(l:List AV)(vs:List Value),vs.length=l.length→Parts w' (RS ⟨w,R,O,aC⟩ w' O') aC (aa l) vs ae:=by
   intro l
   induction l with
   |nil=>intro vs hl;match vs,hl with|[],_=>exact ah
   |cons x l ih=>
    intro vs hl
    match vs,hl with
    |v::vs,hl=>exact⟨ae,ae,fun g o=>by simp[ae],ah.disj,.sc trivial ah,ih vs (by simpa using hl)⟩
  exact this as vals hvl
 refine wp_mono (h E tb a w hrel) fun e a' w' hl=> ?_
 cases e with
 |normal=>obtain⟨st,h1,h2⟩:=hl;exact ret st a' w' h2 h1
 |ret=>obtain⟨st,h1,h2⟩:=hl;exact ret st a' w' h2 h1
 |exit id=>obtain⟨st,h1,h2⟩:=hl;exact h1.elim
 |_=>exact hl.elim
def AV.rowsN:AV→Option Nat
 | .own _ _ rows=>some rows.length
 |_=>none
def fM(b:Nat):List Bool→List AV→List (Option Nat)
 |fl::fls,x::l=>(if fl=true then some b else none)::fM (b+x.leaves.length) fls l
 |_,_=>[]
def ed:List (Option Nat)→List Nat
 |[]=>[]
 |some b::l=>b::ed l
 |none::l=>ed l
def CV(st:St):List (Option Nat)→List AV→List AV→Prop
 |[],[],[]=>True
 |none::hs,_::as,o::os=>o=.undef∧CV st hs as os
 |some b::hs,x::as,o::os=>(∃lvl z rows,st.m b=.live ⟨true,lvl,z,rows⟩∧x.rowsN=some rows.length∧o=.own lvl z rows)∧(ed hs).contains b=false∧CV st hs as os
 |_,_,_=>False
def BE(E:Env):List (Option Nat)→List AV→List Value→Prop
 |[],[],[]=>True
 |none::hs,_::as,_::vs=>BE E hs as vs
 |some b::hs,x::as,v::vs=>(∀n,x.rowsN=some n→(n=0∧ ∃ad,v=.slice ad 0 0)∨ ∃l cap,E.A b=some l∧l.bound=true∧v=.slice (some ⟨l.g,l.base,none⟩) n cap∧n≤cap∧n≤cj∧BF E.w0 l.g (l.base+cap*l.s))∧BE E hs as vs
 |_,_,_=>False
theorem xB{R:Cells}(hA: ∀b l,loc b=some l→E.A b=some l)(hw:w=E.w0): ∀(as:List AV)(fls:List Bool)(vs:List Value)(b:Nat)(O:Cells),fls.length=as.length→Parts w R loc (bV b as).1 vs O→BE E (fM b fls as) as vs
 |[],[],[],b,O,_,_=>trivial
 |[],[],_::_,b,O,_,h=>h.elim
 |x::as,fl::fls,[],b,O,_,h=>h.elim
 |x::as,fl::fls,v::vs,b,O,hl,⟨O1,O2,_,_,h1,h2⟩=>by
  have ih:=xB hA hw as fls vs (b+x.leaves.length) O2 (by simpa using hl) h2
  simp only[fM]
  cases fl with
  |false=>exact ih
  |true=>
   refine⟨fun n hn=> ?_,ih⟩
   cases x with
   |own lvl z rows=>
    simp only[AV.rowsN,Option.some.injEq]at hn
    subst hn
    obtain⟨l,hll,_,ad,cap,rfl,hcap,hcase⟩:=AR.inv_ref (b:=b) (off:=0) (len:=rows.length) h1
    have hlen:=AR.ref_len (b:=b) (off:=0) (len:=rows.length) h1
    rcases hcase with⟨h3,rfl⟩|⟨h3,rfl,h4⟩
    ·left
     exact⟨h3,ad,by rw[h3]⟩
    ·right
     refine⟨l,cap,hA b l hll,h3,by simp,hcap,hlen,?_⟩
     rw[←hw]
     simpa using h4
   |_=>simp[AV.rowsN]at hn
theorem lD(h:RelC E st a w X loc ob): ∀(hs:List (Option Nat))(as os:List AV)(vs:List Value),(∀b∈ed hs,b∈st.an)→CV st hs as os→BE E hs as vs→
  ∃O2:Cells,(∀g o,O2 g o→ ∃b,b∈ed hs∧ob b g o)∧ ∀R':Cells,(∀g o,RS E w (al ob X) g o→R' g o)→Parts w R' aC os vs O2
 |[],[],[],[],_,_,_=>⟨ae,fun _ _ k=>k.elim,fun _ _=>ah⟩
 |[],[],[],_::_,_,_,h2=>h2.elim
 |[],[],_::_,_,_,h1,_=>h1.elim
 |[],_::_,[],_,_,h1,_=>h1.elim
 |[],_::_,_::_,_,_,h1,_=>h1.elim
 |none::hs,[],_,_,_,h1,_=>by cases ‹List AV› <;>exact h1.elim
 |some b::hs,[],_,_,_,h1,_=>by cases ‹List AV› <;>exact h1.elim
 |none::hs,x::as,[],_,_,h1,_=>h1.elim
 |some b::hs,x::as,[],_,_,h1,_=>h1.elim
 |none::hs,x::as,o::os,[],_,_,h2=>h2.elim
 |some b::hs,x::as,o::os,[],_,_,h2=>h2.elim
 |none::hs,x::as,o::os,v::vs,hi,⟨h1,h2⟩,h3=>by
  obtain⟨O2,h4,h5⟩:=lD h hs as os vs hi h2 h3
  subst h1
  exact⟨O2,h4,fun R' hR=>⟨ae,O2,fun g o=>by simp[ae],ah.disj,.sc trivial ah,h5 R' hR⟩⟩
 |some b::hs,x::as,o::os,v::vs,hi,⟨⟨lvl,z,rows,hm,hx,ho⟩,hc,h2⟩,⟨h3,h4⟩=>by
  obtain⟨O2,h5,h6⟩:=lD h hs as os vs (fun b hb=>hi b (by simp[ed,hb])) h2 h4
  subst ho
  rcases h3 _ hx with⟨h7,ad,rfl⟩|⟨l,cap,hA,hbd,rfl,hcap,hmx,hBF⟩
  ·have:rows=[]:=List.length_eq_zero_iff.1 h7
   subst this
   exact⟨O2,fun g o k=>by obtain⟨b',k1,k2⟩:=h5 g o k;exact⟨b',by simp[ed,k1],k2⟩,fun R' hR=>⟨ae,O2,fun g o=>by simp[ae],ah.disj,.own0 ah,h6 R' hR⟩⟩
  ·have hloc:=(h.an b (hi b (by simp[ed]))).1
   rw[hA]at hloc
   have hat:=h.lv b _ hm
   refine⟨fun g o=>ob b g o∨O2 g o,fun g o k=> ?_,fun R' hR=>⟨ob b,O2,fun g o=>Iff.rfl,fun g o k1 k2=> ?_,?_,h6 R' hR⟩⟩
   ·rcases k with k|k
    ·exact⟨b,by simp[ed],k⟩
    ·obtain⟨b',k1,k2⟩:=h5 g o k
     exact⟨b',by simp[ed,k1],k2⟩
   ·obtain⟨b',k3,k4⟩:=h5 g o k2
    have hne:b≠b':=fun e=>by subst e;simp at hc;exact hc k3
    exact h.db b b' hne g o k1 k4
   ·generalize hob:ob b=Ob at hat
    cases hat with
    |arr0 l' hl' hn hs hbd' e=>rw[hloc]at hl';injection hl' with hl';subst hl';rw[hbd]at hbd';cases hbd'
    |arr l' vs' os' hl' hbd' hs hn hb hw hc' hx' hO hd hdd h0 h1 hm'=>
     rw[hloc]at hl';injection hl' with hl';subst hl'
     refine .own vs' os' hcap ?_ hw hc' (fun i j row x k1 k2=>(hx' i j row x k1 k2).weak hR fun _ _ k=>k) hO hd hdd h0 h1 hm'
     have:=h.fr.bf _ _ hBF
     rw[hs]at this
     exact this
def yK(res:AV)(G:St→Prop)(st:St)(xs:List AV):Prop:=match xs with
 |[x]=>jH x st fun y st'=>Sh y res∧G st'
 |xs=>kY xs st fun ys st'=>Sh (.tup ys) res∧G st'
def qH(T:TT)(rs:List ResultVar)(res:AV)(G:St→Prop)(st:St):Prop:=(mA T rs).runK st (yK res G st)
def xz(T:TT)(rs:List ResultVar)(res:AV)(G:St→Prop):Ex→St→Prop
 | .ret,st=>qH T rs res G st
 | .normal,st=>qH T rs res G st
 |_,_=>False
theorem uX(hT:T.ok P){G:St→Prop}(h:RelC E st a w ae loc ob){fn:Func}{res:AV}(hk:qH T fn.results.toList res G st): ∃v O O1 X' ob' st',(results fn a.tmps).run P w=.ok v w∧Left E a w ae loc ob st' X' ob' O∧G st'∧
  (∀g o,O1 g o→O g o)∧ ∀R':Cells,(∀g o,RS E w (al ob' X') g o→R' g o)→(∀g o,O g o→ ¬O1 g o→R' g o)→AR w R' aC res v O1:=by
 obtain⟨xs,hs,hk⟩:=cO hk
 obtain⟨vs,hvl,hvx,hrun⟩:=mR hT h _ _ hs
 have hres:(results fn a.tmps).run P w=.ok (if h:vs.toArray.size=1 then vs.toArray[0]else .tuple vs.toArray) w:=by
  unfold results
  rw[Array.mapM_eq_mapM_toList,Sem.run_bind,Sem.run_map]
  exact(congrArg (fun r:Go.Result (List Value)=>((Go.Result.andThen r fun a w'=>.ok a.toArray w').andThen fun a w'=>Sem.run P (Pure.pure (if h:a.size=1 then a[0]else Value.tuple a)) w')) hrun).trans rfl
 have fin: ∀(y:AV)(v:Value)(X' O:Cells)(ob':Nat→Cells)(st':St),Left E a w ae loc ob st' X' ob' O→AR w (RS E w (al ob' X')) aC y v O→Sh y res→
   ∃O1,(∀g o,O1 g o→O g o)∧ ∀R':Cells,(∀g o,RS E w (al ob' X') g o→R' g o)→(∀g o,O g o→ ¬O1 g o→R' g o)→AR w R' aC res v O1:=by
  intro y v X' O ob' st' hL hy hs
  have hOX: ∀g o,O g o→al ob' X' g o:=fun g o k=>.inr ((hL.iff g o).2 (.inr k))
  exact hs w _ O v hy fun g o k=>hL.rel.lt g o (hOX g o k)
 unfold yK at hk
 split at hk
 ·rename_i x
  obtain⟨v,rfl⟩: ∃v,vs=[v]:=by
   match vs,hvl with
   |[v],_=>exact⟨v,rfl⟩
  obtain⟨y,st',X',ob',O,⟨hK,hG⟩,hL,hy⟩:=mN h (hvx 0 x v (by simp) (by simp)) hk
  obtain⟨O1,h1,h2⟩:=fin y v X' O ob' st' hL hy hK
  exact⟨v,O,O1,X',ob',st',hres,hL,hG,h1,h2⟩
 ·rename_i hne
  obtain⟨ys,st',X',ob',O,⟨hK,hG⟩,hL,hp⟩:=lh _ vs st ae ob _ h hvl hvx hk
  obtain⟨h3,os',h4,h5⟩:=aL _ _ _ hp
  obtain⟨O1,h1,h2⟩:=fin (.tup ys) (.tuple vs.toArray) X' O ob' st' hL (.tup os' (by simpa using h3) (fun k x v h6 h7=>h4 k x v h6 (by simpa using h7)) h5) hK
  refine⟨.tuple vs.toArray,O,O1,X',ob',st',?_,hL,hG,h1,h2⟩
  rw[hres,dif_neg]
  intro h1
  have hl1:xs.length=1:=by rw[←hvl];simpa using h1
  obtain⟨x,hx⟩:=List.length_eq_one_iff.1 hl1
  exact hne x hx
def jB(n:Nat)(as:List AV)(an:List Nat):St:={enter n as with an:=an}
theorem Con.of_core(hT:T.ok P){f:FuncId}{fn:Func}{c:Code}{as os:List AV}{res:AV}(an:List Nat)(G:St→Prop)(hf:P.funcs[f]? =some fn)(hn:(fn.name== "runtime.NumGoroutine")=false)(hb:fn.body=some c)(hok:as.all cN=true)
  (hids: ∀b∈an,(enter (as.length+(fn.ntmps-as.length)) as).m b≠.abs)
  (haft: ∀(E:Env)(vals:List Value)(R1 O1:Cells),Parts E.w0 R1 E.A (bV e0 as).1 vals O1→ ∀{st:St}{a:Act}{w:World}{X:Cells}{loc:bG}{ob:Nat→Cells},RelC E st a w X loc ob→(∀b∈an,b∈st.an)→G st→
   ∃O2:Cells,(∀g o,O2 g o→ ∃b,b∈an∧ob b g o)∧ ∀R':Cells,(∀g o,RS E w (al ob X) g o→R' g o)→Parts w R' aC os vals O2)
  (h:WP P c (xz T fn.results.toList res fun st=>G st∧st.an=an) (jB (as.length+(fn.ntmps-as.length)) as an)):Con P f as os res:=by
 refine⟨⟨fn,hf,hn,by rw[hb];rfl⟩,fun w R O vals hp hR hO tb=> ?_⟩
 refine calls_of_wp hf hb ?_
 let E0:Env:=⟨w,R,O,aC⟩
 have hvl:=(aL _ _ _ hp).1
 let a:Act:={tmps:=vals.toArray++Array.replicate (fn.ntmps-vals.toArray.size) undef,defers:=[]}
 let st0:St:=⟨as.length+(fn.ntmps-as.length),fun _=>.undef,fun _=>.abs,[]⟩
 have hrel0:RelC E0 st0 a w O aC (fun _=>ae):=by
  refine⟨fun k=>.sc trivial ah,?_,rfl,fun b _=>⟨rfl,ah⟩,fun b hb=>MB.noConfusion hb,fun b blk hb=>MB.noConfusion hb,fun _ _ _=>ah.disj,fun _=>ah.disj,fun g o k=> ?_,fun g o k=> ?_,Frame.refl w _,fun b hb=>by simp[st0]at hb⟩
  ·simp[st0,a,hvl]
  ·rcases k with⟨_,k⟩|k
   ·exact k.elim
   ·exact hO g o k
  ·rcases k with⟨_,k⟩|k
   ·exact k.elim
   ·exact .inl k
 have hRS: ∀g o,R g o→RS E0 w (al (fun _=>ae) O) g o:=fun g o k=>⟨.inl k,(hR g o k).1,fun n=>by
  rcases n with⟨_,n⟩|n
  ·exact n.elim
  ·exact(hR g o k).2 n⟩
 obtain⟨loc',ob',hL,hp'⟩:=mY as vals st0 O O ae aC (fun _=>ae) e0 hrel0 (fun g o=>by simp[ae]) ah.disj' (Parts.mono hRS (fun _ _ k=>k) _ _ _ hp) hok (fun p _=>rfl)
 obtain⟨hl',os',h4,h5⟩:=aL _ _ _ hp'
 let E:Env:=⟨w,R,O,loc'⟩
 have hrel:Rel E (jB (as.length+(fn.ntmps-as.length)) as an) a w ae:=by
  have hr:=hL.rel
  refine⟨loc',ob',fun k=> ?_,?_,hr.df,hr.ab,hr.dd,hr.lv,hr.db,hr.dx,hr.lt,hr.sub,hr.fr,fun b hb=>⟨rfl,?_⟩⟩
  ·simp only[jB,enter]
   by_cases hk:k<vals.length
   ·have hx:(bV e0 as).1[k]? =some ((bV e0 as).1[k]'(by omega)):=by simp
    have hv:vals[k]? =some vals[k]:=by simp
    have ht:a.tmps.getD k undef=vals[k]:=by
     simp only[a]
     rw[Array.getD_eq_getD_getElem?,Array.getElem?_append_left (by simpa using hk)]
     simp[hk]
    rw[ht,List.getD_eq_getElem?_getD,hx]
    exact(h4 k _ _ hx hv).emp_weak (fun g o n=>(h5.iff g o).2 ⟨k,by omega,n⟩) ah
   ·rw[List.getD_eq_getElem?_getD,List.getElem?_eq_none (by omega)]
    exact .sc trivial ah
  ·have:(enter (as.length+(fn.ntmps-as.length)) as).n=st0.n:=fE _ _
   show(enter (as.length+(fn.ntmps-as.length)) as).n=_
   rw[this]
   simp[st0,a,hvl]
  ·have hne:=hids b hb
   cases hm:(enter (as.length+(fn.ntmps-as.length)) as).m b with
   |abs=>exact absurd hm hne
   |dead=>exact(hr.dd b hm).1
   |live blk=>obtain⟨l,hl⟩:=(hr.lv b blk hm).loc_some;rw[hl];rfl
 have ret: ∀st a' w',Rel E st a' w' ae→qH T fn.results.toList res (fun st=>G st∧st.an=an) st→a'.defers=[]∧ ∃v,(results fn a'.tmps).run P w'=.ok v w'∧DU w R O vals os res (.returned v) w':=by
  intro st a' w' h1 h2
  obtain⟨loc,ob,h1⟩:=h1
  obtain⟨v,O3,O1,X',ob2,st',h3,hL2,⟨hG,han⟩,h6,h7⟩:=uX hT h1 h2
  obtain⟨O2,h8,h9⟩:=haft E vals _ _ hp' hL2.rel (fun b hb=>by rw[han];exact hb) hG
  have hX: ∀g o,O3 g o→X' g o:=fun g o k=>(hL2.iff g o).2 (.inr k)
  have sub1: ∀g o,(O1 g o∨O2 g o)→al ob2 X' g o:=fun g o k=>k.elim (fun k=>.inr (hX g o (h6 g o k))) fun k=>by obtain⟨b,_,k⟩:=h8 g o k;exact .inl ⟨b,k⟩
  have hRS2: ∀g o,RS E w' (al ob2 X') g o→RS ⟨w,R,O,aC⟩ w' (fun g o=>O1 g o∨O2 g o) g o:=fun g o k=>⟨k.1,k.2.1,fun n=>k.2.2 (sub1 g o n)⟩
  refine⟨h1.df,v,h3,fun g o=>O1 g o∨O2 g o,h1.fr,fun g o k=>⟨hL2.rel.sub g o (sub1 g o k),hL2.rel.lt g o (sub1 g o k)⟩,O1,O2,fun g o=>Iff.rfl,fun g o k1 k2=> ?_,h7 _ hRS2 fun g o k n=>⟨?_,hL2.rel.lt g o (.inr (hX g o k)),fun m=>m.elim n fun m=> ?_⟩,h9 _ hRS2⟩
  ·obtain⟨b,_,k3⟩:=h8 g o k2
   exact hL2.rel.dx b g o k3 (hX g o (h6 g o k1))
  ·exact(hL2.rel.sub g o (.inr (hX g o k))).elim (fun k=>.inr (.inl k)) fun k=>.inr (.inr k)
  ·obtain⟨b,_,k3⟩:=h8 g o m
   exact hL2.rel.dx b g o k3 (hX g o k)
 refine wp_mono (h E tb a w hrel) fun e a' w' hl=> ?_
 cases e with
 |normal=>obtain⟨st,h1,h2⟩:=hl;exact ret st a' w' h2 h1
 |ret=>obtain⟨st,h1,h2⟩:=hl;exact ret st a' w' h2 h1
 |exit id=>obtain⟨st,h1,h2⟩:=hl;exact h1.elim
 |_=>exact hl.elim
theorem Con.of_WPA(hT:T.ok P){f:FuncId}{fn:Func}{c:Code}{as os:List AV}{res:AV}(fls:List Bool)(hfl:fls.length=as.length)(hf:P.funcs[f]? =some fn)(hn:(fn.name== "runtime.NumGoroutine")=false)(hb:fn.body=some c)(hok:as.all cN=true)
  (hids: ∀b∈ed (fM e0 fls as),(enter (as.length+(fn.ntmps-as.length)) as).m b≠.abs)
  (h:WP P c (xz T fn.results.toList res fun st=>CV st (fM e0 fls as) as os∧st.an=ed (fM e0 fls as)) (jB (as.length+(fn.ntmps-as.length)) as (ed (fM e0 fls as)))):Con P f as os res:=
 Con.of_core hT _ (fun st=>CV st (fM e0 fls as) as os) hf hn hb hok hids (fun E vals R1 O1 hp{st a w X loc ob} hr han hG=>lD hr _ as os vals han hG (xB (loc:=E.A) (fun _ _ k=>k) rfl as fls vals e0 _ hfl hp)) h
def ie(b:Nat):List AV→List (Option Nat)
 |[]=>[]
 |x::l=>(match x with| .own _ _ _=>some b|_=>none)::ie (b+1) l
theorem uZ{R:Cells}(hA: ∀b l,loc b=some l→E.A b=some l)(hw:w=E.w0): ∀(cs:List AV)(vs:List Value)(b:Nat),vs.length=cs.length→(∀(k:Nat) x v,(aD b cs).1[k]? =some x→vs[k]? =some v→ ∃O,AR w R loc x v O)→BE E (ie b cs) cs vs
 |[],[],b,_,_=>trivial
 |[],_::_,b,hl,_=>by simp at hl
 |_::_,[],b,hl,_=>by simp at hl
 |x::cs,v::vs,b,hl,hx=>by
  have ih:=uZ hA hw cs vs (b+1) (by simpa using hl) fun k y u k1 k2=>hx (k+1) y u (by simpa[aD]using k1) (by simpa using k2)
  obtain⟨O,h1⟩:=hx 0 _ v rfl rfl
  cases x with
  |own lvl z rows=>
   refine⟨fun n hn=> ?_,ih⟩
   simp only[AV.rowsN,Option.some.injEq]at hn
   subst hn
   have h1:AR w R loc (.ref b 0 rows.length) v O:=h1
   obtain⟨l,hll,_,ad,cap,rfl,hcap,hcase⟩:=AR.inv_ref h1
   have hlen:=AR.ref_len (b:=b) (off:=0) (len:=rows.length) h1
   rcases hcase with⟨h3,rfl⟩|⟨h3,rfl,h4⟩
   ·left
    exact⟨h3,ad,by rw[h3]⟩
   ·right
    refine⟨l,cap,hA b l hll,h3,by simp,hcap,hlen,?_⟩
    rw[←hw]
    simpa using h4
  |_=>exact ih
theorem Con.of_WPH(hT:T.ok P){f:FuncId}{fn:Func}{c:Code}{cs rest os:List AV}{res:AV}(hf:P.funcs[f]? =some fn)(hn:(fn.name== "runtime.NumGoroutine")=false)(hb:fn.body=some c)(hok:(AV.agg cs::rest).all cN=true)
  (hids: ∀b∈ed (ie e0 cs),(enter ((AV.agg cs::rest).length+(fn.ntmps-(AV.agg cs::rest).length)) (.agg cs::rest)).m b≠.abs)
  (h:WP P c (xz T fn.results.toList res fun st=>CV st (ie e0 cs) cs os∧st.an=ed (ie e0 cs)) (jB ((AV.agg cs::rest).length+(fn.ntmps-(AV.agg cs::rest).length)) (.agg cs::rest) (ed (ie e0 cs)))):
  Con P f (.agg cs::rest) (.agg os::aa rest) res:=
 Con.of_core hT _ (fun st=>CV st (ie e0 cs) cs os) hf hn hb hok hids (fun E vals R1 O1 hp{st a w X loc ob} hr han hG=>by
  match vals,hp with
  |v::vr,⟨O3,O4,_,_,h1,h2⟩=>
   have h1:AR E.w0 R1 E.A (.agg (aD e0 cs).1) v O3:=h1
   have key: ∃vs:Array Value,v=.agg vs∧vs.size=(aD e0 cs).1.length∧ ∃os:Nat→Cells,∀(k:Nat) x v,(aD e0 cs).1[k]? =some x→vs[k]? =some v→AR E.w0 R1 E.A x v (os k):=by
    cases h1 with
    |sc h e=>exact h.elim
    |agg os hn hx hu=>exact⟨_,rfl,hn,os,hx⟩
   obtain⟨vs,rfl,hvn,os1,hvx⟩:=key
   have hil: ∀(l:List AV)(b:Nat),(aD b l).1.length=l.length:=by
    intro l
    induction l with
    |nil=>intro b;rfl
    |cons x l ih=>intro b;simp[aD,ih]
   have hanch:=uZ (loc:=E.A) (R:=R1) (E:=E) (w:=E.w0) (fun _ _ k=>k) rfl cs vs.toList e0 (by simpa[hil]using hvn) fun k x v k1 k2=>⟨_,hvx k x v k1 (by simpa using k2)⟩
   obtain⟨O2,h5,h6⟩:=lD hr (ie e0 cs) cs os vs.toList han hG hanch
   refine⟨O2,h5,fun R' hR=>⟨O2,ae,fun g o=>by simp[ae],ah.disj',?_,?_⟩⟩
   ·obtain⟨u1,os2,u2,u3⟩:=aL _ _ _ (h6 R' hR)
    exact .agg os2 (by simpa using u1) (fun k x v k1 k2=>u2 k x v k1 (by simpa using k2)) u3
   ·have: ∀(l:List AV)(vs:List Value),vs.length=l.length→Parts w R' aC (aa l) vs ae:=by
     intro l
     induction l with
     |nil=>intro vs hl;match vs,hl with|[],_=>exact ah
     |cons x l ih=>
      intro vs hl
      match vs,hl with
      |v::vs,hl=>exact⟨ae,ae,fun g o=>by simp[ae],ah.disj,.sc trivial ah,ih vs (by simpa using hl)⟩
    refine this rest vr ?_
    have hl2:=(aL _ _ _ h2).1
    have hiv: ∀(l:List AV)(b:Nat),(bV b l).1.length=l.length:=by
     intro l
     induction l with
     |nil=>intro b;rfl
     |cons x l ih=>intro b;simp[bV,ih]
    rw[hl2,hiv]) h
end
end Go.Abs

/- The abstract layer, 21: what the simplifier is told. -/
noncomputable section
namespace Go.Abs
open Go
def lw:List (Nat × AV)→Nat→AV
 |[],_=>.undef
 |p::l,k=>if k=p.1 then p.2 else lw l k
def lookM:List (Nat × MB)→MB→Nat→MB
 |[],d,_=>d
 |p::l,d,k=>lookM l (if k=p.1 then p.2 else d) k
def St.of(n:Nat)(ts:List (Nat × AV))(ms:List (Nat × MB)):St:=⟨n,lw ts,lookM ms .abs,[]⟩
def mD(k:Nat):List AV→List (Nat × AV)
 |[]=>[]
 |x::l=>(k,x)::mD (k+1) l
def AV.in0(bs:List Nat):AV→Bool
 | .ref b _ _=>bs.contains b
 | .ptr b _ _=>bs.contains b
 |_=>true
def AV.in1(bs:List Nat):AV→Bool
 | .fn _ caps=>caps.all fun c=>c.isPtr&&c.in0 bs
 | .ref b _ _=>bs.contains b
 | .ptr b _ _=>bs.contains b
 | .agg _=>false
 | .tup _=>false
 | .obj _=>false
 |_=>true
def AV.inB(bs:List Nat):AV→Bool
 | .agg cs=>cs.all (AV.in1 bs)
 | .tup cs=>cs.all (AV.in1 bs)
 |v=>v.in1 bs
def EE(bs:List Nat):MB→Bool
 | .live b=>b.arr||b.rows.all fun row=>row.all (AV.in1 bs)
 |_=>true
def St.keep(st:St)(ks bs:List Nat):St:=St.of st.n (ks.map fun k=>(k,st.t k)) (bs.map fun b=>(b,st.m b))
section
variable{P:Program}{T:TT}{st:St}
theorem uF: ∀(l:List (Nat × MB))(st:St)(k:Nat),(st.mws l).m k=lookM l (st.m k) k
 |[],_,_=>rfl
 |p::l,st,k=>uF l _ k
theorem pe: ∀(l:List AV)(j k:Nat),lw (mD j l) k=if j≤k then l.getD (k-j) .undef else .undef
 |[],j,k=>by simp[mD,lw]
 |x::l,j,k=>by
  simp only[mD,lw]
  rw[pe l (j+1) k]
  by_cases h:k=j
  ·subst h;simp
  ·rw[if_neg h]
   by_cases h2:j+1≤k
   ·rw[if_pos h2,if_pos (by omega)]
    obtain⟨m,rfl⟩: ∃m,k=j+1+m:=⟨k-(j+1),by omega⟩
    rw[show j+1+m-(j+1)=m by omega,show j+1+m-j=m+1 by omega]
    rfl
   ·rw[if_neg h2,if_neg (by omega)]
theorem AO(n:Nat)(as:List AV):enter n as=St.of n (mD 0 (bV e0 as).1) (bV e0 as).2:=by
 unfold enter St.of
 have h1:(fun k=>(bV e0 as).1.getD k .undef)=lw (mD 0 (bV e0 as).1):=by
  funext k;rw[pe];simp
 have h2:(St.mws ⟨n,fun _=>.undef,fun _=>.abs,[]⟩ (bV e0 as).2).m=lookM (bV e0 as).2 .abs:=by
  funext k;rw[uF]
 rw[h1,←h2]
 simp only[fE,oq]
theorem Con.of{f:FuncId}{fn:Func}{c:Code}{as:List AV}{res:AV}(n:Nat)(hT:T.ok P)(hf:P.funcs[f]? =some fn)(hn:(fn.name== "runtime.NumGoroutine")=false)(hb:fn.body=some c)(hok:as.all cN=true)
  (hnn:as.length+(fn.ntmps-as.length)=n)(rs:List ResultVar)(hrs:fn.results.toList=rs)
  (h:WP P c (Ib T rs res) (St.of n (mD 0 (bV e0 as).1) (bV e0 as).2)):Con P f as (aa as) res:=by
 refine Con.of_WP hT hf hn hb hok ?_
 rw[AO,hnn,hrs]
 exact h
variable{w:World}{R:Cells}{E:Env}{a:Act}{X:Cells}
def Ji(loc:bG)(bs:List Nat):bG:=fun b=>if bs.contains b=true then loc b else none
theorem tq{loc:bG}{bs:List Nat}{b:Nat}(h:bs.contains b=true):Ji loc bs b=loc b:=if_pos h
theorem AR.in0{loc:bG}{x:AV}{v:Value}{O:Cells}{bs:List Nat}(h:AR w R loc x v O)(hx:x.isPtr=true)(hb:x.in0 bs=true):AR w R (Ji loc bs) x v O:=by
 cases h with
 |ptr l e hl hbd hi=>exact .ptr l e ((tq hb).trans hl) hbd hi
 |rp vs e h1 h2 h3 h4=>exact .rp vs e h1 h2 h3 h4
 |sc h e=>cases x<;>first|exact h.elim|simp[AV.isPtr]at hx
 |_=>simp[AV.isPtr]at hx
theorem AR.in1{loc:bG}{x:AV}{v:Value}{O:Cells}{bs:List Nat}(h:AR w R loc x v O)(hb:x.in1 bs=true):AR w R (Ji loc bs) x v O:=by
 cases h with
 |sc h e=>exact .sc h e
 |ro0 e=>exact .ro0 e
 |ro vs e h1 h2 h3 h4 h5 h6 h7 hm=>exact .ro vs e h1 h2 h3 h4 h5 h6 h7 hm
 |own0 e=>exact .own0 e
 |own vs os h1 h2 h3 h4 h5 h6 h7 h8 h9 h10 hm=>exact .own vs os h1 h2 h3 h4 h5 h6 h7 h8 h9 h10 hm
 |ref0 l e hl hn=>exact .ref0 l e ((tq hb).trans hl) hn
 |ref l e hl hbd hn hcap hbf hm=>exact .ref l e ((tq hb).trans hl) hbd hn hcap hbf hm
 |ptr l e hl hbd hi=>exact .ptr l e ((tq hb).trans hl) hbd hi
 |rp vs e h1 h2 h3 h4=>exact .rp vs e h1 h2 h3 h4
 | @fn _ f caps vs _ os hn hxx hu=>
  simp only[AV.in1,List.all_eq_true,Bool.and_eq_true]at hb
  exact .fn os hn (fun k x v h1 h2=>(hxx k x v h1 h2).in0 (hb x (List.mem_of_getElem? h1)).1 (hb x (List.mem_of_getElem? h1)).2) hu
 |obj _ _ _ _ _ _ _ _ _=>simp[AV.in1]at hb
 |agg _ _ _ _=>simp[AV.in1]at hb
 |tup _ _ _ _=>simp[AV.in1]at hb
theorem AR.inB{loc:bG}{x:AV}{v:Value}{O:Cells}{bs:List Nat}(h:AR w R loc x v O)(hb:x.inB bs=true):AR w R (Ji loc bs) x v O:=by
 cases x with
 |agg cs=>
  cases h with
  |sc h e=>exact h.elim
  |agg os hn hxx hu=>
   simp only[AV.inB,List.all_eq_true]at hb
   exact .agg os hn (fun k x v h1 h2=>(hxx k x v h1 h2).in1 (hb x (List.mem_of_getElem? h1))) hu
 |tup cs=>
  cases h with
  |sc h e=>exact h.elim
  |tup os hn hxx hu=>
   simp only[AV.inB,List.all_eq_true]at hb
   exact .tup os hn (fun k x v h1 h2=>(hxx k x v h1 h2).in1 (hb x (List.mem_of_getElem? h1))) hu
 |_=>exact h.in1 hb
end
end Go.Abs

/- The abstract layer, 22: from a contract to a given row. -/
noncomputable section
namespace Go.Abs
open Go Go.RowKit
theorem Frame.below{w w':World}(h:Frame w w' ae):Below w.heap.size w w':=⟨h.os,h.tape,h.output,h.size,fun k hk=>h.same k hk fun _ k=>k⟩
theorem Con.law{P:Program}{f:FuncId}{as:List AV}{b:Bool}(h:Con P f as (aa as) (.bool b))(w:World)(tb:Tabs P w ae)(vals:List Value)(hp:Parts w (fun g _=>g<w.heap.size) aC as vals ae):
  Calls P f vals.toArray w (fun e w'=>e=.returned (.bool b)∧Below w.heap.size w w'):=by
 refine(h.calls w _ ae vals hp (fun g o k=>⟨k,fun k=>k⟩) (fun g o k=>k.elim) tb).mono fun e w' hb=> ?_
 cases e with
 |returned v=>
  obtain⟨O',hF,hO',O1,O2,hOO,hdd,hres,hrest⟩:=hb
  rw[hres.inv_bool]
  exact⟨rfl,hF.below⟩
 |panicked ch=>exact hb.elim
 |outgrown=>exact hb.elim
theorem oJ(w:World)(R:Cells)(loc:bG):Parts w R loc [] [] ae:=ah
theorem hS{w:World}{R:Cells}{loc:bG}{x:AV}{l:List AV}{v:Value}{vs:List Value}(hx:AR w R loc x v ae)(hp:Parts w R loc l vs ae):Parts w R loc (x::l) (v::vs) ae:=
 ⟨ae,ae,fun g o=>by simp[ae],ah.disj,hx,hp⟩
theorem D4{k:IntKind}{n:Int}(h:(Lit.int k n).wf=true):dE k n=true:=by
 cases k<;>simp[Lit.wf,IntKind.min,IntKind.max,IntKind.signed,IntKind.bits,dE]at h⊢ <;>omega
theorem FR{w:World}{R:Cells}{loc:bG}{k:IntKind}{n:Int}(h:(Lit.int k n).wf=true):AR w R loc (.int k n) (.int k n) ae:=.sc ⟨rfl,D4 h⟩ ah
theorem Dl{w:World}{R:Cells}{loc:bG}(b:Bool):AR w R loc (.bool b) (.bool b) ae:=.sc rfl ah
theorem Fv{w:World}{R:Cells}{loc:bG}{s:ByteArray}(h:s.size≤maxLen):AR w R loc (.str s.data.toList) (.string s) ae:=.sc ⟨by simp,by have e:s.data.toList.length=s.size:=rfl;rw[e];exact h⟩ ah
end Go.Abs

/- The abstract layer, 23: regions that draw their order. -/
noncomputable section
namespace Go.Abs
open Go
def RP.runL{α:Type}:RP α→St→(α→List Nat→List Nat→Prop)→Prop
 | .ret a,_,K=>K a [] []
 | .tmp k c,st,K=>(c (st.t k)).runL st fun a s m=>K a (k::s) m
 | .mem b c,st,K=>(c (st.m b)).runL st fun a s m=>K a s (b::m)
 | .req b c,st,K=>Rq b (c.runL st K)
 | .fail,_,_=>False
def RP.logged{α:Type}:RP α→St→Option (α × List Nat × List Nat)
 | .ret a,_=>some (a,[],[])
 | .tmp k c,st=>((c (st.t k)).logged st).map fun x=>(x.1,k::x.2.1,x.2.2)
 | .mem b c,st=>((c (st.m b)).logged st).map fun x=>(x.1,x.2.1,b::x.2.2)
 | .req b c,st=>if b=true then c.logged st else none
 | .fail,_=>none
def AgrS(st st':St)(rs rm:List Nat):Prop:=st'.n=st.n∧(∀k∈rs,st'.t k=st.t k)∧ ∀b∈rm,st'.m b=st.m b
def Jh(P:Program)(T:TT)(o:Oper)(st:St)(r:di)(rs rm:List Nat):Prop:= ∀st',AgrS st st' rs rm→tY P T o st' fun s=>s=st'.after o r
def bQ(o:Oper)(res:AV):di:=match o.dst with
 |none=>(.undef,[])
 |some d=>gP (EF d 0) res
def StpL(P:Program)(T:TT)(ops:List Oper)(o:Oper)(st:St)(r:di)(rs rm:List Nat):Prop:=
 st.dstOk o.dst=true∧ ∀st',AgrS st st' rs rm→jU P T ops o st' fun s=>s=st'.after o r
structure Item where
 i:Nat
 o:Oper
 r:di
 rs:List Nat
 rm:List Nat
def Item.ws(x:Item):List Nat:=x.o.dst.toList
def Item.wm(x:Item):List Nat:=x.r.2.map (·.1)
def gN(l l':List Nat):Bool:=l.all fun a=> !(l'.contains a)
def gV(y x:Item):Bool:=gN y.ws x.rs&&gN x.ws y.rs&&gN y.ws x.ws&&gN y.wm x.rm&&gN x.wm y.rm&&gN y.wm x.wm
def Exec(P:Program)(T:TT)(ops:List Oper):List Item→St→St→Prop
 |[],st,st'=>st'=st
 |x::l,st,st'=>StpL P T ops x.o st x.r x.rs x.rm∧Exec P T ops l (st.after x.o x.r) st'
def iS(o:Oper):List Nat:=(o.after.toList.filter fun e=>Region.binds .any e).map (·.on)
def yH:List Oper→List (List Nat)→List (List Nat)
 |[],acc=>acc
 |o::l,acc=>yH l (acc++[((iS o)++(iS o).flatMap fun d=>acc.getD d []).eraseDups])
def Ht(ops:List Oper):List (List Nat):=yH ops []
def nV(ops:List Oper)(cl:List (List Nat)):Bool:=
 (List.range ops.length).all fun i=>match ops[i]? with
  |some o=>(iS o).all (fun d=>decide (d<i))&&(cl.getD i []).all fun k=>(iS o).any fun d=>d==k||(cl.getD d []).contains k
  |none=>true
def zJ(P:Program)(T:TT)(o:Oper)(st:St)(K:di→List Nat→List Nat→Prop):Prop:=match o.op with
 | .call c=>match c.callee with
  | .value f=>((rc c f).runL st fun q s m=>match q.1 with
   | .fn f caps=>match caps with
    |[]=> ∃res,Con P f q.2.2 (aa q.2.2) res∧(match o.dst with|none=>true|some _=>gm res)=true∧((bQ o res).2.all fun p=>match st.m p.1 with| .abs=>true|_=>false)=true∧
      ((!(q.2.1.any AV.hasRef)||res.nr)=true∧K (bQ o res) s (m++(bQ o res).2.map (·.1))∨
       (gN (hN q.2.1) ((bQ o res).2.map (·.1))=true∧K ((bQ o res).1,jy q.2.1++(bQ o res).2) s (m++(bQ o res).2.map (·.1))))
    |_=>False
   |_=>False)∨ ∃r s m,Jh P T o st r s m∧K r s m
  |_=>(io T o).runL st K
 |_=>(io T o).runL st K
def rq(d:Nat)(want:Bool)(st:St)(X:(di→List Nat→List Nat→Prop)→Prop)(K:di→List Nat→List Nat→Prop):AV→Prop
 | .bool b=>Br b (if want=true then X fun r s m=>K r (d::s) m else K (.tup [],[]) [d] []) (if want=true then K (.tup [],[]) [d] []else X fun r s m=>K r (d::s) m)
 | .tup []=>K (.tup [],[]) [d] []
 |_=>False
def rV(P:Program)(T:TT)(ops:List Oper)(o:Oper)(st:St)(K:di→List Nat→List Nat→Prop):Prop:=match jE ops o with
 |some none=>zJ P T o st K
 |some (some q)=>rq q.1 q.2 st (zJ P T o st) K (st.t q.1)
 |none=>False
def zL(P:Program)(T:TT)(ops:List Oper)(cl:List (List Nat)):List Item→Nat→List Oper→St→(St→Prop)→Prop
 |_,_,[],st,K=>K st
 |past,i,o::rest,st,K=>rV P T ops o st fun r s m=>Rq (st.dstOk o.dst) (Rq (past.all fun y=>(cl.getD i []).contains y.i||gV y ⟨i,o,r,s,m⟩)
   (zL P T ops cl (⟨i,o,r,s,m⟩::past) (i+1) rest (st.after o r) K))
section
variable{P:Program}{T:TT}{E:Env}{o:Oper}{st st':St}{a:Act}{w:World}{X:Cells}{loc:bG}{ob:Nat→Cells}{r:di}
theorem cS{α:Type}{st:St}: ∀{p:RP α}{K:α→List Nat→List Nat→Prop},p.runL st K→ ∃a s m,p.logged st=some (a,s,m)∧K a s m
 | .ret a,K,h=>⟨a,[],[],rfl,h⟩
 | .tmp k c,K,h=>by
  obtain⟨a,s,m,h1,h2⟩:=cS (p:=c (st.t k)) h
  exact⟨a,k::s,m,by simp[RP.logged,h1],h2⟩
 | .mem b c,K,h=>by
  obtain⟨a,s,m,h1,h2⟩:=cS (p:=c (st.m b)) h
  exact⟨a,s,b::m,by simp[RP.logged,h1],h2⟩
 | .req b c,K,h=>by
  obtain⟨h0,h⟩:=h
  obtain⟨a,s,m,h1,h2⟩:=cS (p:=c) h
  exact⟨a,s,m,by simp[RP.logged,h0,h1],h2⟩
 | .fail,K,h=>h.elim
theorem logged_run{α:Type}{st:St}: ∀{p:RP α}{x:α × List Nat × List Nat},p.logged st=some x→p.run st=some x.1
 | .ret a,x,h=>by simp only[RP.logged,Option.some.injEq]at h;subst h;rfl
 | .tmp k c,x,h=>by
  simp only[RP.logged,Option.map_eq_some_iff]at h
  obtain⟨y,h1,rfl⟩:=h
  show(c (st.t k)).run st=some y.1
  exact logged_run h1
 | .mem b c,x,h=>by
  simp only[RP.logged,Option.map_eq_some_iff]at h
  obtain⟨y,h1,rfl⟩:=h
  show(c (st.m b)).run st=some y.1
  exact logged_run h1
 | .req b c,x,h=>by
  simp only[RP.logged]at h
  split at h
  ·rename_i hb
   simp only[RP.run,hb,if_true]
   exact logged_run h
  ·cases h
 | .fail,x,h=>by cases h
theorem dQ{α:Type}{st st':St}: ∀{p:RP α}{x:α × List Nat × List Nat},p.logged st=some x→(∀k∈x.2.1,st'.t k=st.t k)→(∀b∈x.2.2,st'.m b=st.m b)→p.logged st'=some x
 | .ret a,x,h,_,_=>h
 | .tmp k c,x,h,h1,h2=>by
  simp only[RP.logged,Option.map_eq_some_iff]at h⊢
  obtain⟨y,h3,rfl⟩:=h
  refine⟨y,?_,rfl⟩
  rw[h1 k (by simp)]
  exact dQ (p:=c (st.t k)) h3 (fun j hj=>h1 j (by simp[hj])) h2
 | .mem b c,x,h,h1,h2=>by
  simp only[RP.logged,Option.map_eq_some_iff]at h⊢
  obtain⟨y,h3,rfl⟩:=h
  refine⟨y,?_,rfl⟩
  rw[h2 b (by simp)]
  exact dQ (p:=c (st.m b)) h3 h1 (fun j hj=>h2 j (by simp[hj]))
 | .req b c,x,h,h1,h2=>by
  simp only[RP.logged]at h⊢
  split at h
  ·rename_i hb;rw[if_pos hb];exact dQ h h1 h2
  ·cases h
 | .fail,x,h,_,_=>by cases h
theorem fi{α:Type}: ∀{p:RP α}{x:α}{K:α→Prop},p.run st=some x→K x→p.runK st K
 | .ret a,x,K,h,hk=>by injection h with h;subst h;exact hk
 | .tmp k c,x,K,h,hk=>fi (p:=c (st.t k)) h hk
 | .mem b c,x,K,h,hk=>fi (p:=c (st.m b)) h hk
 | .req b c,x,K,h,hk=>by
  simp only[RP.run]at h
  split at h
  ·rename_i hb;exact⟨hb,fi (p:=c) h hk⟩
  ·cases h
 | .fail,x,K,h,hk=>by cases h
theorem AgrS.dst{rs rm:List Nat}(h:AgrS st st' rs rm)(d:Option Nat):st'.dstOk d=st.dstOk d:=by
 unfold St.dstOk
 rw[h.1]
theorem HJ{K:di→List Nat→List Nat→Prop}(h:zJ P T o st K): ∃r s m,K r s m:=by
 unfold zJ at h
 split at h
 ·split at h
  ·rcases h with h|⟨r,s,m,_,hk⟩
   ·obtain⟨q,s,m,_,h2⟩:=cS h
    split at h2
    ·split at h2
     ·obtain⟨res,_,_,_,⟨_,hk⟩|⟨_,hk⟩⟩:=h2
      ·exact⟨_,_,_,hk⟩
      ·exact⟨_,_,_,hk⟩
     ·exact h2.elim
    ·exact h2.elim
   ·exact⟨r,s,m,hk⟩
  ·obtain⟨r,s,m,_,hk⟩:=cS h
   exact⟨r,s,m,hk⟩
 ·obtain⟨r,s,m,_,hk⟩:=cS h
  exact⟨r,s,m,hk⟩
theorem yJ{K:di→List Nat→List Nat→Prop}(hd:st.dstOk o.dst=true)(h:zJ P T o st K): ∃r s m,Jh P T o st r s m∧K r s m:=by
 have gen:(io T o).runL st K→(∀st' K',GZ T o st' K'→tY P T o st' K')→ ∃r s m,Jh P T o st r s m∧K r s m:=by
  intro h hop
  obtain⟨r,s,m,h1,h2⟩:=cS h
  refine⟨r,s,m,fun st' ha=>hop st' _ ⟨(ha.dst _).trans hd,fi (logged_run (dQ h1 ha.2.1 ha.2.2)) rfl⟩,h2⟩
 unfold zJ at h
 split at h
 ·rename_i c ho
  split at h
  ·rename_i fo hc
   rcases h with h|h
   case inr=>exact h
   obtain⟨q,s,m,h1,h2⟩:=cS h
   split at h2
   case h_2=>exact h2.elim
   rename_i f caps hf
   split at h2
   case h_2=>exact h2.elim
   obtain⟨res,hcon,hok,hnew,hK⟩:=h2
   have land: ∀(st' st2:St),st2.n=st'.n→AgrS st st' s (m++(bQ o res).2.map (·.1))→(∀b∈(bQ o res).2.map (·.1),st2.m b=st'.m b)→ ∀s2:St,s2=(st2.mws (bQ o res).2).put o.dst (bQ o res).1→fh o st2 res fun s=>s=s2:=by
    intro st' st2 hn ha hm s2 hs2
    subst hs2
    unfold fh
    cases hdd:o.dst with
    |none=>simp only[bQ,hdd];rfl
    |some d=>
     rw[hdd]at hok
     refine⟨hok,?_,?_,?_⟩
     ·rw[List.all_eq_true]
      intro p hp
      have hp':p.1∈(bQ o res).2.map (·.1):=by simp only[bQ,hdd];exact List.mem_map.2 ⟨p,hp,rfl⟩
      have h3:=List.all_eq_true.1 hnew p (by simp only[bQ,hdd];exact hp)
      rw[hm p.1 hp',ha.2.2 p.1 (by simp only[List.mem_append];exact .inr hp')]
      exact h3
     ·have:=(ha.dst (some d)).trans (hdd▸hd)
      unfold St.dstOk at this
      simp only at this
      rw[hn]
      exact this
     ·simp only[bQ,hdd]
   have run: ∀st',AgrS st st' s (m++(bQ o res).2.map (·.1))→(rc c fo).run st'=some q:=fun st' ha=>
    logged_run (dQ h1 ha.2.1 fun b hb=>ha.2.2 b (by simp[hb]))
   rcases hK with⟨hq,hK⟩|⟨hap,hK⟩
   ·refine⟨_,s,_,fun st' ha=> ?_,hK⟩
    unfold tY
    simp only[ho,hc]
    refine .inl (fi (run st' ha) ?_)
    unfold nq
    rw[hf]
    exact .inl ⟨res,hcon,.inl ⟨hq,land st' st' rfl ha (fun _ _=>rfl) _ rfl⟩⟩
   ·refine⟨_,s,_,fun st' ha=> ?_,hK⟩
    unfold tY
    simp only[ho,hc]
    refine .inl (fi (run st' ha) ?_)
    unfold nq
    rw[hf]
    refine .inl ⟨res,hcon,.inr (land st' (st'.mws (jy q.2.1)) (fE _ _) ha (fun b hb=> ?_) _ ?_)⟩
    ·unfold jy
     rw[lO,if_neg]
     intro hb2
     have:=List.all_eq_true.1 hap b hb2
     simp only[Bool.not_eq_true']at this
     rw[List.contains_eq_mem]at this
     simp only[decide_eq_false_iff_not]at this
     exact this hb
    ·unfold St.after
     rw[cx]
  ·rename_i hne
   exact gen h fun st' K' hk=>by
    unfold tY
    simp only[ho]
    exact hk
 ·rename_i hne
  exact gen h fun st' K' hk=>by
   unfold tY
   cases ho:o.op with
   |call c=>exact absurd ho (hne c)
   |binOp=>exact .inl hk
   |_=>exact hk
theorem zh{ops:List Oper}{K:di→List Nat→List Nat→Prop}(h:rV P T ops o st K)(hd:st.dstOk o.dst=true): ∃r s m,StpL P T ops o st r s m∧K r s m:=by
 unfold rV at h
 split at h
 ·rename_i hg
  obtain⟨r,s,m,h1,h2⟩:=yJ hd h
  refine⟨r,s,m,⟨hd,fun st' ha=> ?_⟩,h2⟩
  unfold jU
  simp only[hg]
  exact h1 st' ha
 ·rename_i q hg
  obtain⟨d,want⟩:=q
  simp only at h hg
  unfold rq at h
  split at h
  ·rename_i b hb
   have key:(b=want→zJ P T o st fun r s m=>K r (d::s) m)∧(b≠want→K (.tup [],[]) [d] []):=by
    obtain⟨h1,h2⟩:=h
    cases b<;>cases want<;>simp_all
   have step: ∀(st':St)(r:di),st'.t d=.bool b→st'.dstOk o.dst=true→(b=want→tY P T o st' fun s=>s=st'.after o r)→(b≠want→st'.put o.dst (.tup [])=st'.after o r)→jU P T ops o st' fun s=>s=st'.after o r:=by
    intro st' r hv hd' dk sk
    unfold jU
    simp only[hg]
    refine⟨hd',?_⟩
    rw[hv]
    unfold tF
    cases b with
    |true=>
     refine⟨fun _=> ?_,fun h=>Bool.noConfusion h⟩
     rw[le hv]
     cases want with
     |true=>exact dk rfl
     |false=>exact sk (by simp)
    |false=>
     refine⟨fun h=>Bool.noConfusion h,fun _=> ?_⟩
     rw[le hv]
     cases want with
     |true=>exact sk (by simp)
     |false=>exact dk rfl
   by_cases hw:b=want
   ·obtain⟨r,s,m,h1,h2⟩:=yJ hd (key.1 hw)
    exact⟨r,d::s,m,⟨hd,fun st' ha=>step st' r ((ha.2.1 d (by simp)).trans hb) ((ha.dst _).trans hd) (fun _=>h1 st' ⟨ha.1,fun k hk=>ha.2.1 k (by simp[hk]),ha.2.2⟩) fun hne=>absurd hw hne⟩,h2⟩
   ·exact⟨(.tup [],[]),[d],[],⟨hd,fun st' ha=>step st' _ ((ha.2.1 d (by simp)).trans hb) ((ha.dst _).trans hd) (fun he=>absurd he hw) fun _=>rfl⟩,key.2 hw⟩
  ·rename_i hb
   refine⟨(.tup [],[]),[d],[],⟨hd,fun st' ha=> ?_⟩,h⟩
   unfold jU
   simp only[hg]
   refine⟨(ha.dst _).trans hd,?_⟩
   rw[(ha.2.1 d (by simp)).trans hb]
   show _=_
   rfl
  ·exact h.elim
 ·exact h.elim
theorem StpL.agree{ops:List Oper}{rs rm:List Nat}(h:StpL P T ops o st r rs rm)(h1: ∀k∈rs,st'.t k=st.t k)(h2: ∀b∈rm,st'.m b=st.m b)(hn:st'.n=st.n):StpL P T ops o st' r rs rm:=by
 refine⟨(AgrS.dst ⟨hn,h1,h2⟩ _).trans h.1,fun st2 ha=>h.2 st2 ⟨ha.1.trans hn,fun k hk=>(ha.2.1 k hk).trans (h1 k hk),fun b hb=>(ha.2.2 b hb).trans (h2 b hb)⟩⟩
end
end Go.Abs

/- The abstract layer, 24: a region that draws its order may be walked in its text's order. -/
noncomputable section
namespace Go.Abs
open Go
section
variable{P:Program}{T:TT}{E:Env}{o:Oper}{st st':St}{a:Act}{w:World}{X:Cells}{loc:bG}{ob:Nat→Cells}{r:di}
theorem jK(o:Oper)(r:di)(st:St)(k:Nat)(hk: ∀d,o.dst=some d→k≠d):(st.after o r).t k=st.t k:=by
 unfold St.after
 cases hd:o.dst with
 |none=>simp[St.put,vw]
 |some d=>simp[St.put,bi,hk d hd,vw]
theorem jQ(o:Oper)(r:di)(st:St)(b:Nat)(hb:b∉r.2.map (·.1)):(st.after o r).m b=st.m b:=by
 unfold St.after
 have: ∀(d:Option Nat)(v:AV)(s:St),(s.put d v).m=s.m:=by intro d v s;cases d<;>rfl
 rw[this]
 exact dJ _ _ fun p hp e=>hb (List.mem_map.2 ⟨p,hp,e⟩)
theorem tK(o:Oper)(r:di)(st:St):(st.after o r).n=st.n:=by
 unfold St.after
 have: ∀(d:Option Nat)(v:AV)(s:St),(s.put d v).n=s.n:=by intro d v s;cases d<;>rfl
 rw[this,fE]
theorem iz(o:Oper)(r:di)(st:St)(d:Nat)(hd:o.dst=some d):(st.after o r).t d=r.1:=by
 unfold St.after
 rw[hd]
 simp[St.put,bi]
theorem uK(l:List (Nat × MB)): ∀(s s':St)(b:Nat),b∈l.map (·.1)→(s.mws l).m b=(s'.mws l).m b:=by
 induction l with
 |nil=>intro s s' b hb;simp at hb
 |cons p l ih=>
  intro s s' b hb
  by_cases h:b∈l.map (·.1)
  ·exact ih _ _ b h
  ·have hne: ∀q∈l,q.1≠b:=fun q hq e=>h (List.mem_map.2 ⟨q,hq,e⟩)
   simp only[St.mws]
   rw[dJ l _ hne,dJ l _ hne]
   simp only[List.map_cons,List.mem_cons,h,or_false]at hb
   subst hb
   simp[bi]
theorem qF(o:Oper)(r:di)(s s':St)(b:Nat)(hb:b∈r.2.map (·.1)):(s.after o r).m b=(s'.after o r).m b:=by
 unfold St.after
 have: ∀(d:Option Nat)(v:AV)(s:St),(s.put d v).m=s.m:=by intro d v s;cases d<;>rfl
 rw[this,this]
 exact uK _ _ _ b hb
theorem fA{l l':List Nat}(h:gN l l'=true){k:Nat}(h1:k∈l)(h2:k∈l'):False:=by
 have:=List.all_eq_true.1 h k h1
 simp[h2]at this
theorem FD(s:St)(d:Option Nat)(v:AV):(s.put d v).an=s.an:=by cases d<;>rfl
theorem Bd(s:St)(o:Oper)(r:di):(s.after o r).an=s.an:=by
 unfold St.after
 rw[FD,oq]
theorem wa{ops:List Oper}{y x:Item}{st:St}(hy:StpL P T ops y.o st y.r y.rs y.rm)(hx:StpL P T ops x.o (st.after y.o y.r) x.r x.rs x.rm)(hi:gV y x=true):
  StpL P T ops x.o st x.r x.rs x.rm∧StpL P T ops y.o (st.after x.o x.r) y.r y.rs y.rm∧(st.after y.o y.r).after x.o x.r=(st.after x.o x.r).after y.o y.r:=by
 simp only[gV,Bool.and_eq_true]at hi
 obtain⟨⟨⟨⟨⟨h1,h2⟩,h3⟩,h4⟩,h5⟩,h6⟩:=hi
 have dst: ∀(z:Item) d,z.o.dst=some d→d∈z.ws:=fun z d hd=>by simp[Item.ws,hd]
 have hx':StpL P T ops x.o st x.r x.rs x.rm:=hx.agree (fun k hk=>(jK _ _ _ _ fun d hd e=>fA h1 (dst y d hd) (e▸hk)).symm) (fun b hb=>(jQ _ _ _ _ fun hm=>fA h4 hm hb).symm) (tK _ _ _).symm
 have hy':StpL P T ops y.o (st.after x.o x.r) y.r y.rs y.rm:=hy.agree (fun k hk=>jK _ _ _ _ fun d hd e=>fA h2 (dst x d hd) (e▸hk)) (fun b hb=>jQ _ _ _ _ fun hm=>fA h5 hm hb) (tK _ _ _)
 refine⟨hx',hy',?_⟩
 have ext: ∀s s':St,s.n=s'.n→s.an=s'.an→(∀k,s.t k=s'.t k)→(∀b,s.m b=s'.m b)→s=s':=by
  intro s s' e1 e4 e2 e3
  cases s;cases s'
  simp only[St.mk.injEq]
  exact⟨e1,funext e2,funext e3,e4⟩
 refine ext _ _ (by simp only[tK]) (by simp only[Bd]) (fun k=> ?_) (fun b=> ?_)
 ·by_cases hkx:x.o.dst=some k
  ·rw[iz _ _ _ _ hkx,jK y.o _ _ _ fun d hd e=>fA h3 (dst y d hd) (e▸dst x k hkx),iz _ _ _ _ hkx]
  ·have nx: ∀d,x.o.dst=some d→k≠d:=fun d hd e=>hkx (e▸hd)
   rw[jK x.o _ _ _ nx]
   by_cases hky:y.o.dst=some k
   ·rw[iz _ _ _ _ hky,iz _ _ _ _ hky]
   ·have ny: ∀d,y.o.dst=some d→k≠d:=fun d hd e=>hky (e▸hd)
    rw[jK y.o _ _ _ ny,jK y.o _ _ _ ny,jK x.o _ _ _ nx]
 ·by_cases hbx:b∈x.r.2.map (·.1)
  ·rw[jQ y.o _ _ _ fun hm=>fA h6 hm hbx]
   exact qF _ _ _ _ b hbx
  ·rw[jQ x.o _ _ _ hbx]
   by_cases hby:b∈y.r.2.map (·.1)
   ·exact qF _ _ _ _ b hby
   ·rw[jQ y.o _ _ _ hby,jQ y.o _ _ _ hby,jQ x.o _ _ _ hbx]
theorem Exec.front{ops:List Oper}{x:Item}{post:List Item}: ∀(pre:List Item)(st st':St),Exec P T ops (pre++x::post) st st'→(∀y∈pre,gV y x=true)→StpL P T ops x.o st x.r x.rs x.rm∧Exec P T ops (pre++post) (st.after x.o x.r) st'
 |[],st,st',h,_=>h
 |y::pre,st,st',⟨hy,h⟩,hi=>by
  obtain⟨hx,hrest⟩:=Exec.front pre _ _ h fun z hz=>hi z (by simp[hz])
  obtain⟨h1,h2,h3⟩:=wa hy hx (hi y (by simp))
  exact⟨h1,h2,by rw[←h3];exact hrest⟩
theorem StpL.wp(hT:T.ok P)(tb:Tabs P E.w0 E.O0){ops:Array Oper}{rs rm:List Nat}(h:StpL P T ops.toList o st r rs rm)(hr:Rel E st a w ae){next:Act→World→Prop}{Q:Exit→Act→World→Prop}
  (hn: ∀a' w',Rel E (st.after o r) a' w' ae→next a' w'):
  if Region.wanted o (yielded ops a.tmps)then o.wp P a w next Q∨(o.asks P a w∧LetsOut Q)else next (a.put o.dst undef) w:=by
 exact uI (T:=T) (K:=fun s=>s=st.after o r) hT tb hr (h.2 st ⟨rfl,fun _ _=>rfl,fun _ _=>rfl⟩) fun s a' w' hs h'=>hn a' w' (hs▸h')
end
end Go.Abs

/- The abstract layer, 25: the rule for a region that draws its order. -/
noncomputable section
namespace Go.Abs
open Go
section
variable{P:Program}{T:TT}{E:Env}{st st':St}{a:Act}{w:World}
def AB(cl:List (List Nat))(y x:Item):Prop:=y.i<x.i∧((cl.getD x.i []).contains y.i=true∨gV y x=true)
theorem Du{o:Oper}{e:Edge}(h1:e∈o.after)(h2:Region.binds .any e=true):e.on∈iS o:=by
 unfold iS
 exact List.mem_map.2 ⟨e,List.mem_filter.2 ⟨by simpa using h1,h2⟩,rfl⟩
theorem De{o:Oper}{d:Nat}(h:d∈iS o): ∃e∈o.after,Region.binds .any e=true∧e.on=d:=by
 unfold iS at h
 obtain⟨e,he,rfl⟩:=List.mem_map.1 h
 obtain⟨h1,h2⟩:=List.mem_filter.1 he
 exact⟨e,by simpa using h1,h2,rfl⟩
theorem qD{ops:List Oper}{cl:List (List Nat)}(h:nV ops cl=true){i:Nat}{o:Oper}(ho:ops[i]? =some o):(∀d∈iS o,d<i)∧ ∀k∈cl.getD i [],∃d∈iS o,d=k∨k∈cl.getD d []:=by
 have hi:i<ops.length:=(List.getElem?_eq_some_iff.1 ho).1
 have:=List.all_eq_true.1 h i (by simpa using hi)
 rw[ho]at this
 simp only[Bool.and_eq_true,List.all_eq_true,decide_eq_true_eq,List.any_eq_true,Bool.or_eq_true,beq_iff_eq]at this
 refine⟨this.1,fun k hk=> ?_⟩
 obtain⟨d,hd,h1⟩:=this.2 k hk
 exact⟨d,hd,h1.imp id fun h=>by simpa using h⟩
theorem F0(hT:T.ok P)(tb:Tabs P E.w0 E.O0){ops:Array Oper}{cl:List (List Nat)}{Q:Exit→Act→World→Prop}{L0:List Item}(hit: ∀x∈L0,ops[x.i]? =some x.o)(hpair:L0.Pairwise (AB cl))(hord:nV ops.toList cl=true)
  (hQ: ∀a w,Rel E st' a w ae→Q .normal a w): ∀(fuel:Nat)(listed:Array Bool)(L:List Item)(st:St)(a:Act)(w:World),L.Sublist L0→listed.size=ops.size→
   (∀i,i<ops.size→(listed.getD i true=false↔ ∃x∈L,x.i=i))→(∀j,listed.getD j false=true→ ∀k∈cl.getD j [],listed.getD k false=true)→L.length=fuel→Exec P T ops.toList L st st'→
   Rel E st a w ae→wpAny P .any ops Q fuel listed a w:=by
 intro fuel
 induction fuel with
 |zero=>
  intro listed L st a w hsub hsz hiff hdc hlen hex hrel
  have hL:L=[]:=List.eq_nil_of_length_eq_zero hlen
  subst hL
  refine⟨?_,hQ _ _ (by rw[show st'=st from hex];exact hrel)⟩
  rw[List.eq_nil_iff_forall_not_mem]
  intro i hi
  obtain⟨h1,o,h2,_⟩:=mem_ready.1 hi
  have hi':i<ops.size:=(Array.getElem?_eq_some_iff.1 h2).1
  obtain⟨x,hx,_⟩:=(hiff i hi').1 h1
  simp at hx
 |succ fuel ih=>
  intro listed L st a w hsub hsz hiff hdc hlen hex hrel
  have hp:L.Pairwise (AB cl):=hpair.sublist hsub
  have hlt: ∀x∈L,x.i<ops.size:=fun x hx=>(Array.getElem?_eq_some_iff.1 (hit x (hsub.subset hx))).1
  have hlisted: ∀d,d<ops.size→(¬ ∃x∈L,x.i=d)→listed.getD d false=true:=by
   intro d hd hno
   have h1: ¬listed.getD d true=false:=fun h=>hno ((hiff d hd).1 h)
   have hd':d<listed.size:=by omega
   simp[hd']at h1⊢
   exact h1
  refine⟨fun hnil=> ?_,fun i hi=> ?_⟩
  ·match L,hlen with
   |x0::L,_=>
    exfalso
    have hx0:=hit x0 (hsub.subset (by simp))
    have hmem:x0.i∈Region.ready .any ops listed:=by
     refine mem_ready.2 ⟨(hiff x0.i (hlt x0 (by simp))).2 ⟨x0,by simp,rfl⟩,x0.o,hx0,fun e he hb=> ?_⟩
     have hd:=(qD hord (by simpa using hx0)).1 _ (Du he hb)
     refine hlisted _ (Nat.lt_trans hd (hlt x0 (by simp))) ?_
     rintro ⟨y,hy,hye⟩
     simp only[List.mem_cons]at hy
     rcases hy with rfl|hy
     ·omega
     ·have:=(List.pairwise_cons.1 hp).1 y hy
      have:=this.1
      omega
    rw[hnil]at hmem
    simp at hmem
  ·obtain⟨h1,o,h2,h3⟩:=mem_ready.1 hi
   have hi':i<ops.size:=(Array.getElem?_eq_some_iff.1 h2).1
   obtain⟨x,hx,rfl⟩:=(hiff i hi').1 h1
   have hxo:o=x.o:=by
    have:=hit x (hsub.subset hx)
    rw[h2]at this
    injection this
   subst hxo
   obtain⟨pre,post,rfl⟩:=List.append_of_mem hx
   have hcl: ∀k∈cl.getD x.i [],listed.getD k false=true:=by
    intro k hk
    obtain⟨d,hd,hdk⟩:=(qD hord (by simpa using h2)).2 k hk
    obtain⟨e,he,hb,rfl⟩:=De hd
    have hl:=h3 e he hb
    rcases hdk with rfl|hdk
    ·exact hl
    ·exact hdc _ hl k hdk
   have hpx: ∀y∈pre,AB cl y x:=by
    intro y hy
    exact(List.pairwise_append.1 hp).2.2 y hy x (by simp)
   have hind: ∀y∈pre,gV y x=true:=by
    intro y hy
    have hpy:=hpx y hy
    rcases hpy.2 with hc|hc
    ·have hl:=hcl y.i (by simpa using hc)
     have hun:=(hiff y.i (hlt y (by simp[hy]))).2 ⟨y,by simp[hy],rfl⟩
     have hd':y.i<listed.size:=by rw[hsz];exact hlt y (by simp[hy])
     simp[hd']at hl hun
     rw[hun]at hl
     cases hl
    ·exact hc
   obtain⟨hstp,hrest⟩:=Exec.front pre st st' hex hind
   unfold wpOp
   simp only[h2]
   refine hstp.wp hT tb hrel fun a' w' hrel'=> ?_
   have hpost: ∀y∈post,AB cl x y:=fun y hy=>(List.pairwise_cons.1 (List.pairwise_append.1 hp).2.1).1 y hy
   refine ih (listed.setIfInBounds x.i true) (pre++post) _ a' w' ?_ (by simpa using hsz) (fun j hj=> ?_) (fun j hj k hk=> ?_) (by simp at hlen⊢;omega) hrest hrel'
   ·refine List.Sublist.trans ?_ hsub
    exact List.Sublist.append (List.Sublist.refl _) (List.sublist_cons_self _ _)
   ·by_cases hji:x.i=j
    ·subst hji
     have hd':x.i<listed.size:=by omega
     constructor
     ·intro h;simp[hd']at h
     ·rintro ⟨y,hy,hye⟩
      rw[List.mem_append]at hy
      rcases hy with hy|hy
      ·have:=(hpx y hy).1;omega
      ·have:=(hpost y hy).1;omega
    ·rw[getD_set_ne true hji,hiff j hj]
     constructor
     ·rintro ⟨y,hy,hye⟩
      rw[List.mem_append,List.mem_cons]at hy
      rcases hy with hy|rfl|hy
      ·exact⟨y,by simp[hy],hye⟩
      ·exact absurd hye hji
      ·exact⟨y,by simp[hy],hye⟩
     ·rintro ⟨y,hy,hye⟩
      rw[List.mem_append]at hy
      exact⟨y,by rw[List.mem_append,List.mem_cons];rcases hy with hy|hy<;>simp[hy],hye⟩
   ·by_cases hji:x.i=j
    ·subst hji
     exact getD_set_true (hcl k hk)
    ·rw[getD_set_ne false hji]at hj
     exact getD_set_true (hdc j hj k hk)
theorem sN{ops:List Oper}{cl:List (List Nat)}{K:St→Prop}: ∀(rest:List Oper)(past:List Item)(i:Nat)(st:St),(∀j,rest[j]? =ops[i+j]?)→zL P T ops cl past i rest st K→
  ∃L st',Exec P T ops L st st'∧K st'∧L.length=rest.length∧(∀x∈L,i≤x.i∧ops[x.i]? =some x.o)∧(∀j,i≤j→j<i+rest.length→ ∃x∈L,x.i=j)∧L.Pairwise (AB cl)∧
   ∀y∈past,∀x∈L,(cl.getD x.i []).contains y.i=true∨gV y x=true
 |[],past,i,st,hl,h=>⟨[],st,rfl,h,rfl,fun x hx=>by simp at hx,fun j h1 h2=>by simp at h2;omega,List.Pairwise.nil,fun y _ x hx=>by simp at hx⟩
 |o::rest,past,i,st,hl,h=>by
  have hst: ∀(K':di→List Nat→List Nat→Prop),rV P T ops o st (fun r s m=>Rq (st.dstOk o.dst) (K' r s m))→ ∃r s m,StpL P T ops o st r s m∧K' r s m:=by
   intro K' h
   have hd:st.dstOk o.dst=true:=by
    have weak: ∀{α:Type}(p:RP α)(K1:α→List Nat→List Nat→Prop),(∀a s m,K1 a s m→st.dstOk o.dst=true)→p.runL st K1→st.dstOk o.dst=true:=by
     intro α p K1 hK hp
     obtain⟨a,s,m,_,hk⟩:=cS hp
     exact hK a s m hk
    have wop: ∀(K1:di→List Nat→List Nat→Prop),(∀a s m,K1 a s m→st.dstOk o.dst=true)→zJ P T o st K1→st.dstOk o.dst=true:=by
     intro K1 hK hp
     obtain⟨r,s,m,hk⟩:=HJ hp
     exact hK _ _ _ hk
    unfold rV at h
    split at h
    ·exact wop _ (fun a s m hk=>hk.1) h
    ·rename_i q hg
     unfold rq at h
     split at h
     ·rename_i b hb
      obtain⟨h1,h2⟩:=h
      cases b with
      |true=>
       have h1:=h1 rfl
       split at h1
       ·exact wop _ (fun a s m hk=>hk.1) h1
       ·exact h1.1
      |false=>
       have h2:=h2 rfl
       split at h2
       ·exact h2.1
       ·exact wop _ (fun a s m hk=>hk.1) h2
     ·exact h.1
     ·exact h.elim
    ·exact h.elim
   obtain⟨r,s,m,h1,h2⟩:=zh h hd
   exact⟨r,s,m,h1,h2.2⟩
  obtain⟨r,s,m,hstp,hq,hrec⟩:=hst _ h
  have h0:ops[i]? =some o:=by simpa using(hl 0).symm
  obtain⟨L,st',h1,h2,h3,h4,h5,h6,h7⟩:=sN rest (⟨i,o,r,s,m⟩::past) (i+1) _ (fun j=>by have:=hl (j+1);simpa[Nat.add_assoc,Nat.add_comm 1 j]using this) hrec
  refine⟨⟨i,o,r,s,m⟩::L,st',⟨hstp,h1⟩,h2,by simp[h3],fun x hx=> ?_,fun j hj1 hj2=> ?_,List.pairwise_cons.2 ⟨fun x hx=> ?_,h6⟩,fun y hy x hx=> ?_⟩
  ·simp only[List.mem_cons]at hx
   rcases hx with rfl|hx
   ·exact⟨Nat.le_refl _,h0⟩
   ·have:=h4 x hx
    exact⟨by omega,this.2⟩
  ·by_cases hji:j=i
   ·subst hji;exact⟨⟨j,o,r,s,m⟩,by simp,rfl⟩
   ·obtain⟨x,hx,hxe⟩:=h5 j (by omega) (by simp at hj2;omega)
    exact⟨x,by simp[hx],hxe⟩
  ·exact⟨by have:=(h4 x hx).1;simp only;omega,h7 _ (by simp) x hx⟩
  ·simp only[List.mem_cons]at hx
   rcases hx with rfl|hx
   ·have:=List.all_eq_true.1 hq y hy
    simpa[Bool.or_eq_true]using this
   ·exact h7 y (by simp[hy]) x hx
theorem WP.draw(hT:T.ok P)(hm:P.follows .mixedOrders=true){id:Nat}{ops:Array Oper}{l:List Oper}(hl:ops.toList=l){Q:Ex→St→Prop}(cl:List (List Nat))(hord:nV l cl=true)
  (h:zL P T l cl [] 0 l st (Q .normal)):WP P (.region id ops true) Q st:=fun E tb a w hr=>by
 subst hl
 refine wp_region_any hm ?_
 obtain⟨L,st',h1,h2,h3,h4,h5,h6,_⟩:=sN ops.toList [] 0 st (fun j=>by simp) h
 have hr':Rel E st a {w with drawn:=w.drawn+1} ae:=by
  obtain⟨loc,ob,hr⟩:=hr
  exact⟨loc,ob,(hr.world (Frame.drew w _ ae)).1⟩
 refine F0 hT tb (L0:=L) (fun x hx=>by have:=(h4 x hx).2;simpa using this) h6 hord (fun a w hrel=>⟨st',h2,hrel⟩) ops.size _ L st a _ (List.Sublist.refl _) (by simp) (fun i hi=> ?_) (fun j hj=> ?_) (by simpa using h3) h1 hr'
 ·constructor
  ·intro _
   exact h5 i (Nat.zero_le _) (by simpa using hi)
  ·intro _
   simp[hi]
 ·simp at hj
  by_cases hlt:j<ops.size<;>simp[hlt]at hj
end
end Go.Abs
