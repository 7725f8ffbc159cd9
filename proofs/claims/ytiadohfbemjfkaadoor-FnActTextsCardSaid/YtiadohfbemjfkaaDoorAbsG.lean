/- The abstract layer, 18: regions. -/
import Derived.Test.YtiadohfbemjfkaaDoorAbsa
set_option linter.unusedVariables false
set_option linter.unusedSimpArgs false
noncomputable section
namespace Go.Abs
open Go
def callA(c:Call)(fo:Operand):RP (AV × List AV × List AV):=(opnd fo).bind fun fv=>(opnds c.args.toList).bind fun as=>(lendVals as).bind fun ys=>.ret (fv,as,ys)
def landW(o:Oper)(st:St)(res:AV)(K:St→Prop):Prop:=match o.dst with
 |none=>K st
 |some d=>Rq (impResOk res) (Rq ((impRes (cid d 0) res).2.all fun p=>match st.m p.1 with| .abs=>true|_=>false) (Rq (decide (d<st.n)) (K ((st.mws (impRes (cid d 0) res).2).put (some d) (impRes (cid d 0) res).1))))
def handW(P:Program)(o:Oper)(st:St)(K:St→Prop)(f:FuncId)(as:List AV)(j:Nat):Prop:=
 ∃b lvl z rows ys lvl' z' rows' res,as[j]? =some (.ref b 0 rows.length)∧st.m b=.live ⟨true,lvl,z,rows⟩∧lvl≤1∧(lendVals (as.set j .undef)).run (st.mws [(b,.dead)])=some ys∧
  Con P f (ys.set j (.own lvl z rows)) ((undefs as).set j (.own lvl' z' rows')) res∧rows'.length=rows.length∧z'.length=z.length∧lvl'≤1∧
  (!((as.set j .undef).any AV.hasRef)||(res.nr&&lvl'==0))=true∧landW o (st.mws [(b,.live ⟨true,lvl',z',rows'⟩)]) res K
structure HLf where
 b:Nat
 lvl:Nat
 z:List AV
 rows:List (List AV)
 lvl':Nat
 z':List AV
 rows':List (List AV)
def giveA:Option HLf→AV→AV
 |none,x=>x
 |some h,_=>.own h.lvl h.z h.rows
def backA:Option HLf→AV
 |none=>.undef
 |some h=>.own h.lvl' h.z' h.rows'
def idsH:List (Option HLf)→List Nat
 |[]=>[]
 |some h::l=>h.b::idsH l
 |none::l=>idsH l
def wrH:List (Option HLf)→List (Nat × MB)
 |[]=>[]
 |some h::l=>(h.b,.live ⟨true,h.lvl',h.z',h.rows'⟩)::wrH l
 |none::l=>wrH l
def okH(st:St):List (Option HLf)→List AV→Prop
 |[],[]=>True
 |none::ds,x::cs=>x.goes=true∧okH st ds cs
 |some h::ds,x::cs=>(x=.ref h.b 0 h.rows.length∧st.m h.b=.live ⟨true,h.lvl,h.z,h.rows⟩∧h.lvl≤1∧h.rows'.length=h.rows.length∧h.z'.length=h.z.length∧(idsH ds).contains h.b=false)∧okH st ds cs
 |_,_=>False
def zipGive:List (Option HLf)→List AV→List AV
 |d::ds,x::cs=>giveA d x::zipGive ds cs
 |_,_=>[]
def handWA(P:Program)(o:Oper)(st:St)(K:St→Prop)(f:FuncId)(as:List AV):Prop:=
 ∃cs rest ds ys res,as=.agg cs::rest∧okH st ds cs∧rest.any AV.hasRef=false∧(lendVals rest).run ⟨0,fun _=>.undef,fun _=>.abs,[]⟩=some ys∧
  Con P f (.agg (zipGive ds cs)::ys) (.agg (ds.map backA)::undefs rest) res∧landW o (st.mws (wrH ds)) res K
def callW(P:Program)(o:Oper)(st:St)(K:St→Prop)(q:AV × List AV × List AV):Prop:=match q.1 with
 | .fn f caps=>match caps with
  |[]=>(∃res,Con P f q.2.2 (undefs q.2.2) res∧(Rq (!(q.2.1.any AV.hasRef)||res.nr) (landW o st res K)∨landW o (st.mws (deadsOf q.2.1)) res K))∨(∃j,handW P o st K f q.2.1 j)∨handWA P o st K f q.2.1
  |_=>False
 |_=>False
def callPW(P:Program)(c:Call)(fo:Operand)(o:Oper)(st:St)(K:St→Prop):Prop:=(opnd fo).runK st fun fv=>(opnds c.args.toList).runK st fun as=>match fv with
 | .fn f caps=> ∃fs,givePs fs (as++caps) st fun gs st1=>(lendXs (restP fs (as++caps))).runK st1 fun ys=> ∃os res b0,Con P f (mixP fs gs ys) os res∧
   (!((restP fs (as++caps)).any AV.leads)||(res.nr&&os.all AV.nrO))=true∧takePs fs (as++caps) os b0 st1 fun st2=>landW o st2 res K
 |_=>False
def opR(T:TT)(o:Oper)(st:St)(K:St→Prop):Prop:=Rq (st.dstOk o.dst) ((evOp T o).runK st fun r=>K (st.after o r))
def isNilC:Operand→Bool
 | .const (.slice none 0 0)=>true
 |_=>false
def isSliceT(T:TT)(t:TypeId):Bool:=match T.get t with
 |some i=>match i.ut with
  | .slice _=>true
  |_=>false
 |none=>false
def lenN:AV→Option Nat
 | .ref _ _ n=>some n
 | .ro _ r=>some r.length
 | .emp=>some 0
 |_=>none
def nilW(T:TT)(o:Oper)(op:BinOp)(t:TypeId)(x y:Operand)(st:St)(K:St→Prop):Prop:=
 isNilC y=true∧isSliceT T t=true∧st.dstOk o.dst=true∧ ∃v n,(opnd x).run st=some v∧lenN v=some n∧ ∀b:Bool,(b=true→n=0)→match op with
  | .eql=>K (st.put o.dst (.bool b))
  | .neq=>K (st.put o.dst (.bool (!b)))
  |_=>False
def opW(P:Program)(T:TT)(o:Oper)(st:St)(K:St→Prop):Prop:=match o.op with
 | .call c=>match c.callee with
  | .value f=>(callA c f).runK st (callW P o st K)∨callPW P c f o st K
  |_=>opR T o st K
 | .binOp op t x y _=>opR T o st K∨nilW T o op t x y st K
 |_=>opR T o st K
def guardOf(ops:List Oper)(o:Oper):Option (Option (Nat × Bool)):=match o.guard with
 |none=>some none
 |some (j,want)=>match ops[j]? with
  |some g=>match g.dst with
   |some d=>some (some (d,want))
   |none=>none
  |none=>none
def guardW(d:Nat)(want:Bool)(o:Oper)(st:St)(X:St→Prop)(K:St→Prop):AV→Prop
 | .bool b=>Br b
   (if want=true then X (st.put (some d) (.bool true))else K ((st.put (some d) (.bool true)).put o.dst (.tup [])))
   (if want=true then K ((st.put (some d) (.bool false)).put o.dst (.tup []))else X (st.put (some d) (.bool false)))
 | .tup []=>K (st.put o.dst (.tup []))
 |_=>False
def stepW(P:Program)(T:TT)(ops:List Oper)(o:Oper)(st:St)(K:St→Prop):Prop:=match guardOf ops o with
 |some none=>opW P T o st K
 |some (some q)=>Rq (st.dstOk o.dst) (guardW q.1 q.2 o st (fun st'=>opW P T o st' K) K (st.t q.1))
 |none=>False
def StL(st st':St):Prop:= ∀(E:Env)(a:Act)(w:World),Rel E st a w none2→Rel E st' a w none2
theorem StL.refl(st:St):StL st st:=fun _ _ _ h=>h
theorem StL.trans{x y z:St}(h1:StL x y)(h2:StL y z):StL x z:=fun E a w h=>h2 E a w (h1 E a w h)
def regW(P:Program)(T:TT)(ops:List Oper):List Oper→St→(St→Prop)→Prop
 |[],st,K=>K st
 |o::rest,st,K=>stepW P T ops o st fun st'=> ∃st'',StL st' st''∧regW P T ops rest st'' K
section
variable{P:Program}{T:TT}{E:Env}{o:Oper}{st:St}{a:Act}{w:World}{X:Cells}{loc:Locs}{ob:Nat→Cells}{r:Res}
theorem Tabs.at(hb:Tabs P E.w0 E.O0)(h:RelC E st a w X loc ob):Tabs P w X:=by
 have key: ∀g B,E.w0.heap[g]? =some B→(∀o,¬E.O0 g o)→w.heap[g]? =some B∧ ∀o,¬X g o:=fun g B h1 h2=>by
  have hlt:g<E.w0.heap.size:=(Array.getElem?_eq_some_iff.1 h1).1
  refine⟨(h.fr.same g hlt h2).trans h1,fun o ho=> ?_⟩
  rcases h.sub g o (.inr ho)with k|k
  ·exact h2 o k
  ·omega
 refine⟨fun x hx g hg=> ?_,fun x hx g hg=> ?_⟩
 ·obtain⟨⟨e,fz,h1⟩,h2⟩:=hb.1 x hx g hg
  exact⟨⟨e,fz,(key g _ h1 h2).1⟩,(key g _ h1 h2).2⟩
 ·obtain⟨⟨t,p,e,fz,h1⟩,h2⟩:=hb.2 x hx g hg
  exact⟨⟨t,p,e,fz,(key g _ h1 h2).1⟩,(key g _ h1 h2).2⟩
theorem opR_ok(hT:T.ok P)(h:Rel E st a w none2){K:St→Prop}(hk:opR T o st K){next:Act→World→Prop}{Q:Exit→Act→World→Prop}(hn: ∀st' a' w',K st'→Rel E st' a' w' none2→next a' w'):
  o.wp P a w next Q:=by
 obtain⟨loc,ob,h⟩:=h
 obtain⟨hd,hr⟩:=hk
 obtain⟨r,hr,hK⟩:=runK_run hr
 obtain⟨nx,a',w',h1,h2,h3⟩:=did_next hd (evOp_ok hT h hr)
 unfold Oper.wp
 rw[h1]
 rcases h2 with⟨v,rfl,rfl⟩|⟨rfl,rfl⟩
 ·exact hn _ _ _ hK h3
 ·exact hn _ _ _ hK h3
theorem landW_took{res:AV}{K:St→Prop}(h:landW o st res K): ∃st',tookIn o st res st'∧K st':=by
 unfold landW at h
 split at h
 ·rename_i hd
  exact⟨st,by unfold tookIn;rw[hd],h⟩
 ·rename_i d hd
  obtain⟨h1,h2,h3,h4⟩:=h
  refine⟨_,?_,h4⟩
  unfold tookIn
  rw[hd]
  refine⟨h1,fun p hp=> ?_,of_decide_eq_true h3,rfl⟩
  have:=List.all_eq_true.1 h2 p hp
  cases hm:st.m p.1 with
  |abs=>rfl
  |_=>rw[hm]at this;cases this
theorem back_RS(h:RelC E st a w X loc ob){w':World}{O' Rc:Cells}{nr:Bool}(hRc: ∀g o,Rc g o→RS E w (Owned ob X) g o∨(nr=true∧ ∃b,ob b g o))(hn:nr=false)(hlt: ∀b g o,ob b g o→g<w.heap.size)(hdx: ∀b g o,ob b g o→ ¬RS E w (Owned ob X) g o)(hX: ∀g o,X g o→E.O0 g o∨E.w0.heap.size≤g)
  (hF:Frame w w' X): ∀g o,RS ⟨w,Rc,X,noLoc⟩ w' O' g o→RS E w' (Owned ob O') g o:=by
 intro g o ⟨h1,h2,h3⟩
 refine⟨?_,h2,?_⟩
 ·rcases h1 with h1|h1|h1
  ·rcases hRc g o h1 with h1|⟨hh,_⟩
   ·exact h1.1
   ·rw[hn]at hh;cases hh
  ·rcases hX g o h1 with h1|h1
   ·exact .inr (.inl h1)
   ·exact .inr (.inr h1)
  ·exact .inr (.inr (Nat.le_trans h.fr.size h1))
 ·rintro (⟨b,k⟩|k)
  ·rcases h1 with h1|h1|h1
   ·rcases hRc g o h1 with h1|⟨hh,_⟩
    ·exact h1.2.2 (.inl ⟨b,k⟩)
    ·rw[hn]at hh;cases hh
   ·exact h.dx b g o k h1
   ·have h4:g<w.heap.size:=hlt b g o k
    have h5:w.heap.size≤g:=h1
    omega
  ·exact h3 k
theorem AR.own_flat{R R':Cells}{loc loc':Locs}{z:List AV}{rows:List (List AV)}{v:Value}{O:Cells}(h:AR w R loc (.own 0 z rows) v O):AR w R' loc' (.own 0 z rows) v O:=by
 cases h with
 |sc h e=>exact h.elim
 |own0 e=>exact .own0 e
 |own vs os hcap hb hw hc hx hO hd hdd h0 h1 hm=>exact .own vs os hcap hb hw hc (fun i j row x k1 k2=>(hx i j row x k1 k2).flat_any (h0 rfl row (List.mem_of_getElem? k1) x (List.mem_of_getElem? k2))) hO hd hdd h0 h1 hm
theorem call_run{c:Call}{fo:Operand}(ho:o.op=.call c)(hc:c.callee=.value fo){f:FuncId}(hok:FnOk P f)(hf:AR w (RS E w (Owned ob X)) loc (.fn f []) (a.eval fo) none2):
  (execOp a.eval o).run P w=.ok (.enter f (c.args.toList.map a.eval).toArray) w:=by
 have hfv:a.eval fo=.func (.func f) #[] #[]:=by
  generalize a.eval fo=ev at hf
  cases hf with
  |sc hs _=>exact hs.elim
  | @fn _ _ _ vs _ os hvn hvx hu=>
   have:vs=#[]:=by apply Array.eq_empty_of_size_eq_zero;simpa using hvn
   rw[this]
 obtain⟨_,op,ty,_,_,_⟩:=o
 subst ho
 simp only[execOp]
 rw[run_call hc hfv hok]
 congr 2
 apply Array.ext'
 simp
theorem handW_ok(tb:Tabs P E.w0 E.O0){c:Call}{fo:Operand}(ho:o.op=.call c)(hc:c.callee=.value fo)(h:RelC E st a w none2 loc ob){K:St→Prop}{f:FuncId}{as:List AV}{j:Nat}(hf:AR w (RS E w (Owned ob none2)) loc (.fn f []) (a.eval fo) none2)
  (has:(opnds c.args.toList).run st=some as)(hk:handW P o st K f as j){next:Act→World→Prop}{Q:Exit→Act→World→Prop}
  (hn: ∀st' a' w',K st'→Rel E st' a' w' none2→next a' w'):o.wp P a w next Q:=by
 obtain⟨b,lvl,z,rows,ys,lvl',z',rows',res,haj,hm,hlvl,hys,hcon,hrl,hzl,hlvl',hq,hl⟩:=hk
 obtain⟨st',htook,hK⟩:=landW_took hl
 obtain⟨hal,hax⟩:=opnds_some h has
 have hjl:j<as.length:=(List.getElem?_eq_some_iff.1 haj).1
 have hvl:(c.args.toList.map a.eval).length=as.length:=by simpa using hal.symm
 let vals:=c.args.toList.map a.eval
 have hvj:vals[j]? =some (vals[j]'(by show j<(c.args.toList.map a.eval).length;omega)):=List.getElem?_eq_getElem _
 generalize hv:vals[j]'(by show j<(c.args.toList.map a.eval).length;omega)=v at hvj
 have hvals: ∀(k:Nat) x v,as[k]? =some x→vals[k]? =some v→AR w (RS E w (Owned ob none2)) loc x v none2:=fun k x v h1 h2=>by
  simp only[vals,List.getElem?_map,Option.map_eq_some_iff]at h2
  obtain⟨op,h3,rfl⟩:=h2
  exact hax k x op h1 h3
 have hx:=hvals j _ v haj hvj
 obtain⟨l,hll,hn0,ad,cap,hveq,hcap,hcase⟩:=hx.inv_ref
 -- the general step: what goes over, what comes back
 have step: ∀(st1:St)(X1:Cells)(ob1:Nat→Cells),RelC E st1 a w X1 loc ob1→(∀g o,Owned ob1 X1 g o→Owned ob none2 g o)→(lendVals (as.set j .undef)).run st1=some ys→AR w (RS E w (Owned ob1 X1)) noLoc (.own lvl z rows) v X1→
   (∀(w':World)(O1 O2 O':Cells),RelC E st1 a w' O' loc ob1→(∀g o,O' g o↔O1 g o∨O2 g o)→Disj O1 O2→AR w' (RS E w' (Owned ob1 O')) noLoc (.own lvl' z' rows') v O2→Frame w w' X1→
    ∃ob2,RelC E (st.mws [(b,.live ⟨true,lvl',z',rows'⟩)]) a w' O1 loc ob2∧ ∀g o,Owned ob2 O1 g o→Owned ob1 O' g o)→o.wp P a w next Q:=by
  intro st1 X1 ob1 hr1 hsub hys1 hown hback
  let Rc:Cells:=fun g o=>RS E w (Owned ob1 X1) g o∨((as.set j .undef).any AV.hasRef=true∧ ∃b,ob1 b g o)
  have hRc: ∀g o,RS E w (Owned ob1 X1) g o→Rc g o:=fun g o k=>.inl k
  have hRSs: ∀g o,RS E w (Owned ob none2) g o→RS E w (Owned ob1 X1) g o:=fun g o k=>⟨k.1,k.2.1,fun n=>k.2.2 (hsub g o n)⟩
  have hp:=lendVals_ok hr1 hRc (as.set j .undef) ys vals (by simp[vals,←hal]) hys1 (fun k x u h1 h2=>by
   by_cases hkj:k=j
   ·subst hkj
    rw[List.getElem?_set_self (by omega)]at h1
    injection h1 with h1
    subst h1
    exact .sc trivial emp_none2
   ·rw[List.getElem?_set_ne (by omega)]at h1
    exact(hvals k x u h1 h2).weak hRSs fun _ _ k=>k) (fun hh b g o k=>.inr ⟨hh,b,k⟩)
  obtain⟨hyl,os0,hy0,hu0⟩:=uni_of_parts _ _ _ hp
  have hos0: ∀k,k<ys.length→Emp (os0 k):=fun k hk g o m=>(hu0.iff g o).2 ⟨k,hk,m⟩
  have hjy:j<ys.length:=by rw[←hyl];show j<(c.args.toList.map a.eval).length;omega
  have hp1:Parts w Rc noLoc (ys.set j (.own lvl z rows)) vals X1:=by
   refine parts_of_uni _ _ (fun k=>if k=j then X1 else none2) _ (by simpa using hyl) (fun k x u h1 h2=> ?_) ⟨fun g o=> ?_,fun k1 k2 hk1 hk2 hne=> ?_⟩
   ·by_cases hkj:k=j
    ·subst hkj
     rw[List.getElem?_set_self hjy]at h1
     injection h1 with h1
     subst h1
     rw[hvj]at h2
     injection h2 with h2
     subst h2
     rw[if_pos rfl]
     exact hown.weak hRc fun _ _ k=>k
    ·rw[List.getElem?_set_ne (by omega)]at h1
     rw[if_neg hkj]
     have hk:k<ys.length:=(List.getElem?_eq_some_iff.1 h1).1
     exact(hy0 k x u h1 h2).emp_weak (hos0 k hk) emp_none2
   ·constructor
    ·intro k;exact⟨j,by simpa using hjy,by simpa using k⟩
    ·rintro ⟨k,_,m⟩
     by_cases hkj:k=j
     ·simpa[hkj]using m
     ·simp[hkj,none2]at m
   ·intro g o m1 m2
    by_cases h1:k1=j
    ·by_cases h2:k2=j
     ·exact hne (h1.trans h2.symm)
     ·simp[h2,none2]at m2
    ·simp[h1,none2]at m1
  have hcalls:=hcon.calls w Rc X1 vals hp1 (fun g o k=>⟨by
   rcases k with k|⟨_,b,k⟩
   ·exact k.2.1
   ·exact hr1.lt g o (.inl ⟨b,k⟩),fun m=>by
   rcases k with k|⟨_,b,k⟩
   ·exact k.2.2 (.inr m)
   ·exact hr1.dx b g o k m⟩) (fun g o k=>hr1.lt g o (.inr k)) (tb.at hr1)
  unfold Oper.wp
  rw[call_run ho hc hcon.ok hf,Oper.upon_enter]
  refine hcalls.mono fun e w' hb=> ?_
  cases e with
  |returned u=>
   obtain⟨O',hF,hO',O1,O2,hOO,hdd,hres,hrest⟩:=hb
   have hrel:RelC E st1 a w' O' loc ob1:=hr1.back (Rc:=Rc) hF hO'
   obtain⟨hul,os2,hx2,hu2⟩:=uni_of_parts _ _ _ hrest
   have hj2:j<((undefs as).set j (.own lvl' z' rows')).length:=by simp[undefs];omega
   have hO2:O2=os2 j:=by
    funext g o
    refine propext ⟨fun k=> ?_,fun k=>(hu2.iff g o).2 ⟨j,hj2,k⟩⟩
    obtain⟨k',hk',m⟩:=(hu2.iff g o).1 k
    by_cases hkj:k'=j
    ·subst hkj;exact m
    ·exfalso
     have h1:((undefs as).set j (.own lvl' z' rows'))[k']? =some .undef:=by
      rw[List.getElem?_set_ne (by omega)]
      simp[undefs]at hk'⊢
      exact⟨_,List.getElem?_eq_getElem hk'⟩
     have h2:vals[k']? =some (vals[k']'(by rw[hul];exact hk')):=List.getElem?_eq_getElem _
     cases hx2 k' _ _ h1 h2 with
     |sc _ e=>exact e g o m
   have hown':AR w' (RS ⟨w,Rc,X1,noLoc⟩ w' O') noLoc (.own lvl' z' rows') v O2:=by
    rw[hO2]
    exact hx2 j _ v (List.getElem?_set_self (by simpa[undefs]using hjl)) hvj
   have conv:((as.set j .undef).any AV.hasRef)=false→ ∀g o,RS ⟨w,Rc,X1,noLoc⟩ w' O' g o→RS E w' (Owned ob1 O') g o:=fun hno=>
    back_RS hr1 (nr:=(as.set j .undef).any AV.hasRef) (fun g o k=>k) hno (fun b g o k=>hr1.lt g o (.inl ⟨b,k⟩)) (fun b g o k m=>m.2.2 (.inl ⟨b,k⟩)) (fun g o k=>hr1.sub g o (.inr k)) hF
   have hpair:AR w' (RS E w' (Owned ob1 O')) noLoc res u O1∧AR w' (RS E w' (Owned ob1 O')) noLoc (.own lvl' z' rows') v O2:=by
    rcases(Bool.or_eq_true _ _).mp hq with hno|hnr
    ·have hno:((as.set j .undef).any AV.hasRef)=false:=by simpa using hno
     exact⟨hres.weak (conv hno) fun _ _ k=>k,hown'.weak (conv hno) fun _ _ k=>k⟩
    ·simp only[Bool.and_eq_true,beq_iff_eq]at hnr
     obtain⟨hnr,hl0⟩:=hnr
     subst hl0
     exact⟨hres.nr_any hnr,hown'.own_flat⟩
   obtain⟨ob2,hrel2,hsub2⟩:=hback w' O1 O2 O' hrel hOO hdd hpair.2 hF
   have hRS2: ∀g o,RS E w' (Owned ob1 O') g o→RS E w' (Owned ob2 O1) g o:=fun g o k=>⟨k.1,k.2.1,fun n=>k.2.2 (hsub2 g o n)⟩
   exact hn st' _ w' hK (took_ok hrel2 (hpair.1.weak hRS2 fun _ _ k=>k) htook)
  |panicked ch=>exact hb.elim
  |outgrown=>exact hb.elim
 by_cases hz:rows.length=0∧cap=0
 · -- nothing goes over
  obtain⟨hr0,rfl⟩:=hz
  have hrows:rows=[]:=List.length_eq_zero_iff.1 hr0
  subst hrows
  have hrows':rows'=[]:=List.length_eq_zero_iff.1 hrl
  subst hrows'
  refine step st none2 ob h (fun _ _ k=>k) (lendVals_mono hys) (by rw[hveq];exact .own0 emp_none2) fun w' O1 O2 O' hr hOO hdd hx2 hF=> ?_
  refine⟨ob,?_,fun g o k=>k.elim .inl fun k=>.inr ((hOO g o).2 (.inl k))⟩
  refine hr.go none2 rfl rfl (Frame.refl w' _) (fun g o k=> ?_) (fun _ _ k=>k.elim) (fun _ _ k=>k) (fun b'=> ?_) hr.db (fun b' g o k1 k2=>hr.dx b' g o k1 ((hOO g o).2 (.inl k2)))
  ·have:Owned ob O' g o:=k.elim .inl fun k=>.inr ((hOO g o).2 (.inl k))
   exact⟨.inl this,hr.lt g o this⟩
  ·by_cases hbb:b'=b
   ·subst hbb
    right
    simp only[St.mws,upd,if_true,BF1]
    have hat:=hr.lv b' _ hm
    cases hat with
    |arr0 l hl hn hs hbd e=>exact .arr0 l hl hn (by rw[hs,hzl]) hbd e
    |arr l vs os hl hbd hs hn hb hw hc hx hO hd hdd h0 h1 hm'=>
     refine .arr l vs os hl hbd (by rw[hs,hzl]) hn (by simpa using hb) ⟨fun row h=>by simp at h,fun row h=>by simp at h⟩ (fun i j hi=>by simp at hi) (fun i j row x h=>by simp at h) ?_ (fun i j hi=>by simp at hi) (fun i j i' j' hi=>by simp at hi) (fun _ row h=>by simp at h) (fun _ row h=>by simp at h) hm'
     intro g' o'
     rw[hO]
     constructor
     ·rintro (k|⟨i,j,hi,_⟩)
      ·exact .inl k
      ·simp at hi
     ·rintro (k|⟨i,j,hi,_⟩)
      ·exact .inl k
      ·simp at hi
   ·left
    exact⟨by simp[St.mws,upd,hbb],rfl,rfl,fun _ _ k=>k.elim⟩
 · -- the block goes over
  have hcase:=hcase.resolve_left hz
  obtain⟨hbd,rfl,hBF⟩:=hcase
  have hexp:(expLeaf (.ref b 0 rows.length)).run st=some (.own lvl z (subA rows 0 rows.length),[(b,.dead)]):=by
   simp only[expLeaf,RP.run,hm,arrB,liveA,RP.bind,guardP,if_true]
   simp[hlvl]
  obtain⟨X1,ob1,O,hL,hown⟩:=expLeaf_ok h hx hexp
  have hX1:X1=O:=by funext g o;exact propext ((hL.iff g o).trans ⟨fun k=>k.resolve_left id,.inr⟩)
  subst hX1
  have hsa:subA rows 0 rows.length=rows:=by simp[subA]
  simp only[hsa]at hown
  have hat0:=h.lv b _ hm
  have hs0:l.s=z.length∧l.n=rows.length:=by
   obtain⟨l',hl'⟩:=hat0.loc_some
   cases hat0 with
   |arr0 l2 hl2 hn2 hs2 hbd2 e=>rw[hll]at hl2;injection hl2 with hl2;subst hl2;exact⟨hs2,hn2⟩
   |arr l2 vs os hl2 hbd2 hs2 hn2 _ _ _ _ _ _ _ _ _ _=>rw[hll]at hl2;injection hl2 with hl2;subst hl2;exact⟨hs2,hn2⟩
  refine step _ X1 ob1 hL.rel hL.own hys hown fun w' O1 O2 O' hr hOO hdd hx2 hF=> ?_
  have hdead:(st.mws [(b,.dead)]).m b=.dead:=by simp[St.mws,upd]
  have hemp:=(hr.dd b hdead).2
  have hsub: ∀g o,Owned (upd ob1 b O2) O1 g o→Owned ob1 O' g o:=by
   rintro g o (⟨b',k⟩|k)
   ·by_cases hbb:b'=b
    ·subst hbb;simp only[upd,if_true]at k;exact .inr ((hOO g o).2 (.inr k))
    ·simp only[upd,hbb,if_false]at k;exact .inl ⟨b',k⟩
   ·exact .inr ((hOO g o).2 (.inl k))
  have hRS3: ∀g o,RS E w' (Owned ob1 O') g o→RS E w' (Owned (upd ob1 b O2) O1) g o:=fun g o k=>⟨k.1,k.2.1,fun n=>k.2.2 (hsub g o n)⟩
  refine⟨upd ob1 b O2,?_,hsub⟩
  refine hr.go none2 rfl rfl (Frame.refl w' _) (fun g o k=>⟨.inl (hsub g o k),hr.lt g o (hsub g o k)⟩) (fun _ _ k=>k.elim) (fun _ _ k=>k) (fun b'=> ?_) (fun b1 b2 hne g o k1 k2=> ?_) (fun b1 g o k1 k2=> ?_)
  ·by_cases hbb:b'=b
   ·subst hbb
    right
    simp only[St.mws,upd,if_true,BF1]
    rw[hveq]at hx2
    generalize hve:(Value.slice (some ⟨l.g,l.base+0*l.s,none⟩) rows.length cap:Value)=v2 at hx2
    cases hx2 with
    |sc h e=>exact h.elim
    |own0 e=>simp only[Value.slice.injEq]at hve;exact(hz ⟨hve.2.1,hve.2.2⟩).elim
    | @own _ _ _ _ g oo cap2 _ vs os hcap2 hb2 hw2 hc2 hxx2 hO2 hd2 hdd2 h02 h12 hm2=>
     simp only[Value.slice.injEq,Option.some.injEq,Addr.mk.injEq,Nat.zero_mul,Nat.add_zero]at hve
     obtain⟨⟨rfl,rfl,_⟩,_,rfl⟩:=hve
     exact .arr l vs os hll hbd (by rw[hs0.1,hzl]) (by rw[hs0.2,hrl]) (hb2.mono (Nat.add_le_add_left (Nat.mul_le_mul_right _ hcap2) _)) hw2 hc2 (fun i j row x k1 k2=>(hxx2 i j row x k1 k2).weak hRS3 fun _ _ k=>k) hO2 hd2 hdd2 h02 h12 hm2
   ·left
    exact⟨by simp[St.mws,upd,hbb],by simp[upd,hbb],rfl,fun _ _ k=>k.elim⟩
  ·by_cases h1:b1=b
   ·subst h1
    have h2: ¬b2=b1:=fun e=>hne e.symm
    simp only[upd,if_true,h2,if_false]at k1 k2
    exact hr.dx b2 g o k2 ((hOO g o).2 (.inr k1))
   ·by_cases h2:b2=b
    ·subst h2
     simp only[upd,if_true,h1,if_false]at k1 k2
     exact hr.dx b1 g o k1 ((hOO g o).2 (.inr k2))
    ·simp only[upd,h1,h2,if_false]at k1 k2
     exact hr.db b1 b2 hne g o k1 k2
  ·by_cases h1:b1=b
   ·subst h1
    simp only[upd,if_true]at k1
    exact hdd g o k2 k1
   ·simp only[upd,h1,if_false]at k1
    exact hr.dx b1 g o k1 ((hOO g o).2 (.inl k2))
def FactH(st1:St)(loc:Locs)(h:HLf)(v:Value):Prop:=
 (h.rows=[]∧(∃ad,v=.slice ad 0 0)∧st1.m h.b=.live ⟨true,h.lvl,h.z,[]⟩)∨
 ∃l cap,loc h.b=some l∧l.bound=true∧v=.slice (some ⟨l.g,l.base,none⟩) h.rows.length cap∧ ¬(h.rows.length=0∧cap=0)∧l.s=h.z.length∧l.n=h.rows.length∧st1.m h.b=.dead
def FactsH(st1:St)(loc:Locs):List (Option HLf)→List Value→Prop
 |[],[]=>True
 |none::ds,_::vs=>FactsH st1 loc ds vs
 |some h::ds,v::vs=>FactH st1 loc h v∧FactsH st1 loc ds vs
 |_,_=>False
theorem FactsH.keep{st1 st2:St}: ∀{ds:List (Option HLf)}{vs:List Value},(∀b∈idsH ds,st2.m b=st1.m b)→FactsH st1 loc ds vs→FactsH st2 loc ds vs
 |[],[],_,_=>trivial
 |[],_::_,_,h=>h.elim
 |none::ds,[],_,h=>h.elim
 |some _::ds,[],_,h=>h.elim
 |none::ds,v::vs,hb,h=>FactsH.keep (ds:=ds) (fun b k=>hb b k) h
 |some d::ds,v::vs,hb,⟨h1,h2⟩=>⟨by
   have e:=hb d.b (by simp[idsH])
   unfold FactH at h1⊢
   rw[e]
   exact h1,FactsH.keep (ds:=ds) (fun b k=>hb b (by simp[idsH,k])) h2⟩
theorem give1(h:RelC E st a w X loc ob){b lvl:Nat}{z:List AV}{rows:List (List AV)}{v:Value}(hm:st.m b=.live ⟨true,lvl,z,rows⟩)(hl:lvl≤1)(hx:AR w (RS E w (Owned ob X)) loc (.ref b 0 rows.length) v none2):
  ∃st1 X1 ob1 O,RelC E st1 a w X1 loc ob1∧(∀g o,X1 g o↔X g o∨O g o)∧Disj X O∧(∀g o,Owned ob1 X1 g o→Owned ob X g o)∧AR w (RS E w (Owned ob1 X1)) noLoc (.own lvl z rows) v O∧
   st1.t=st.t∧st1.n=st.n∧st1.an=st.an∧(∀b',b'≠b→st1.m b'=st.m b')∧ ∀lvl' z' rows',FactH st1 loc ⟨b,lvl,z,rows,lvl',z',rows'⟩ v:=by
 obtain⟨l,hll,hn0,ad,cap,hveq,hcap,hcase⟩:=hx.inv_ref
 by_cases hz:rows.length=0∧cap=0
 ·obtain⟨hr0,rfl⟩:=hz
  have hrows:rows=[]:=List.length_eq_zero_iff.1 hr0
  subst hrows
  exact⟨st,X,ob,none2,h,fun g o=>by simp[none2],emp_none2.disj',fun _ _ k=>k,by rw[hveq];exact .own0 emp_none2,rfl,rfl,rfl,fun _ _=>rfl,fun _ _ _=>.inl ⟨rfl,⟨ad,hveq⟩,hm⟩⟩
 ·have hcase:=hcase.resolve_left hz
  obtain⟨hbd,rfl,hBF⟩:=hcase
  have hexp:(expLeaf (.ref b 0 rows.length)).run st=some (.own lvl z (subA rows 0 rows.length),[(b,.dead)]):=by
   simp only[expLeaf,RP.run,hm,arrB,liveA,RP.bind,guardP,if_true]
   simp[hl]
  obtain⟨X1,ob1,O,hL,hown⟩:=expLeaf_ok h hx hexp
  have hsa:subA rows 0 rows.length=rows:=by simp[subA]
  simp only[hsa]at hown
  have hat0:=h.lv b _ hm
  have hs0:l.s=z.length∧l.n=rows.length:=by
   cases hat0 with
   |arr0 l2 hl2 hn2 hs2 hbd2 e=>rw[hll]at hl2;injection hl2 with hl2;subst hl2;exact⟨hs2,hn2⟩
   |arr l2 vs os hl2 hbd2 hs2 hn2 _ _ _ _ _ _ _ _ _ _=>rw[hll]at hl2;injection hl2 with hl2;subst hl2;exact⟨hs2,hn2⟩
  refine⟨_,X1,ob1,O,hL.rel,hL.iff,hL.dis,hL.own,hown,rfl,rfl,rfl,fun b' hne=>by simp[St.mws,upd,hne],fun _ _ _=>.inr ⟨l,cap,hll,hbd,by simpa using hveq,hz,hs0.1,hs0.2,by simp[St.mws,upd]⟩⟩
theorem wake1{st1:St}{w':World}{Y O2:Cells}{h:HLf}{v:Value}(hr:RelC E st1 a w' X loc ob)(hX: ∀g o,X g o↔Y g o∨O2 g o)(hd:Disj Y O2)(hx:AR w' (RS E w' (Owned ob X)) noLoc (.own h.lvl' h.z' h.rows') v O2)(hf:FactH st1 loc h v)
  (hrl:h.rows'.length=h.rows.length)(hzl:h.z'.length=h.z.length): ∃ob2,RelC E (st1.mws [(h.b,.live ⟨true,h.lvl',h.z',h.rows'⟩)]) a w' Y loc ob2∧ ∀g o,Owned ob2 Y g o→Owned ob X g o:=by
 obtain⟨b,lvl,z,rows,lvl',z',rows'⟩:=h
 simp only at hx hrl hzl hf⊢
 have hYX: ∀g o,Owned ob Y g o→Owned ob X g o:=fun g o k=>k.elim .inl fun k=>.inr ((hX g o).2 (.inl k))
 rcases hf with⟨hr0,⟨ad,hv⟩,hm⟩|⟨l,cap,hll,hbd,hv,hz,hs0,hn0,hdead⟩
 ·simp only at hr0 hm
  subst hr0
  have hrows':rows'=[]:=List.length_eq_zero_iff.1 hrl
  subst hrows'
  refine⟨ob,?_,hYX⟩
  refine hr.go none2 rfl rfl (Frame.refl w' _) (fun g o k=>⟨.inl (hYX g o k),hr.lt g o (hYX g o k)⟩) (fun _ _ k=>k.elim) (fun _ _ k=>k) (fun b'=> ?_) hr.db (fun b' g o k1 k2=>hr.dx b' g o k1 ((hX g o).2 (.inl k2)))
  by_cases hbb:b'=b
  ·subst hbb
   right
   simp only[St.mws,upd,if_true,BF1]
   have hat:=hr.lv b' _ hm
   cases hat with
   |arr0 l hl hn hs hbd e=>exact .arr0 l hl hn (by rw[hs,hzl]) hbd e
   |arr l vs os hl hbd hs hn hb hw hc hx hO hd hdd h0 h1 hm'=>
    refine .arr l vs os hl hbd (by rw[hs,hzl]) hn (by simpa using hb) ⟨fun row h=>by simp at h,fun row h=>by simp at h⟩ (fun i j hi=>by simp at hi) (fun i j row x h=>by simp at h) ?_ (fun i j hi=>by simp at hi) (fun i j i' j' hi=>by simp at hi) (fun _ row h=>by simp at h) (fun _ row h=>by simp at h) hm'
    intro g' o'
    rw[hO]
    constructor
    ·rintro (k|⟨i,j,hi,_⟩)
     ·exact .inl k
     ·simp at hi
    ·rintro (k|⟨i,j,hi,_⟩)
     ·exact .inl k
     ·simp at hi
  ·left
   exact⟨by simp[St.mws,upd,hbb],rfl,rfl,fun _ _ k=>k.elim⟩
 ·simp only at hll hv hz hs0 hn0 hdead
  have hemp:=(hr.dd b hdead).2
  have hsub: ∀g o,Owned (upd ob b O2) Y g o→Owned ob X g o:=by
   rintro g o (⟨b',k⟩|k)
   ·by_cases hbb:b'=b
    ·subst hbb;simp only[upd,if_true]at k;exact .inr ((hX g o).2 (.inr k))
    ·simp only[upd,hbb,if_false]at k;exact .inl ⟨b',k⟩
   ·exact .inr ((hX g o).2 (.inl k))
  have hRS3: ∀g o,RS E w' (Owned ob X) g o→RS E w' (Owned (upd ob b O2) Y) g o:=fun g o k=>⟨k.1,k.2.1,fun n=>k.2.2 (hsub g o n)⟩
  refine⟨upd ob b O2,?_,hsub⟩
  refine hr.go none2 rfl rfl (Frame.refl w' _) (fun g o k=>⟨.inl (hsub g o k),hr.lt g o (hsub g o k)⟩) (fun _ _ k=>k.elim) (fun _ _ k=>k) (fun b'=> ?_) (fun b1 b2 hne g o k1 k2=> ?_) (fun b1 g o k1 k2=> ?_)
  ·by_cases hbb:b'=b
   ·subst hbb
    right
    simp only[St.mws,upd,if_true,BF1]
    rw[hv]at hx
    generalize hve:(Value.slice (some ⟨l.g,l.base,none⟩) rows.length cap:Value)=v2 at hx
    cases hx with
    |sc h e=>exact h.elim
    |own0 e=>simp only[Value.slice.injEq]at hve;exact(hz ⟨hve.2.1,hve.2.2⟩).elim
    | @own _ _ _ _ g oo cap2 _ vs os hcap2 hb2 hw2 hc2 hxx2 hO2 hd2 hdd2 h02 h12 hm2=>
     simp only[Value.slice.injEq,Option.some.injEq,Addr.mk.injEq]at hve
     obtain⟨⟨rfl,rfl,_⟩,_,rfl⟩:=hve
     exact .arr l vs os hll hbd (by rw[hs0,hzl]) (by rw[hn0,hrl]) (hb2.mono (Nat.add_le_add_left (Nat.mul_le_mul_right _ hcap2) _)) hw2 hc2 (fun i j row x k1 k2=>(hxx2 i j row x k1 k2).weak hRS3 fun _ _ k=>k) hO2 hd2 hdd2 h02 h12 hm2
   ·left
    exact⟨by simp[St.mws,upd,hbb],by simp[upd,hbb],rfl,fun _ _ k=>k.elim⟩
  ·by_cases h1:b1=b
   ·subst h1
    have h2: ¬b2=b1:=fun e=>hne e.symm
    simp only[upd,if_true,h2,if_false]at k1 k2
    exact hr.dx b2 g o k2 ((hX g o).2 (.inr k1))
   ·by_cases h2:b2=b
    ·subst h2
     simp only[upd,if_true,h1,if_false]at k1 k2
     exact hr.dx b1 g o k1 ((hX g o).2 (.inr k2))
    ·simp only[upd,h1,h2,if_false]at k1 k2
     exact hr.db b1 b2 hne g o k1 k2
  ·by_cases h1:b1=b
   ·subst h1
    simp only[upd,if_true]at k1
    exact hd g o k2 k1
   ·simp only[upd,h1,if_false]at k1
    exact hr.dx b1 g o k1 ((hX g o).2 (.inl k2))
theorem give_ok: ∀(ds:List (Option HLf))(cs:List AV)(vs:List Value)(st:St)(X:Cells)(ob:Nat→Cells),RelC E st a w X loc ob→vs.length=cs.length→okH st ds cs→
  (∀(k:Nat) x v,cs[k]? =some x→vs[k]? =some v→AR w (RS E w (Owned ob X)) loc x v none2)→
  ∃st1 X1 ob1 O,RelC E st1 a w X1 loc ob1∧(∀g o,X1 g o↔X g o∨O g o)∧Disj X O∧(∀g o,Owned ob1 X1 g o→Owned ob X g o)∧Parts w (RS E w (Owned ob1 X1)) noLoc (zipGive ds cs) vs O∧
   st1.t=st.t∧st1.n=st.n∧st1.an=st.an∧(∀b',b'∉idsH ds→st1.m b'=st.m b')∧FactsH st1 loc ds vs
 |[],[],[],st,X,ob,h,_,_,_=>⟨st,X,ob,none2,h,fun g o=>by simp[none2],emp_none2.disj',fun _ _ k=>k,emp_none2,rfl,rfl,rfl,fun _ _=>rfl,trivial⟩
 |[],[],_::_,_,_,_,_,hl,_,_=>by simp at hl
 |[],_::_,_,_,_,_,_,_,h,_=>h.elim
 |none::ds,[],_,_,_,_,_,_,h,_=>h.elim
 |some _::ds,[],_,_,_,_,_,_,h,_=>h.elim
 |_::ds,_::cs,[],_,_,_,_,hl,_,_=>by simp at hl
 |none::ds,x::cs,v::vs,st,X,ob,h,hl,⟨hg,hok⟩,hx=>by
  obtain⟨st1,X1,ob1,O,h1,h2,h3,h4,h5,h6,h7,h8,h9,h10⟩:=give_ok ds cs vs st X ob h (by simpa using hl) hok fun k y u k1 k2=>hx (k+1) y u (by simpa using k1) (by simpa using k2)
  have hRS: ∀g o,RS E w (Owned ob X) g o→RS E w (Owned ob1 X1) g o:=fun g o k=>⟨k.1,k.2.1,fun n=>k.2.2 (h4 g o n)⟩
  exact⟨st1,X1,ob1,O,h1,h2,h3,h4,⟨none2,O,fun g o=>by simp[none2],emp_none2.disj,((hx 0 x v rfl rfl).goes_emp hg hRS).1,h5⟩,h6,h7,h8,h9,h10⟩
 |some d::ds,x::cs,v::vs,st,X,ob,h,hl,⟨⟨hxe,hm,hlv,hrl,hzl,hc⟩,hok⟩,hx=>by
  subst hxe
  obtain⟨st1,X1,ob1,O1,h1,h2,h3,h4,h5,h6,h7,h8,h9,h10⟩:=give1 h hm hlv (hx 0 _ v rfl rfl)
  have hRS: ∀g o,RS E w (Owned ob X) g o→RS E w (Owned ob1 X1) g o:=fun g o k=>⟨k.1,k.2.1,fun n=>k.2.2 (h4 g o n)⟩
  have hok1:okH st1 ds cs:=by
   have key: ∀(ds:List (Option HLf))(cs:List AV),(idsH ds).contains d.b=false→okH st ds cs→okH st1 ds cs:=by
    intro ds
    induction ds with
    |nil=>intro cs _ k;cases cs<;>exact k
    |cons e ds ih=>
     intro cs hb k
     cases cs with
     |nil=>cases e<;>exact k.elim
     |cons y cs=>
      cases e with
      |none=>exact⟨k.1,ih cs hb k.2⟩
      |some e=>
       simp only[idsH,List.contains_cons,Bool.or_eq_false_iff,beq_eq_false_iff_ne]at hb
       refine⟨⟨k.1.1,?_,k.1.2.2⟩,ih cs hb.2 k.2⟩
       rw[h9 e.b (fun e'=>hb.1 e'.symm)]
       exact k.1.2.1
   exact key ds cs hc hok
  obtain⟨st2,X2,ob2,O2,g1,g2,g3,g4,g5,g6,g7,g8,g9,g10⟩:=give_ok ds cs vs st1 X1 ob1 h1 (by simpa using hl) hok1 fun k y u k1 k2=>(hx (k+1) y u (by simpa using k1) (by simpa using k2)).weak hRS fun _ _ k=>k
  have hRS2: ∀g o,RS E w (Owned ob1 X1) g o→RS E w (Owned ob2 X2) g o:=fun g o k=>⟨k.1,k.2.1,fun n=>k.2.2 (g4 g o n)⟩
  refine⟨st2,X2,ob2,fun g o=>O1 g o∨O2 g o,g1,fun g o=>by rw[g2,h2,or_assoc],fun g o k1 k2=> ?_,fun g o k=>h4 g o (g4 g o k),⟨O1,O2,fun g o=>Iff.rfl,fun g o k1 k2=>g3 g o ((h2 g o).2 (.inr k1)) k2,h5.weak hRS2 fun _ _ k=>k,g5⟩,g6.trans h6,g7.trans h7,g8.trans h8,fun b' hb'=> ?_,?_,g10⟩
  ·rcases k2 with k2|k2
   ·exact h3 g o k1 k2
   ·exact g3 g o ((h2 g o).2 (.inl k1)) k2
  ·simp only[idsH,List.mem_cons,not_or]at hb'
   rw[g9 b' hb'.2,h9 b' hb'.1]
  ·have:=h10 d.lvl' d.z' d.rows'
   unfold FactH at this⊢
   rw[g9 d.b (by simpa using hc)]
   exact this
theorem wake_ok{w':World}: ∀(ds:List (Option HLf))(cs:List AV)(vs:List Value)(st0 st1:St)(X Y O2:Cells)(ob:Nat→Cells),RelC E st1 a w' X loc ob→(∀g o,X g o↔Y g o∨O2 g o)→Disj Y O2→
  Parts w' (RS E w' (Owned ob X)) noLoc (ds.map backA) vs O2→FactsH st1 loc ds vs→okH st0 ds cs→ ∃ob2,RelC E (st1.mws (wrH ds)) a w' Y loc ob2∧ ∀g o,Owned ob2 Y g o→Owned ob X g o
 |[],_,[],st0,st1,X,Y,O2,ob,h,hX,hd,hp,hf,hok=>by
  have:X=Y:=by funext g o;exact propext ((hX g o).trans ⟨fun k=>k.resolve_right (hp g o),.inl⟩)
  subst this
  exact⟨ob,h,fun _ _ k=>k⟩
 |[],_,_::_,_,_,_,_,_,_,_,_,_,_,hf,_=>hf.elim
 |none::ds,_,[],_,_,_,_,_,_,_,_,_,_,hf,_=>hf.elim
 |some _::ds,_,[],_,_,_,_,_,_,_,_,_,_,hf,_=>hf.elim
 |none::ds,[],_::_,_,_,_,_,_,_,_,_,_,_,_,hok=>hok.elim
 |some _::ds,[],_::_,_,_,_,_,_,_,_,_,_,_,_,hok=>hok.elim
 |none::ds,x::cs,v::vs,st0,st1,X,Y,O2,ob,h,hX,hd,⟨O3,O4,k1,k2,k3,k4⟩,hf,⟨_,hok⟩=>by
  have e3:Emp O3:=by
   cases k3 with
   |sc _ e=>exact e
  have:O4=O2:=by funext g o;exact propext ⟨fun k=>(k1 g o).2 (.inr k),fun k=>((k1 g o).1 k).resolve_left (e3 g o)⟩
  subst this
  exact wake_ok ds cs vs st0 st1 X Y _ ob h hX hd k4 hf hok
 |some d::ds,x::cs,v::vs,st0,st1,X,Y,O2,ob,h,hX,hd,⟨O3,O4,k1,k2,k3,k4⟩,⟨hf1,hf2⟩,⟨⟨_,_,_,hrl,hzl,hc⟩,hok⟩=>by
  obtain⟨ob1,h1,h2⟩:=wake1 (Y:=fun g o=>Y g o∨O4 g o) (O2:=O3) h (fun g o=>by rw[hX,k1];exact⟨fun k=>k.elim (fun k=>.inl (.inl k)) (fun k=>k.elim .inr (fun k=>.inl (.inr k))),fun k=>k.elim (fun k=>k.elim .inl (fun k=>.inr (.inr k))) (fun k=>.inr (.inl k))⟩) (fun g o m1 m2=>m1.elim (fun m=>hd g o m ((k1 g o).2 (.inl m2))) fun m=>k2 g o m2 m) k3 hf1 hrl hzl
  have hRS: ∀g o,RS E w' (Owned ob X) g o→RS E w' (Owned ob1 fun g o=>Y g o∨O4 g o) g o:=fun g o k=>⟨k.1,k.2.1,fun n=>k.2.2 (h2 g o n)⟩
  have hf3:FactsH (st1.mws [(d.b,.live ⟨true,d.lvl',d.z',d.rows'⟩)]) loc ds vs:=FactsH.keep (fun b hb=>by
   have:b≠d.b:=fun e=>by subst e;simp at hc;exact hc hb
   simp[St.mws,upd,this]) hf2
  obtain⟨ob2,h3,h4⟩:=wake_ok ds cs vs st0 _ _ Y O4 ob1 h1 (fun g o=>Iff.rfl) (fun g o m1 m2=>hd g o m1 ((k1 g o).2 (.inr m2))) (Parts.mono hRS (fun _ _ k=>k) _ _ _ k4) hf3 hok
  exact⟨ob2,h3,fun g o k=>h2 g o (h4 g o k)⟩
theorem lendLeaf_pure{st st':St}{x y:AV}(hx:x.hasRef0=false)(h:(lendLeaf x).run st=some y):(lendLeaf x).run st'=some y:=by
 cases x<;>first|exact h|simp[AV.hasRef0]at hx
theorem lendLeaves_pure{st st':St}: ∀{l ys:List AV},l.any AV.hasRef0=false→(lendLeaves l).run st=some ys→(lendLeaves l).run st'=some ys
 |[],ys,_,h=>h
 |x::l,ys,hx,h=>by
  simp only[List.any_cons,Bool.or_eq_false_iff]at hx
  obtain⟨y,h1,h⟩:=bind_some h
  obtain⟨ys',h2,h⟩:=bind_some h
  obtain rfl:=ret_some h
  exact bind_run (lendLeaf_pure hx.1 h1) (bind_run (lendLeaves_pure hx.2 h2) rfl)
theorem lendVals_pure{st st':St}: ∀{l ys:List AV},l.any AV.hasRef=false→(lendVals l).run st=some ys→(lendVals l).run st'=some ys
 |[],ys,_,h=>h
 |x::l,ys,hx,h=>by
  simp only[List.any_cons,Bool.or_eq_false_iff]at hx
  obtain⟨y,h1,h⟩:=bind_some h
  obtain⟨ys',h2,h⟩:=bind_some h
  obtain rfl:=ret_some h
  refine bind_run ?_ (bind_run (lendVals_pure hx.2 h2) rfl)
  cases x with
  |agg cs=>
   obtain⟨ys',h2,h⟩:=bind_some h1
   obtain rfl:=ret_some h
   exact bind_run (lendLeaves_pure hx.1 h2) rfl
  |_=>unfold lendVal at h1⊢;exact lendLeaf_pure hx.1 h1
theorem handWA_ok(tb:Tabs P E.w0 E.O0){c:Call}{fo:Operand}(ho:o.op=.call c)(hc:c.callee=.value fo)(h:RelC E st a w none2 loc ob){K:St→Prop}{f:FuncId}{as:List AV}(hf:AR w (RS E w (Owned ob none2)) loc (.fn f []) (a.eval fo) none2)
  (has:(opnds c.args.toList).run st=some as)(hk:handWA P o st K f as){next:Act→World→Prop}{Q:Exit→Act→World→Prop}
  (hn: ∀st' a' w',K st'→Rel E st' a' w' none2→next a' w'):o.wp P a w next Q:=by
 obtain⟨cs,rest,ds,ys,res,rfl,hok,hnr,hys,hcon,hl⟩:=hk
 obtain⟨st',htook,hK⟩:=landW_took hl
 obtain⟨hal,hax⟩:=opnds_some h has
 have hvl:(c.args.toList.map a.eval).length=rest.length+1:=by simpa using hal.symm
 obtain⟨v0,vr,hvals⟩: ∃v0 vr,c.args.toList.map a.eval=v0::vr:=by
  match hh:c.args.toList.map a.eval with
  |[]=>rw[hh]at hvl;simp at hvl
  |v0::vr=>exact⟨v0,vr,rfl⟩
 have hx: ∀(k:Nat) x v,(AV.agg cs::rest)[k]? =some x→(v0::vr)[k]? =some v→AR w (RS E w (Owned ob none2)) loc x v none2:=fun k x v h1 h2=>by
  rw[←hvals]at h2
  simp only[List.getElem?_map,Option.map_eq_some_iff]at h2
  obtain⟨op,h3,rfl⟩:=h2
  exact hax k x op h1 h3
 obtain⟨vs,rfl,hvn,hvx⟩:=(hx 0 _ v0 rfl rfl).inv_agg
 obtain⟨st1,X1,ob1,O,g1,g2,g3,g4,g5,g6,g7,g8,g9,g10⟩:=give_ok ds cs vs.toList st none2 ob h (by simpa using hvn) hok fun k x v k1 k2=>hvx k x v k1 (by simpa using k2)
 have hX1:X1=O:=by funext g o;exact propext ((g2 g o).trans ⟨fun k=>k.resolve_left id,.inr⟩)
 subst hX1
 have hRS: ∀g o,RS E w (Owned ob none2) g o→RS E w (Owned ob1 X1) g o:=fun g o k=>⟨k.1,k.2.1,fun n=>k.2.2 (g4 g o n)⟩
 have hrl:vr.length=rest.length:=by rw[hvals]at hvl;simpa using hvl
 have hp2:=lendVals_ok g1 (Rc:=RS E w (Owned ob1 X1)) (fun _ _ k=>k) rest ys vr hrl (lendVals_pure (st':=st1) hnr hys) (fun k x v k1 k2=>(hx (k+1) x v (by simpa using k1) (by simpa using k2)).weak hRS fun _ _ k=>k)
  (fun hh b g o _=>by
   have:rest.any AV.hasRef=true:=hh
   rw[hnr]at this;cases this)
 obtain⟨u1,os1,u2,u3⟩:=uni_of_parts _ _ _ g5
 have hagg:AR w (RS E w (Owned ob1 X1)) noLoc (.agg (zipGive ds cs)) (.agg vs) X1:=.agg os1 (by simpa using u1) (fun k x v k1 k2=>u2 k x v k1 (by simpa using k2)) u3
 have hp:Parts w (RS E w (Owned ob1 X1)) noLoc (.agg (zipGive ds cs)::ys) (.agg vs::vr) X1:=⟨X1,none2,fun g o=>by simp[none2],emp_none2.disj',hagg,hp2⟩
 have hcalls:=hcon.calls w (RS E w (Owned ob1 X1)) X1 (.agg vs::vr) hp (fun g o k=>⟨k.2.1,fun m=>k.2.2 (.inr m)⟩) (fun g o k=>g1.lt g o (.inr k)) (tb.at g1)
 unfold Oper.wp
 rw[call_run ho hc hcon.ok hf,Oper.upon_enter,hvals]
 refine hcalls.mono fun e w' hb=> ?_
 cases e with
 |returned u=>
  obtain⟨O',hF,hO',O1,O2,hOO,hdd,hres,hrest⟩:=hb
  have hrel:RelC E st1 a w' O' loc ob1:=g1.back (Rc:=RS E w (Owned ob1 X1)) hF hO'
  have conv: ∀g o,RS ⟨w,RS E w (Owned ob1 X1),X1,noLoc⟩ w' O' g o→RS E w' (Owned ob1 O') g o:=
   back_RS g1 (nr:=false) (fun g o k=>.inl k) rfl (fun b g o k=>g1.lt g o (.inl ⟨b,k⟩)) (fun b g o k m=>m.2.2 (.inl ⟨b,k⟩)) (fun g o k=>g1.sub g o (.inr k)) hF
  obtain⟨O3,O4,r1,r2,r3,r4⟩:=hrest
  have he4:=parts_undefs _ _ _ r4
  have hO3:O3=O2:=by funext g o;exact propext ⟨fun k=>(r1 g o).2 (.inl k),fun k=>((r1 g o).1 k).resolve_right (he4 g o)⟩
  subst hO3
  have hp5:Parts w' (RS E w' (Owned ob1 O')) noLoc (ds.map backA) vs.toList O3:=by
   cases r3 with
   |sc h e=>exact h.elim
   |agg os hn2 hx2 hu2=>exact parts_of_uni _ _ os _ (by simpa using hn2) (fun k x v k1 k2=>(hx2 k x v k1 (by simpa using k2)).weak conv fun _ _ k=>k) hu2
  obtain⟨ob2,h5,h6⟩:=wake_ok ds cs vs.toList st st1 O' O1 O3 ob1 hrel hOO hdd hp5 g10 hok
  have hst:st1.mws (wrH ds)=st.mws (wrH ds):=by
   have hm: ∀(ds:List (Option HLf))(s1 s2:St),s1.t=s2.t→s1.n=s2.n→s1.an=s2.an→(∀b,b∉idsH ds→s1.m b=s2.m b)→s1.mws (wrH ds)=s2.mws (wrH ds):=by
    intro ds
    induction ds with
    |nil=>
     intro s1 s2 e1 e2 e3 e4
     cases s1;cases s2
     simp only[wrH,St.mws,St.mk.injEq]at e1 e2 e3⊢
     exact⟨e2,e1,funext fun b=>e4 b (by simp[idsH]),e3⟩
    |cons d ds ih=>
     intro s1 s2 e1 e2 e3 e4
     cases d with
     |none=>exact ih s1 s2 e1 e2 e3 fun b hb=>e4 b hb
     |some d=>
      refine ih _ _ e1 e2 e3 fun b hb=> ?_
      simp only[upd]
      split
      ·rfl
      ·rename_i hne
       exact e4 b (by simp[idsH,hne,hb])
   exact hm ds st1 st g6 g7 g8 g9
  rw[hst]at h5
  have hRS2: ∀g o,RS E w' (Owned ob1 O') g o→RS E w' (Owned ob2 O1) g o:=fun g o k=>⟨k.1,k.2.1,fun n=>k.2.2 (h6 g o n)⟩
  exact hn st' _ w' hK (took_ok h5 ((hres.weak conv fun _ _ k=>k).weak hRS2 fun _ _ k=>k) htook)
 |panicked ch=>exact hb.elim
 |outgrown=>exact hb.elim
theorem callW_ok(tb:Tabs P E.w0 E.O0){c:Call}{fo:Operand}(ho:o.op=.call c)(hc:c.callee=.value fo)(h:Rel E st a w none2){K:St→Prop}(hk:(callA c fo).runK st (callW P o st K)){next:Act→World→Prop}{Q:Exit→Act→World→Prop}
  (hn: ∀st' a' w',K st'→Rel E st' a' w' none2→next a' w'):o.wp P a w next Q:=by
 obtain⟨loc,ob,h⟩:=h
 obtain⟨q,hq,hk⟩:=runK_run hk
 obtain⟨fv,hf0,hq1⟩:=bind_some hq
 obtain⟨as,has,hq2⟩:=bind_some hq1
 obtain⟨ys,hys,hq3⟩:=bind_some hq2
 obtain rfl:=ret_some hq3
 have hf:=opnd_some h hf0
 clear hf0 hq hq1 hq2 hq3
 unfold callW at hk
 simp only at hk
 split at hk
 case h_2=>exact hk.elim
 rename_i f caps
 split at hk
 case h_2=>exact hk.elim
 rcases hk with hk|⟨j,hk⟩|hk
 case inr.inl=>exact handW_ok tb ho hc h hf has hk hn
 case inr.inr=>exact handWA_ok tb ho hc h hf has hk hn
 obtain⟨res,hcon,hk⟩:=hk
 rcases hk with⟨hqq,hl⟩|hl
 case inr=>
  obtain⟨st',htook,hK⟩:=landW_took hl
  obtain⟨hal,hax⟩:=opnds_some h has
  obtain⟨hp,hsome⟩:=frzVals_ok (bs:=refsV as) h as ys (c.args.toList.map a.eval) (by simpa using hal.symm) hys (fun k x v h1 h2=>by
   simp only[List.getElem?_map,Option.map_eq_some_iff]at h2
   obtain⟨op,h3,rfl⟩:=h2
   exact hax k x op h1 h3) (fun b k=>k)
  have h1:=h.kills (refsV as) hsome
  have hcalls:=hcon.calls w (RS E w (Owned (fun b=>if b∈refsV as then none2 else ob b) none2)) none2 (c.args.toList.map a.eval) hp (fun g o k=>⟨k.2.1,fun k=>k.elim⟩) (fun g o k=>k.elim) (tb.at h1)
  unfold Oper.wp
  rw[call_run ho hc hcon.ok hf,Oper.upon_enter]
  refine hcalls.mono fun e w' hb=> ?_
  cases e with
  |returned v=>
   obtain⟨O',hF,hO',O1,O2,hOO,hdd,hres,hrest⟩:=hb
   have hemp2:=parts_undefs _ _ _ hrest
   have hO1:O1=O':=by
    funext g o
    exact propext ⟨fun k=>(hOO g o).2 (.inl k),fun k=>((hOO g o).1 k).resolve_right (hemp2 g o)⟩
   subst hO1
   have hrel:=h1.back (Rc:=fun _ _=>False) hF hO'
   have conv: ∀g o,RS ⟨w,RS E w (Owned (fun b=>if b∈refsV as then none2 else ob b) none2),none2,noLoc⟩ w' O1 g o→RS E w' (Owned (fun b=>if b∈refsV as then none2 else ob b) O1) g o:=
    back_RS h1 (nr:=false) (fun g o k=>.inl k) rfl (fun b g o k=>h1.lt g o (.inl ⟨b,k⟩)) (fun b g o k m=>m.2.2 (.inl ⟨b,k⟩)) (fun g o k=>k.elim) hF
   exact hn st' _ w' hK (took_ok hrel (hres.weak conv fun _ _ k=>k) htook)
  |panicked ch=>exact hb.elim
  |outgrown=>exact hb.elim
 obtain⟨st',htook,hK⟩:=landW_took hl
 have hfv:a.eval fo=.func (.func f) #[] #[]:=by
  generalize a.eval fo=ev at hf
  cases hf with
  |sc hs _=>exact hs.elim
  | @fn _ _ _ vs _ os hvn hvx hu=>
   have:vs=#[]:=by apply Array.eq_empty_of_size_eq_zero;simpa using hvn
   rw[this]
 obtain⟨hal,hax⟩:=opnds_some h has
 let Rc:Cells:=fun g o=>RS E w (Owned ob none2) g o∨(as.any AV.hasRef=true∧ ∃b,ob b g o)
 have hRc: ∀g o,RS E w (Owned ob none2) g o→Rc g o:=fun g o k=>.inl k
 have hp:=lendVals_ok h hRc as ys (c.args.toList.map a.eval) (by simpa using hal.symm) hys (fun k x v h1 h2=>by
  simp only[List.getElem?_map,Option.map_eq_some_iff]at h2
  obtain⟨op,h3,rfl⟩:=h2
  exact hax k x op h1 h3) (fun hh b g o k=>.inr ⟨hh,b,k⟩)
 have hcalls:=hcon.calls w Rc none2 (c.args.toList.map a.eval) hp (fun g o k=>⟨by
  rcases k with k|⟨_,b,k⟩
  ·exact k.2.1
  ·exact h.lt g o (.inl ⟨b,k⟩),fun k=>k.elim⟩) (fun g o k=>k.elim) (tb.at h)
 unfold Oper.wp
 have hrun:(execOp a.eval o).run P w=.ok (.enter f (c.args.toList.map a.eval).toArray) w:=by
  obtain⟨_,op,ty,_,_,_⟩:=o
  subst ho
  simp only[execOp]
  rw[run_call hc hfv hcon.ok]
  congr 2
  apply Array.ext'
  simp
 rw[hrun,Oper.upon_enter]
 refine hcalls.mono fun e w' hb=> ?_
 cases e with
 |returned v=>
  obtain⟨O',hF,hO',O1,O2,hOO,hdd,hres,hrest⟩:=hb
  have hemp2:=parts_undefs _ _ _ hrest
  have hO1:O1=O':=by
   funext g o
   exact propext ⟨fun k=>(hOO g o).2 (.inl k),fun k=>((hOO g o).1 k).resolve_right (hemp2 g o)⟩
  subst hO1
  have hrel:RelC E st a w' O1 loc ob:=h.back (Rc:=Rc) hF hO'
  have hres':AR w' (RS E w' (Owned ob O1)) noLoc res v O1:=by
   rcases(Bool.or_eq_true _ _).mp hqq with hno|hnr
   ·refine hres.weak (fun g o k=> ?_) (fun _ _ k=>k)
    obtain⟨h1,h2,h3⟩:=k
    have hno:as.any AV.hasRef=false:=by simpa using hno
    have hobn: ∀b,w.heap.size≤g→ ¬ob b g o:=fun b hle k=>by have:=h.lt g o (.inl ⟨b,k⟩);omega
    refine⟨?_,h2,?_⟩
    ·rcases h1 with(h1|⟨hh,_⟩)|h1|h1
     ·exact h1.1
     ·rw[hno]at hh;cases hh
     ·exact h1.elim
     ·exact .inr (.inr (Nat.le_trans h.fr.size h1))
    ·rintro (⟨b,k⟩|k)
     ·rcases h1 with(h1|⟨hh,_⟩)|h1|h1
      ·exact h1.2.2 (.inl ⟨b,k⟩)
      ·rw[hno]at hh;cases hh
      ·exact h1.elim
      ·exact hobn b h1 k
     ·exact h3 k
   ·exact hres.nr_any hnr
  exact hn st' _ w' hK (took_ok hrel hres' htook)
 |panicked ch=>exact hb.elim
 |outgrown=>exact hb.elim
theorem restP_get: ∀{fs:List (Option Nat)}{as:List AV}{k:Nat}{x:AV},(restP fs as)[k]? =some x→x=.undef∨as[k]? =some x
 |[],[],k,x,h=>by simp[restP]at h
 |[],_::_,k,x,h=>by simp[restP]at h
 |none::_,[],k,x,h=>by simp[restP]at h
 |some _::_,[],k,x,h=>by simp[restP]at h
 |none::fs,y::as,0,x,h=>.inr (by simpa[restP]using h)
 |some _::fs,y::as,0,x,h=>.inl (by simpa[restP]using h.symm)
 |none::fs,y::as,k+1,x,h=>by simpa using restP_get (fs:=fs) (as:=as) (k:=k) (by simpa[restP]using h)
 |some _::fs,y::as,k+1,x,h=>by simpa using restP_get (fs:=fs) (as:=as) (k:=k) (by simpa[restP]using h)
theorem restP_len: ∀{fs:List (Option Nat)}{as:List AV},fs.length=as.length→(restP fs as).length=as.length
 |[],[],_=>rfl
 |[],_::_,h=>by simp at h
 |_::_,[],h=>by simp at h
 |none::fs,y::as,h=>by simp[restP,restP_len (fs:=fs) (as:=as) (by simpa using h)]
 |some _::fs,y::as,h=>by simp[restP,restP_len (fs:=fs) (as:=as) (by simpa using h)]
theorem undefAt_len: ∀{fs:List (Option Nat)}{gs:List AV},undefAt fs gs→fs.length=gs.length
 |[],[],_=>rfl
 |[],_::_,h=>h.elim
 |none::_,[],h=>h.elim
 |some _::_,[],h=>h.elim
 |none::fs,y::as,h=>by simp[undefAt_len h.2]
 |some _::fs,y::as,h=>by simp[undefAt_len (fs:=fs) (gs:=as) h]
theorem callPW_ok(tb:Tabs P E.w0 E.O0){c:Call}{fo:Operand}(ho:o.op=.call c)(hc:c.callee=.value fo)(h:Rel E st a w none2){K:St→Prop}(hk:callPW P c fo o st K){next:Act→World→Prop}{Q:Exit→Act→World→Prop}
  (hn: ∀st' a' w',K st'→Rel E st' a' w' none2→next a' w'):o.wp P a w next Q:=by
 obtain⟨loc,ob,h⟩:=h
 obtain⟨fv,hf0,hk⟩:=runK_run hk
 obtain⟨as,has,hk⟩:=runK_run hk
 have hf:=opnd_some h hf0
 have hex: ∃f caps,fv=.fn f caps:=by cases fv<;>first|exact hk.elim|exact⟨_,_,rfl⟩
 obtain⟨f,caps,rfl⟩:=hex
 obtain⟨fs,hg⟩:=hk
 obtain⟨hal,hax⟩:=opnds_some h has
 obtain⟨cvs,hfv,hcn,hcx⟩:=hf.inv_fn
 let vals:=c.args.toList.map a.eval++cvs.toList
 have hvlen:vals.length=(as++caps).length:=by simp[vals,hal,hcn]
 have hax':(c.args.toList.map a.eval).length=as.length:=by simpa using hal.symm
 have hvx: ∀(k:Nat) x v,(as++caps)[k]? =some x→vals[k]? =some v→AR w (RS E w (Owned ob none2)) loc x v none2:=by
  intro k x v h1 h2
  by_cases hk:k<as.length
  ·rw[List.getElem?_append_left hk]at h1
   simp only[vals]at h2
   rw[List.getElem?_append_left (by omega)]at h2
   simp only[List.getElem?_map,Option.map_eq_some_iff]at h2
   obtain⟨op,h3,rfl⟩:=h2
   exact hax k x op h1 h3
  ·rw[List.getElem?_append_right (by omega)]at h1
   simp only[vals]at h2
   rw[List.getElem?_append_right (by omega),hax']at h2
   exact hcx _ x v h1 (by simpa using h2)
 have hptrs:=givePs_ptrs _ _ _ _ hg
 obtain⟨gs,st1,X1,ob1,O,hk1,hL,hpg,hsh⟩:=givePs_ok fs (as++caps) vals st none2 ob _ h hvlen hvx hg
 have hXO:X1=O:=by funext g o;exact propext ((hL.iff g o).trans ⟨fun k=>k.resolve_left id,.inr⟩)
 subst hXO
 obtain⟨ys,hys,os,res,b0,hcon,hq,htk⟩:=runK_run hk1
 let Rc:Cells:=fun g o=>RS E w (Owned ob1 X1) g o∨((restP fs (as++caps)).any AV.leads=true∧ ∃b,ob1 b g o)
 have hRc: ∀g o,RS E w (Owned ob1 X1) g o→Rc g o:=fun g o k=>.inl k
 have hgl:=(uni_of_parts _ _ _ hpg).1
 have hfl:fs.length=(as++caps).length:=by rw[undefAt_len hsh,←hgl,hvlen]
 have hp2:=lendXs_ok hL.rel hRc (restP fs (as++caps)) ys vals (by rw[restP_len hfl,hvlen]) hys (fun k x v k1 k2=>by
  rcases restP_get k1 with rfl|k1
  ·exact .sc trivial emp_none2
  ·exact(hvx k x v k1 k2).weak hL.RS fun _ _ k=>k) (fun hh b g o k=>.inr ⟨hh,b,k⟩)
 have hp:=mix_parts fs gs ys vals X1 hsh (Parts.mono hRc (fun _ _ k=>k) _ _ _ hpg) hp2
 have hcalls:=hcon.calls w Rc X1 vals hp (fun g o k=>⟨by
  rcases k with k|⟨_,b,k⟩
  ·exact k.2.1
  ·exact hL.rel.lt g o (.inl ⟨b,k⟩),fun m=>by
  rcases k with k|⟨_,b,k⟩
  ·exact k.2.2 (.inr m)
  ·exact hL.rel.dx b g o k m⟩) (fun g o k=>hL.rel.lt g o (.inr k)) (tb.at hL.rel)
 unfold Oper.wp
 have hrun:(execOp a.eval o).run P w=.ok (.enter f vals.toArray) w:=by
  obtain⟨_,op,ty,_,_,_⟩:=o
  subst ho
  simp only[execOp]
  rw[run_call hc hfv hcon.ok]
  congr 2
  apply Array.ext'
  simp[vals]
 rw[hrun,Oper.upon_enter]
 refine hcalls.mono fun e w' hb=> ?_
 cases e with
 |returned v=>
  obtain⟨O',hF,hO',O1,O2,hOO,hdd,hres,hrest⟩:=hb
  have hrel:RelC E st1 a w' O' loc ob1:=hL.rel.back (Rc:=Rc) hF hO'
  have hboth:AR w' (RS E w' (Owned ob1 O')) noLoc res v O1∧Parts w' (RS E w' (Owned ob1 O')) noLoc os vals O2:=by
   rcases(Bool.or_eq_true _ _).mp hq with hno|hnr
   ·have conv: ∀g o,RS ⟨w,Rc,X1,noLoc⟩ w' O' g o→RS E w' (Owned ob1 O') g o:=
     back_RS hL.rel (nr:=(restP fs (as++caps)).any AV.leads) (fun g o k=>k) (by simpa using hno) (fun b g o k=>hL.rel.lt g o (.inl ⟨b,k⟩)) (fun b g o k m=>m.2.2 (.inl ⟨b,k⟩)) (fun g o k=>hL.rel.sub g o (.inr k)) hF
    exact⟨hres.weak conv fun _ _ k=>k,Parts.mono conv (fun _ _ k=>k) _ _ _ hrest⟩
   ·simp only[Bool.and_eq_true]at hnr
    exact⟨hres.nr_any hnr.1,parts_nrO _ _ _ hnr.2 hrest⟩
  obtain⟨st2,loc2,ob2,hk2,hL2⟩:=takePs_ok fs (as++caps) os vals b0 st1 O' O2 O1 loc ob1 _ hrel (fun g o=>by rw[hOO];exact Or.comm) hdd.symm hboth.2 (fun k x v k1 k2=>by
   have hxx:=hvx k x v k1 k2
   cases x<;>first|trivial|(obtain⟨l,e1,e2,_,e3⟩:=hxx.inv_ptr;exact⟨l,e1,e2,e3⟩)) hptrs htk
  obtain⟨st',htook,hK⟩:=landW_took hk2
  have hRS2:RS E w' (Owned ob2 O1)=RS E w' (Owned ob1 O'):=by rw[hL2.own]
  exact hn st' _ w' hK (took_ok hL2.rel (by rw[hRS2];exact hboth.1) htook)
 |panicked ch=>exact hb.elim
 |outgrown=>exact hb.elim
theorem lenN_val{x:AV}{v:Value}{n:Nat}{R:Cells}(h:AR w R loc x v none2)(hn:lenN x=some n): ∃ad cap,v=.slice ad n cap∧(ad=none→n=0):=by
 cases x<;>simp only[lenN]at hn<;>try cases hn
 ·cases h with
  |sc h e=>obtain⟨a,rfl⟩:=h;exact⟨a,0,rfl,fun _=>rfl⟩
 ·rename_i b off
  obtain⟨l,_,_,ad,cap,rfl,_,hc⟩:=h.inv_ref
  refine⟨ad,cap,rfl,fun e=> ?_⟩
  rcases hc with⟨h1,_⟩|⟨_,h1,_⟩
  ·exact h1
  ·rw[e]at h1;cases h1
 ·cases h with
  |sc h e=>exact h.elim
  |ro0 e=>exact⟨_,_,rfl,fun _=>rfl⟩
  |ro vs e h1 h2 h3 h4 h5 h6 h7 h8=>exact⟨_,_,rfl,fun e=>by cases e⟩
theorem run_nil{t e:TypeId}(ht:P.underlying t=some (.slice e))(ad:Option Addr)(n cap:Nat):(Op.equal t (.slice ad n cap) (.slice none 0 0)).run P w=.ok ad.isNone w:=by
 have key: ∀d,(Op.equalIn (d+1) t (.slice ad n cap) (.slice none 0 0)).run P w=.ok ad.isNone w:=fun d=>by
  cases ad<;>simp[Op.equalIn,run_underlying ht]
 exact key 9999
theorem nilW_ok(hT:T.ok P)(h:Rel E st a w none2){op:BinOp}{t ty:TypeId}{x y:Operand}(ho:o.op=.binOp op t x y ty){K:St→Prop}(hk:nilW T o op t x y st K){next:Act→World→Prop}{Q:Exit→Act→World→Prop}
  (hn: ∀st' a' w',K st'→Rel E st' a' w' none2→next a' w'):o.wp P a w next Q:=by
 obtain⟨loc,ob,h⟩:=h
 obtain⟨hy,ht,hd,v,n,hx,hl,hk⟩:=hk
 have hy:y=.const (.slice none 0 0):=by
  unfold isNilC at hy
  split at hy
  ·rfl
  ·cases hy
 subst hy
 obtain⟨e,hu⟩: ∃e,P.underlying t=some (.slice e):=by
  unfold isSliceT at ht
  split at ht
  ·rename_i i hi
   split at ht
   ·rename_i e hut
    obtain⟨d,hd,hut'⟩:=(hT.at hi).und
    have:=und_slice (hut'.symm.trans hut)
    subst this
    exact⟨e,hd⟩
   ·cases ht
  ·cases ht
 obtain⟨ad,cap,hv,hz⟩:=lenN_val (opnd_some h hx) hl
 have hk:=hk ad.isNone (fun e=>hz (Option.isNone_iff_eq_none.1 e))
 have hey:a.eval (.const (.slice none 0 0))=.slice none 0 0:=rfl
 have run: ∀res:Bool,(binOp op t (a.eval x) (a.eval (.const (.slice none 0 0)))).run P w=.ok (.bool res) w→Did P E o st a w none2 (.bool res,[]):=by
  intro res h2
  refine Did.pure h (v:=.bool res) ?_ (.sc rfl emp_none2)
  obtain⟨_,op',_,_,_,_⟩:=o
  subst ho
  simp only[execOp]
  refine run_v ?_
  have hg:(eqGuard op t x (.const (.slice none 0 0)) (a.eval x) (a.eval (.const (.slice none 0 0)))).run P w=.ok () w:=run_eqGuard (by rw[hv];exact⟨fun _ h=>Value.noConfusion h,fun h=>Value.noConfusion h⟩)
  simp only[Sem.run_bind,hg,Result.andThen_ok,h2]
 have fin: ∀res:Bool,Did P E o st a w none2 (.bool res,[])→K (st.put o.dst (.bool res))→o.wp P a w next Q:=by
  intro res hdid hK
  obtain⟨nx,a',w',h1,h2,h3⟩:=did_next hd hdid
  unfold Oper.wp
  rw[h1]
  rcases h2 with⟨v,rfl,rfl⟩|⟨rfl,rfl⟩
  ·exact hn _ _ _ hK h3
  ·exact hn _ _ _ hK h3
 have heq:=run_nil (w:=w) hu ad n cap
 cases op<;>simp only at hk<;>try exact hk.elim
 ·refine fin _ (run _ ?_) hk
  rw[hv,hey]
  simp only[binOp,Sem.run_bind,heq,Result.andThen_ok]
  rfl
 ·refine fin _ (run _ ?_) hk
  rw[hv,hey]
  simp only[binOp,Sem.run_bind,heq,Result.andThen_ok]
  rfl
theorem opW_ok(hT:T.ok P)(tb:Tabs P E.w0 E.O0)(h:Rel E st a w none2){K:St→Prop}(hk:opW P T o st K){next:Act→World→Prop}{Q:Exit→Act→World→Prop}(hn: ∀st' a' w',K st'→Rel E st' a' w' none2→next a' w'):
  o.wp P a w next Q:=by
 unfold opW at hk
 split at hk
 ·rename_i c ho
  split at hk
  ·rename_i f hc
   rcases hk with hk|hk
   ·exact callW_ok tb ho hc h hk hn
   ·exact callPW_ok tb ho hc h hk hn
  ·exact opR_ok hT h hk hn
 ·rename_i op t x y ty ho
  rcases hk with hk|hk
  ·exact opR_ok hT h hk hn
  ·exact nilW_ok hT h ho hk hn
 ·exact opR_ok hT h hk hn
theorem put_same{d:Nat}{v:AV}(h:st.t d=v):st.put (some d) v=st:=by
 unfold St.put upd
 have:(fun x=>if x=d then v else st.t x)=st.t:=by
  funext x
  by_cases hx:x=d
  ·subst hx;simp[h]
  ·simp[hx]
 simp only[this]
theorem ar_nul{w:World}{R:Cells}{loc:Locs}:AR w R loc (.tup []) undef none2:=
 .tup (fun _=>none2) rfl (fun k x v h=>by simp at h) ⟨fun g o=>⟨fun h=>h.elim,fun⟨j,hj,_⟩=>by simp at hj⟩,fun j k hj=>by simp at hj⟩
theorem Rel.put_nul(h:Rel E st a w X){d:Option Nat}(hd:st.dstOk d=true):Rel E (st.put d (.tup [])) (a.put d undef) w X:=by
 obtain⟨loc,ob,h⟩:=h
 exact⟨loc,ob,h.put d (.tup []) undef hd fun _=>ar_nul⟩
theorem slot_nul(h:Rel E st a w X){d:Nat}(hb:st.t d=.tup [])(b:Bool):a.tmps[d]? ≠some (.bool b):=by
 obtain⟨loc,ob,h⟩:=h
 have:=h.tm d
 rw[hb]at this
 intro e
 rw[show a.tmps.getD d undef=.bool b by simp[e]]at this
 cases this with
 |sc h _=>exact h.elim
theorem slot_bool(h:Rel E st a w X){d:Nat}{b:Bool}(hb:st.t d=.bool b):a.tmps[d]? =some (.bool b):=by
 obtain⟨loc,ob,h⟩:=h
 have:=h.tm d
 rw[hb]at this
 have:=this.inv_bool
 cases hd:a.tmps[d]? with
 |none=>
  simp[hd]at this
  cases this
 |some v=>
  simp[hd]at this
  rw[this]
theorem stepW_ok(hT:T.ok P)(tb:Tabs P E.w0 E.O0){ops:Array Oper}(h:Rel E st a w none2){K:St→Prop}(hk:stepW P T ops.toList o st K){next:Act→World→Prop}{Q:Exit→Act→World→Prop}(hn: ∀st' a' w',K st'→Rel E st' a' w' none2→next a' w'):
  if Region.wanted o (yielded ops a.tmps)then o.wp P a w next Q∨(o.asks P a w∧LetsOut Q)else next (a.put o.dst undef) w:=by
 unfold stepW at hk
 split at hk
 ·rename_i hg
  have:Region.wanted o (yielded ops a.tmps)=true:=by
   unfold guardOf at hg
   unfold Region.wanted
   split at hg
   ·rename_i h1;rw[h1]
   ·split at hg
    ·split at hg<;>simp at hg
    ·simp at hg
  rw[if_pos this]
  exact .inl (opW_ok hT tb h hk hn)
 ·rename_i q hg
  obtain⟨hd,hk⟩:=hk
  have hwant: ∀b,st.t q.1=.bool b→Region.wanted o (yielded ops a.tmps)=(b==q.2):=by
   intro b hb
   unfold guardOf at hg
   unfold Region.wanted
   split at hg
   ·simp at hg
   ·rename_i j want hgd
    rw[hgd]
    simp only
    split at hg
    ·rename_i g hj
     split at hg
     ·rename_i d hdd
      simp only[Option.some.injEq]at hg
      subst hg
      have hj':ops[j]? =some g:=by simpa using hj
      have:=slot_bool h hb
      simp only at this
      simp[yielded,hj',hdd,this]
     ·simp at hg
    ·simp at hg
  generalize hv:st.t q.1=v at hk
  cases v<;>try exact hk.elim
  case tup vs=>
   cases vs with
   |cons x l=>exact hk.elim
   |nil=>
    have hw:Region.wanted o (yielded ops a.tmps)=false:=by
     unfold guardOf at hg
     unfold Region.wanted
     split at hg
     ·simp at hg
     ·rename_i j want hgd
      rw[hgd]
      simp only
      split at hg
      ·rename_i g hj
       split at hg
       ·rename_i d hdd
        simp only[Option.some.injEq]at hg
        subst hg
        have hj':ops[j]? =some g:=by simpa using hj
        have hs:=slot_nul h hv
        simp only at hs
        have hy:yielded ops a.tmps j=none:=by
         unfold yielded
         rw[hj']
         simp only[Option.bind_some,hdd]
         all_goals (cases hh:a.tmps[d]? with
         |none=>rfl
         |some v=>
          cases v with
          |bool b=>exact absurd hh (hs b)
          |_=>rfl)
        rw[hy]
        first|done|rfl
       ·simp at hg
      ·simp at hg
    rw[if_neg (by rw[hw];simp)]
    exact hn _ _ _ hk (h.put_nul hd)
  rename_i b
  have hw:=hwant b hv
  unfold guardW at hk
  obtain⟨hk1,hk2⟩:=hk
  obtain⟨d,want⟩:=q
  simp only at hk1 hk2 hv hw
  cases b with
  |true=>
   have hk:=hk1 rfl
   rw[put_same hv]at hk
   cases want with
   |true=>
    rw[if_pos rfl]at hk
    rw[if_pos (by rw[hw];rfl)]
    exact .inl (opW_ok hT tb h hk hn)
   |false=>
    rw[if_neg (by simp)]at hk
    rw[if_neg (by rw[hw];simp)]
    exact hn _ _ _ hk (h.put_nul hd)
  |false=>
   have hk:=hk2 rfl
   rw[put_same hv]at hk
   cases want with
   |true=>
    rw[if_pos rfl]at hk
    rw[if_neg (by rw[hw];simp)]
    exact hn _ _ _ hk (h.put_nul hd)
   |false=>
    rw[if_neg (by simp)]at hk
    rw[if_pos (by rw[hw];rfl)]
    exact .inl (opW_ok hT tb h hk hn)
 ·exact hk.elim
theorem regW_ok(hT:T.ok P)(tb:Tabs P E.w0 E.O0){ops:Array Oper}{Q:Exit→Act→World→Prop}: ∀(l:List Oper)(k:Nat)(st:St)(a:Act)(w:World)(K:St→Prop),(∀j,l[j]? =ops[k+j]?)→Rel E st a w none2→regW P T ops.toList l st K→
  (∀st' a' w',K st'→Rel E st' a' w' none2→Q .normal a' w')→wpOps P ops Q (List.range' k l.length) a w
 |[],k,st,a,w,K,hl,h,hk,hn=>hn _ _ _ hk h
 |o::l,k,st,a,w,K,hl,h,hk,hn=>by
  have h0:ops[k]? =some o:=by simpa using(hl 0).symm
  simp only[List.length_cons,List.range'_succ,wpOps,h0]
  exact stepW_ok hT tb h hk fun st' a' w' ⟨st'',hs,hk'⟩ h'=>regW_ok hT tb l (k+1) st'' a' w' K (fun j=>by have:=hl (j+1);simpa[Nat.add_assoc,Nat.add_comm 1 j]using this) (hs _ _ _ h') hk' hn
end
end Go.Abs
