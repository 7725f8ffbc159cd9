/- The abstract layer, 23: regions that draw their order. -/
import Derived.Test.YtiadohfbemjfkaaDoorAbsK
import Derived.Orders
set_option linter.unusedVariables false
set_option linter.unusedSimpArgs false
noncomputable section
namespace Go.Abs
open Go
def RP.runL{α:Type}:RP α→St→(α→List Nat→List Nat→Prop)→Prop
 | .ret a,_,K=>K a [] []
 | .tmp k c,st,K=>(c (st.t k)).runL st fun a s m=>K a (k::s) m
 | .mem b c,st,K=>(c (st.m b)).runL st fun a s m=>K a s (b::m)
 | .req b c,st,K=>Rq b (c.runL st K)
 | .fail,_,_=>False
def RP.logged{α:Type}:RP α→St→Option (α × List Nat × List Nat)
 | .ret a,_=>some (a,[],[])
 | .tmp k c,st=>((c (st.t k)).logged st).map fun x=>(x.1,k::x.2.1,x.2.2)
 | .mem b c,st=>((c (st.m b)).logged st).map fun x=>(x.1,x.2.1,b::x.2.2)
 | .req b c,st=>if b=true then c.logged st else none
 | .fail,_=>none
def AgrS(st st':St)(rs rm:List Nat):Prop:=st'.n=st.n∧(∀k∈rs,st'.t k=st.t k)∧ ∀b∈rm,st'.m b=st.m b
def OpX(P:Program)(T:TT)(o:Oper)(st:St)(r:Res)(rs rm:List Nat):Prop:= ∀st',AgrS st st' rs rm→opW P T o st' fun s=>s=st'.after o r
def callRes(o:Oper)(res:AV):Res:=match o.dst with
 |none=>(.undef,[])
 |some d=>impRes (cid d 0) res
def StpL(P:Program)(T:TT)(ops:List Oper)(o:Oper)(st:St)(r:Res)(rs rm:List Nat):Prop:=
 st.dstOk o.dst=true∧ ∀st',AgrS st st' rs rm→stepW P T ops o st' fun s=>s=st'.after o r
structure Item where
 i:Nat
 o:Oper
 r:Res
 rs:List Nat
 rm:List Nat
def Item.ws(x:Item):List Nat:=x.o.dst.toList
def Item.wm(x:Item):List Nat:=x.r.2.map (·.1)
def apartB(l l':List Nat):Bool:=l.all fun a=> !(l'.contains a)
def indepB(y x:Item):Bool:=apartB y.ws x.rs&&apartB x.ws y.rs&&apartB y.ws x.ws&&apartB y.wm x.rm&&apartB x.wm y.rm&&apartB y.wm x.wm
def Exec(P:Program)(T:TT)(ops:List Oper):List Item→St→St→Prop
 |[],st,st'=>st'=st
 |x::l,st,st'=>StpL P T ops x.o st x.r x.rs x.rm∧Exec P T ops l (st.after x.o x.r) st'
def depsOf(o:Oper):List Nat:=(o.after.toList.filter fun e=>Region.binds .any e).map (·.on)
def closeOf:List Oper→List (List Nat)→List (List Nat)
 |[],acc=>acc
 |o::l,acc=>closeOf l (acc++[((depsOf o)++(depsOf o).flatMap fun d=>acc.getD d []).eraseDups])
def clOf(ops:List Oper):List (List Nat):=closeOf ops []
def orderedB(ops:List Oper)(cl:List (List Nat)):Bool:=
 (List.range ops.length).all fun i=>match ops[i]? with
  |some o=>(depsOf o).all (fun d=>decide (d<i))&&(cl.getD i []).all fun k=>(depsOf o).any fun d=>d==k||(cl.getD d []).contains k
  |none=>true
def opL(P:Program)(T:TT)(o:Oper)(st:St)(K:Res→List Nat→List Nat→Prop):Prop:=match o.op with
 | .call c=>match c.callee with
  | .value f=>((callA c f).runL st fun q s m=>match q.1 with
   | .fn f caps=>match caps with
    |[]=> ∃res,Con P f q.2.2 (undefs q.2.2) res∧(match o.dst with|none=>true|some _=>impResOk res)=true∧((callRes o res).2.all fun p=>match st.m p.1 with| .abs=>true|_=>false)=true∧
      ((!(q.2.1.any AV.hasRef)||res.nr)=true∧K (callRes o res) s (m++(callRes o res).2.map (·.1))∨
       (apartB (refsV q.2.1) ((callRes o res).2.map (·.1))=true∧K ((callRes o res).1,deadsOf q.2.1++(callRes o res).2) s (m++(callRes o res).2.map (·.1))))
    |_=>False
   |_=>False)∨ ∃r s m,OpX P T o st r s m∧K r s m
  |_=>(evOp T o).runL st K
 |_=>(evOp T o).runL st K
def guardL(d:Nat)(want:Bool)(st:St)(X:(Res→List Nat→List Nat→Prop)→Prop)(K:Res→List Nat→List Nat→Prop):AV→Prop
 | .bool b=>Br b (if want=true then X fun r s m=>K r (d::s) m else K (.tup [],[]) [d] []) (if want=true then K (.tup [],[]) [d] []else X fun r s m=>K r (d::s) m)
 | .tup []=>K (.tup [],[]) [d] []
 |_=>False
def stepL(P:Program)(T:TT)(ops:List Oper)(o:Oper)(st:St)(K:Res→List Nat→List Nat→Prop):Prop:=match guardOf ops o with
 |some none=>opL P T o st K
 |some (some q)=>guardL q.1 q.2 st (opL P T o st) K (st.t q.1)
 |none=>False
def regL(P:Program)(T:TT)(ops:List Oper)(cl:List (List Nat)):List Item→Nat→List Oper→St→(St→Prop)→Prop
 |_,_,[],st,K=>K st
 |past,i,o::rest,st,K=>stepL P T ops o st fun r s m=>Rq (st.dstOk o.dst) (Rq (past.all fun y=>(cl.getD i []).contains y.i||indepB y ⟨i,o,r,s,m⟩)
   (regL P T ops cl (⟨i,o,r,s,m⟩::past) (i+1) rest (st.after o r) K))
section
variable{P:Program}{T:TT}{E:Env}{o:Oper}{st st':St}{a:Act}{w:World}{X:Cells}{loc:Locs}{ob:Nat→Cells}{r:Res}
theorem runL_logged{α:Type}{st:St}: ∀{p:RP α}{K:α→List Nat→List Nat→Prop},p.runL st K→ ∃a s m,p.logged st=some (a,s,m)∧K a s m
 | .ret a,K,h=>⟨a,[],[],rfl,h⟩
 | .tmp k c,K,h=>by
  obtain⟨a,s,m,h1,h2⟩:=runL_logged (p:=c (st.t k)) h
  exact⟨a,k::s,m,by simp[RP.logged,h1],h2⟩
 | .mem b c,K,h=>by
  obtain⟨a,s,m,h1,h2⟩:=runL_logged (p:=c (st.m b)) h
  exact⟨a,s,b::m,by simp[RP.logged,h1],h2⟩
 | .req b c,K,h=>by
  obtain⟨h0,h⟩:=h
  obtain⟨a,s,m,h1,h2⟩:=runL_logged (p:=c) h
  exact⟨a,s,m,by simp[RP.logged,h0,h1],h2⟩
 | .fail,K,h=>h.elim
theorem logged_run{α:Type}{st:St}: ∀{p:RP α}{x:α × List Nat × List Nat},p.logged st=some x→p.run st=some x.1
 | .ret a,x,h=>by simp only[RP.logged,Option.some.injEq]at h;subst h;rfl
 | .tmp k c,x,h=>by
  simp only[RP.logged,Option.map_eq_some_iff]at h
  obtain⟨y,h1,rfl⟩:=h
  show(c (st.t k)).run st=some y.1
  exact logged_run h1
 | .mem b c,x,h=>by
  simp only[RP.logged,Option.map_eq_some_iff]at h
  obtain⟨y,h1,rfl⟩:=h
  show(c (st.m b)).run st=some y.1
  exact logged_run h1
 | .req b c,x,h=>by
  simp only[RP.logged]at h
  split at h
  ·rename_i hb
   simp only[RP.run,hb,if_true]
   exact logged_run h
  ·cases h
 | .fail,x,h=>by cases h
theorem logged_agree{α:Type}{st st':St}: ∀{p:RP α}{x:α × List Nat × List Nat},p.logged st=some x→(∀k∈x.2.1,st'.t k=st.t k)→(∀b∈x.2.2,st'.m b=st.m b)→p.logged st'=some x
 | .ret a,x,h,_,_=>h
 | .tmp k c,x,h,h1,h2=>by
  simp only[RP.logged,Option.map_eq_some_iff]at h⊢
  obtain⟨y,h3,rfl⟩:=h
  refine⟨y,?_,rfl⟩
  rw[h1 k (by simp)]
  exact logged_agree (p:=c (st.t k)) h3 (fun j hj=>h1 j (by simp[hj])) h2
 | .mem b c,x,h,h1,h2=>by
  simp only[RP.logged,Option.map_eq_some_iff]at h⊢
  obtain⟨y,h3,rfl⟩:=h
  refine⟨y,?_,rfl⟩
  rw[h2 b (by simp)]
  exact logged_agree (p:=c (st.m b)) h3 h1 (fun j hj=>h2 j (by simp[hj]))
 | .req b c,x,h,h1,h2=>by
  simp only[RP.logged]at h⊢
  split at h
  ·rename_i hb;rw[if_pos hb];exact logged_agree h h1 h2
  ·cases h
 | .fail,x,h,_,_=>by cases h
theorem run_runK{α:Type}: ∀{p:RP α}{x:α}{K:α→Prop},p.run st=some x→K x→p.runK st K
 | .ret a,x,K,h,hk=>by injection h with h;subst h;exact hk
 | .tmp k c,x,K,h,hk=>run_runK (p:=c (st.t k)) h hk
 | .mem b c,x,K,h,hk=>run_runK (p:=c (st.m b)) h hk
 | .req b c,x,K,h,hk=>by
  simp only[RP.run]at h
  split at h
  ·rename_i hb;exact⟨hb,run_runK (p:=c) h hk⟩
  ·cases h
 | .fail,x,K,h,hk=>by cases h
theorem AgrS.dst{rs rm:List Nat}(h:AgrS st st' rs rm)(d:Option Nat):st'.dstOk d=st.dstOk d:=by
 unfold St.dstOk
 rw[h.1]
theorem opL_K{K:Res→List Nat→List Nat→Prop}(h:opL P T o st K): ∃r s m,K r s m:=by
 unfold opL at h
 split at h
 ·split at h
  ·rcases h with h|⟨r,s,m,_,hk⟩
   ·obtain⟨q,s,m,_,h2⟩:=runL_logged h
    split at h2
    ·split at h2
     ·obtain⟨res,_,_,_,⟨_,hk⟩|⟨_,hk⟩⟩:=h2
      ·exact⟨_,_,_,hk⟩
      ·exact⟨_,_,_,hk⟩
     ·exact h2.elim
    ·exact h2.elim
   ·exact⟨r,s,m,hk⟩
  ·obtain⟨r,s,m,_,hk⟩:=runL_logged h
   exact⟨r,s,m,hk⟩
 ·obtain⟨r,s,m,_,hk⟩:=runL_logged h
  exact⟨r,s,m,hk⟩
theorem opL_stp{K:Res→List Nat→List Nat→Prop}(hd:st.dstOk o.dst=true)(h:opL P T o st K): ∃r s m,OpX P T o st r s m∧K r s m:=by
 have gen:(evOp T o).runL st K→(∀st' K',opR T o st' K'→opW P T o st' K')→ ∃r s m,OpX P T o st r s m∧K r s m:=by
  intro h hop
  obtain⟨r,s,m,h1,h2⟩:=runL_logged h
  refine⟨r,s,m,fun st' ha=>hop st' _ ⟨(ha.dst _).trans hd,run_runK (logged_run (logged_agree h1 ha.2.1 ha.2.2)) rfl⟩,h2⟩
 unfold opL at h
 split at h
 ·rename_i c ho
  split at h
  ·rename_i fo hc
   rcases h with h|h
   case inr=>exact h
   obtain⟨q,s,m,h1,h2⟩:=runL_logged h
   split at h2
   case h_2=>exact h2.elim
   rename_i f caps hf
   split at h2
   case h_2=>exact h2.elim
   obtain⟨res,hcon,hok,hnew,hK⟩:=h2
   have land: ∀(st' st2:St),st2.n=st'.n→AgrS st st' s (m++(callRes o res).2.map (·.1))→(∀b∈(callRes o res).2.map (·.1),st2.m b=st'.m b)→ ∀s2:St,s2=(st2.mws (callRes o res).2).put o.dst (callRes o res).1→landW o st2 res fun s=>s=s2:=by
    intro st' st2 hn ha hm s2 hs2
    subst hs2
    unfold landW
    cases hdd:o.dst with
    |none=>simp only[callRes,hdd];rfl
    |some d=>
     rw[hdd]at hok
     refine⟨hok,?_,?_,?_⟩
     ·rw[List.all_eq_true]
      intro p hp
      have hp':p.1∈(callRes o res).2.map (·.1):=by simp only[callRes,hdd];exact List.mem_map.2 ⟨p,hp,rfl⟩
      have h3:=List.all_eq_true.1 hnew p (by simp only[callRes,hdd];exact hp)
      rw[hm p.1 hp',ha.2.2 p.1 (by simp only[List.mem_append];exact .inr hp')]
      exact h3
     ·have:=(ha.dst (some d)).trans (hdd▸hd)
      unfold St.dstOk at this
      simp only at this
      rw[hn]
      exact this
     ·simp only[callRes,hdd]
   have run: ∀st',AgrS st st' s (m++(callRes o res).2.map (·.1))→(callA c fo).run st'=some q:=fun st' ha=>
    logged_run (logged_agree h1 ha.2.1 fun b hb=>ha.2.2 b (by simp[hb]))
   rcases hK with⟨hq,hK⟩|⟨hap,hK⟩
   ·refine⟨_,s,_,fun st' ha=> ?_,hK⟩
    unfold opW
    simp only[ho,hc]
    refine .inl (run_runK (run st' ha) ?_)
    unfold callW
    rw[hf]
    exact .inl ⟨res,hcon,.inl ⟨hq,land st' st' rfl ha (fun _ _=>rfl) _ rfl⟩⟩
   ·refine⟨_,s,_,fun st' ha=> ?_,hK⟩
    unfold opW
    simp only[ho,hc]
    refine .inl (run_runK (run st' ha) ?_)
    unfold callW
    rw[hf]
    refine .inl ⟨res,hcon,.inr (land st' (st'.mws (deadsOf q.2.1)) (mws_n _ _) ha (fun b hb=> ?_) _ ?_)⟩
    ·unfold deadsOf
     rw[mws_deads,if_neg]
     intro hb2
     have:=List.all_eq_true.1 hap b hb2
     simp only[Bool.not_eq_true']at this
     rw[List.contains_eq_mem]at this
     simp only[decide_eq_false_iff_not]at this
     exact this hb
    ·unfold St.after
     rw[mws_append]
  ·rename_i hne
   exact gen h fun st' K' hk=>by
    unfold opW
    simp only[ho]
    exact hk
 ·rename_i hne
  exact gen h fun st' K' hk=>by
   unfold opW
   cases ho:o.op with
   |call c=>exact absurd ho (hne c)
   |binOp=>exact .inl hk
   |_=>exact hk
theorem stepL_stp{ops:List Oper}{K:Res→List Nat→List Nat→Prop}(h:stepL P T ops o st K)(hd:st.dstOk o.dst=true): ∃r s m,StpL P T ops o st r s m∧K r s m:=by
 unfold stepL at h
 split at h
 ·rename_i hg
  obtain⟨r,s,m,h1,h2⟩:=opL_stp hd h
  refine⟨r,s,m,⟨hd,fun st' ha=> ?_⟩,h2⟩
  unfold stepW
  simp only[hg]
  exact h1 st' ha
 ·rename_i q hg
  obtain⟨d,want⟩:=q
  simp only at h hg
  unfold guardL at h
  split at h
  ·rename_i b hb
   have key:(b=want→opL P T o st fun r s m=>K r (d::s) m)∧(b≠want→K (.tup [],[]) [d] []):=by
    obtain⟨h1,h2⟩:=h
    cases b<;>cases want<;>simp_all
   have step: ∀(st':St)(r:Res),st'.t d=.bool b→st'.dstOk o.dst=true→(b=want→opW P T o st' fun s=>s=st'.after o r)→(b≠want→st'.put o.dst (.tup [])=st'.after o r)→stepW P T ops o st' fun s=>s=st'.after o r:=by
    intro st' r hv hd' dk sk
    unfold stepW
    simp only[hg]
    refine⟨hd',?_⟩
    rw[hv]
    unfold guardW
    cases b with
    |true=>
     refine⟨fun _=> ?_,fun h=>Bool.noConfusion h⟩
     rw[put_same hv]
     cases want with
     |true=>exact dk rfl
     |false=>exact sk (by simp)
    |false=>
     refine⟨fun h=>Bool.noConfusion h,fun _=> ?_⟩
     rw[put_same hv]
     cases want with
     |true=>exact sk (by simp)
     |false=>exact dk rfl
   by_cases hw:b=want
   ·obtain⟨r,s,m,h1,h2⟩:=opL_stp hd (key.1 hw)
    exact⟨r,d::s,m,⟨hd,fun st' ha=>step st' r ((ha.2.1 d (by simp)).trans hb) ((ha.dst _).trans hd) (fun _=>h1 st' ⟨ha.1,fun k hk=>ha.2.1 k (by simp[hk]),ha.2.2⟩) fun hne=>absurd hw hne⟩,h2⟩
   ·exact⟨(.tup [],[]),[d],[],⟨hd,fun st' ha=>step st' _ ((ha.2.1 d (by simp)).trans hb) ((ha.dst _).trans hd) (fun he=>absurd he hw) fun _=>rfl⟩,key.2 hw⟩
  ·rename_i hb
   refine⟨(.tup [],[]),[d],[],⟨hd,fun st' ha=> ?_⟩,h⟩
   unfold stepW
   simp only[hg]
   refine⟨(ha.dst _).trans hd,?_⟩
   rw[(ha.2.1 d (by simp)).trans hb]
   show _=_
   rfl
  ·exact h.elim
 ·exact h.elim
theorem StpL.agree{ops:List Oper}{rs rm:List Nat}(h:StpL P T ops o st r rs rm)(h1: ∀k∈rs,st'.t k=st.t k)(h2: ∀b∈rm,st'.m b=st.m b)(hn:st'.n=st.n):StpL P T ops o st' r rs rm:=by
 refine⟨(AgrS.dst ⟨hn,h1,h2⟩ _).trans h.1,fun st2 ha=>h.2 st2 ⟨ha.1.trans hn,fun k hk=>(ha.2.1 k hk).trans (h1 k hk),fun b hb=>(ha.2.2 b hb).trans (h2 b hb)⟩⟩
end
end Go.Abs
