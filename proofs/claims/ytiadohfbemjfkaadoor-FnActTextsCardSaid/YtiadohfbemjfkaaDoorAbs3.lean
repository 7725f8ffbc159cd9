/- The abstract layer, 30: the quick walk is sound: regions that draw, code, functions. -/
import Derived.Test.YtiadohfbemjfkaaDoorAbs2
set_option linter.unusedVariables false
set_option linter.unusedSimpArgs false
noncomputable section
namespace Go.Abs
open Go
section
variable{P:Program}{T:TT}{n:Fx}
theorem isAbs_all{n:Fx}{l:Ms}{ts:Ts}{ms:Ms}(h2:(l.all fun p=>isAbs (getM ms p.1))=true):(l.all fun p=>match (St.ls n ts ms).m p.1 with| .abs=>true|_=>false)=true:=by
 refine List.all_eq_true.2 fun p hp=> ?_
 have:=List.all_eq_true.1 h2 p hp
 show(match getM ms p.1 with| .abs=>true|_=>false)=true
 cases hm:getM ms p.1<;>rw[hm]at this<;>simp_all[isAbs]
theorem exLeafL_mk{x:AV}{ts:Ts}{ms:Ms}{K:AV→Ms→Wr→Prop}(h:exLeafL x ms K): ∃p ms',(expLeaf x).run (St.ls n ts ms)=some p∧(St.ls n ts ms).mws p.2=St.ls n ts ms'∧K p.1 ms' p.2:=by
 have rest: ∀x:AV,okK x.goes (K x ms [])→ ∃p ms',(RP.req x.goes (.ret (x,([]:Wr)))).run (St.ls n ts ms)=some p∧(St.ls n ts ms).mws p.2=St.ls n ts ms'∧K p.1 ms' p.2:=fun x h=>by
  obtain⟨h1,h2⟩:=okK_mk h
  exact⟨(x,[]),ms,by simp only[RP.run,h1,if_true],rfl,h2⟩
 cases x with
 |ref b off m=>
  simp only[exLeafL]at h
  split at h
  ·rename_i arr lvl z rows hm
   split at h
   ·obtain⟨h1,h2⟩:=okK_mk h
    have hm':(St.ls n ts ms).m b=.live ⟨true,lvl,z,rows⟩:=hm
    refine⟨(.own lvl z (subA rows off m),[(b,.dead)]),(b,.dead)::ms,?_,?_,h2⟩
    ·simp only[expLeaf,RP.run,hm',arrB,liveA,RP.bind,guardP,if_true]
     rw[if_pos (decide_eq_true (Nat.le_of_ble_eq_true h1))]
    ·show{St.ls n ts ms with m:=upd (St.ls n ts ms).m b .dead}=_
     rw[ls_mw]
   ·exact h.elim
  ·exact h.elim
 |_=>exact rest _ h
theorem exLeavesL_mk{ts:Ts}: ∀{l:List AV}{ms:Ms}{K:List AV→Ms→Wr→List Nat→Prop},exLeavesL l ms K→ ∃r ms',expO l (St.ls n ts ms)=some r∧(St.ls n ts ms).mws r.2.1=St.ls n ts ms'∧K r.1 ms' r.2.1 r.2.2
 |[],ms,K,h=>⟨([],[],[]),ms,rfl,rfl,h⟩
 |x::l,ms,K,h=>by
  obtain⟨p,ms1,h1,h2,h3⟩:=exLeafL_mk (n:=n) (ts:=ts) h
  obtain⟨r,ms2,h4,h5,h6⟩:=exLeavesL_mk (ts:=ts) h3
  refine⟨(p.1::r.1,p.2++r.2.1,x.refs0++r.2.2),ms2,?_,?_,h6⟩
  ·unfold expO
   rw[h1]
   simp only
   rw[h2,h4]
  ·simp only
   rw[mws_append,h2,h5]
theorem giveL_mk{x:AV}{w:Nat}{ts:Ts}{ms:Ms}{K:AV→Ms→Wr→List Nat→Prop}(h:giveL x w ms K): ∃r ms',giveO x w (St.ls n ts ms)=some r∧(St.ls n ts ms).mws r.2.1=St.ls n ts ms'∧K r.1 ms' r.2.1 r.2.2:=by
 unfold giveL at h
 split at h
 case h_2=>exact h.elim
 rename_i b i j
 split at h
 case h_2=>exact h.elim
 split at h
 case h_2=>exact h.elim
 rename_i arr lvl z rows hm
 split at h
 case h_2=>exact h.elim
 split at h
 case h_2=>exact h.elim
 rename_i row
 have h:=fcL_mk (fun _ _=>fc0_mk) h
 obtain⟨h1,h⟩:=okK_mk h
 obtain⟨ms1,h2,h3⟩:=fmK_mk (n:=n) ts h
 obtain⟨r,ms2,h4,h5,h6⟩:=exLeavesL_mk (n:=n) (ts:=ts) h3
 obtain⟨h7,h8⟩:=okK_mk h6
 have hm':(St.ls n ts ms).m b=.live ⟨false,lvl,z,[row]⟩:=hm
 simp only[Bool.and_eq_true]at h1
 have hq:(decide (j+w≤row.length)&&((row.drop j).take w).all fun c=>c.light&& !c.isUndef)=true:=by
  simp only[Bool.and_eq_true]
  exact⟨decide_eq_true (Nat.le_of_ble_eq_true h1.1),h1.2⟩
 refine⟨(.obj r.1,(b,.live ⟨false,lvl,z,[setCells row j (List.replicate w .undef)]⟩)::r.2.1,b::r.2.2),ms2,?_,?_,h8⟩
 ·unfold giveO
  simp only[hm']
  rw[if_pos hq,h2,h4]
  simp only
  rw[if_pos h7]
 ·show((St.ls n ts ms).mws [(b,.live ⟨false,lvl,z,[setCells row j (List.replicate w .undef)]⟩)]).mws r.2.1=_
  rw[h2,h5]
theorem givesL_mk{ts:Ts}: ∀{fs:List (Option Nat)}{as:List AV}{ms:Ms}{K:List AV→Ms→Wr→List Nat→Prop},givesL fs as ms K→ ∃r ms',givesO fs as (St.ls n ts ms)=some r∧(St.ls n ts ms).mws r.2.1=St.ls n ts ms'∧K r.1 ms' r.2.1 r.2.2
 |[],[],ms,K,h=>⟨([],[],[]),ms,rfl,rfl,h⟩
 |[],_::_,_,_,h=>h.elim
 |none::_,[],_,_,h=>h.elim
 |some _::_,[],_,_,h=>h.elim
 |none::fs,x::as,ms,K,h=>by
  obtain⟨r,ms1,h1,h2,h3⟩:=givesL_mk (ts:=ts) (fs:=fs) (as:=as) h
  refine⟨(.undef::r.1,r.2.1,r.2.2),ms1,?_,h2,h3⟩
  unfold givesO
  rw[h1]
 |some w::fs,x::as,ms,K,h=>by
  obtain⟨r,ms1,h1,h2,h3⟩:=giveL_mk (n:=n) (ts:=ts) h
  obtain⟨r',ms2,h4,h5,h6⟩:=givesL_mk (ts:=ts) (fs:=fs) (as:=as) h3
  refine⟨(r.1::r'.1,r.2.1++r'.2.1,r.2.2++r'.2.2),ms2,?_,?_,h6⟩
  ·unfold givesO
   rw[h1]
   simp only
   rw[h2,h4]
  ·simp only
   rw[mws_append,h2,h5]
theorem takeL_mk{x p:AV}{b0:Nat}{ts:Ts}{ms:Ms}{K:Ms→Wr→List Nat→Prop}(h:takeL x p b0 ms K): ∃r ms',takeO x p b0 (St.ls n ts ms)=some r∧(St.ls n ts ms).mws r.1=St.ls n ts ms'∧K ms' r.1 r.2:=by
 unfold takeL at h
 split at h
 case h_2=>exact h.elim
 rename_i b i j
 split at h
 case h_2=>exact h.elim
 rename_i cs
 split at h
 case h_2=>exact h.elim
 rename_i arr lvl z rows hm
 split at h
 case h_2=>exact h.elim
 split at h
 case h_2=>exact h.elim
 rename_i row
 obtain⟨h1,h⟩:=okK_mk h
 split at h
 rename_i vs l hvl
 obtain⟨h2,h⟩:=okK_mk h
 obtain⟨ms1,h3,h⟩:=fmK_mk (n:=n) ts h
 obtain⟨ms2,h4,h5⟩:=fmK_mk (n:=n) ts h
 have hm':(St.ls n ts ms).m b=.live ⟨false,lvl,z,[row]⟩:=hm
 simp only[Bool.and_eq_true]at h1
 have hq:(cs.all impLeafOk&&decide (j+cs.length≤row.length)&&((row.drop j).take cs.length).all AV.isUndef)=true:=by
  simp only[Bool.and_eq_true]
  exact⟨⟨h1.1.1,decide_eq_true (Nat.le_of_ble_eq_true h1.1.2)⟩,h1.2⟩
 refine⟨(l++[(b,.live ⟨false,lvl,z,[setCells row j vs]⟩)],b::l.map (·.1)),ms2,?_,?_,h5⟩
 ·unfold takeO
  simp only[hm',hvl]
  rw[if_pos hq,if_pos]
  refine List.all_eq_true.2 fun p hp=> ?_
  have:=List.all_eq_true.1 h2 p hp
  show(match getM ms p.1 with| .abs=>true|_=>false)=true
  cases hm:getM ms p.1<;>rw[hm]at this<;>simp_all[isAbs]
 ·simp only
  rw[mws_append,h3,h4]
theorem takesL_mk{ts:Ts}: ∀{fs:List (Option Nat)}{as os:List AV}{b0:Nat}{ms:Ms}{K:Ms→Wr→List Nat→Prop},takesL fs as os b0 ms K→ ∃r ms',takesO fs as os b0 (St.ls n ts ms)=some r∧(St.ls n ts ms).mws r.1=St.ls n ts ms'∧K ms' r.1 r.2
 |[],[],[],b0,ms,K,h=>⟨([],[]),ms,rfl,rfl,h⟩
 |[],[],_::_,_,_,_,h=>h.elim
 |[],_::_,[],_,_,_,h=>h.elim
 |[],_::_,_::_,_,_,_,h=>h.elim
 |none::_,[],os,_,_,_,h=>by cases os<;>exact h.elim
 |some _::_,[],os,_,_,_,h=>by cases os<;>exact h.elim
 |none::_,_::_,[],_,_,_,h=>h.elim
 |some _::_,_::_,[],_,_,_,h=>h.elim
 |none::fs,x::as,p::os,b0,ms,K,h=>by
  unfold takesL at h
  split at h
  ·obtain⟨r,ms1,h1,h2,h3⟩:=takesL_mk (ts:=ts) (fs:=fs) (as:=as) h
   exact⟨r,ms1,h1,h2,h3⟩
  ·exact h.elim
 |some w::fs,x::as,p::os,b0,ms,K,h=>by
  obtain⟨r,ms1,h1,h2,h3⟩:=takeL_mk (n:=n) (ts:=ts) h
  obtain⟨r',ms2,h4,h5,h6⟩:=takesL_mk (ts:=ts) (fs:=fs) (as:=as) h3
  refine⟨(r.1++r'.1,r.2++r'.2),ms2,?_,?_,h6⟩
  ·unfold takesO
   rw[h1]
   simp only
   rw[h2]
   show(match takesO fs as os (Nat.add b0 100) (St.ls n ts ms1)with|some (W',L')=>some (r.1++W',r.2++L')|none=>none)=_
   rw[h4]
  ·simp only
   rw[mws_append,h2,h5]
theorem opVL_mk{o:Oper}{ts:Ts}{ms:Ms}{K:Res→List Nat→List Nat→Prop}(h:opVL P T n o ts ms K):opL P T o (St.ls n ts ms) K:=by
 unfold opVL at h
 unfold opL
 split at h
 ·rename_i c ho
  simp only[ho]
  split at h
  ·rename_i f hc
   simp only[hc]
   obtain⟨fv,s1,m1,hf,h⟩:=runL_logged (goL_mk (n:=n) h)
   obtain⟨as,s2,m2,has,h⟩:=runL_logged (goL_mk (n:=n) h)
   split at h
   ·right
    unfold callPVL at h
    split at h
    case h_2=>exact h.elim
    rename_i fid caps
    obtain⟨hdst,h⟩:=okK_mk h
    have h:=fcL_mk (fun _ _=>fc_mk) h
    obtain⟨fs,h⟩:=h
    have h:=fcL_mk (fun _ _=>fc_mk) h
    obtain⟨g,ms1,hg,hg2,h⟩:=givesL_mk (n:=n) (ts:=ts) h
    obtain⟨ys,s3,m3,hy,h⟩:=runL_logged (goL_mk (n:=n) h)
    have h:=fcL_mk (fun _ _=>fc_mk) h
    obtain⟨_,os,res,rfl,hcon,h⟩:=h
    obtain⟨hq,h⟩:=okK_mk h
    have h:=baseK_mk (fcL_mk (fun _ _=>fbP_mk) h)
    obtain⟨t,ms2,ht,ht2,h⟩:=takesL_mk (n:=n) (ts:=ts) h
    obtain⟨hok,h⟩:=okK_mk h
    have hd:(St.ls n ts ms).dstOk o.dst=true:=by
     unfold St.dstOk
     split at hdst
     ·rename_i hd;rw[hd]
     ·rename_i d hd;rw[hd];exact decide_eq_true (blt_mk hdst)
    generalize hr:callRes o res=r at h
    obtain⟨v,l⟩:=r
    simp only at h
    obtain⟨h5,h⟩:=okK_mk h
    have hnew:(callRes o res).2.all (fun p=>match (((St.ls n ts ms).mws g.2.1).mws t.1).m p.1 with| .abs=>true|_=>false)=true:=by
     rw[hr,hg2,ht2]
     exact isAbs_all h5
    have:=callP_opx (T:=T) ho hc hf has hg (by rw[hg2];exact hy) hcon hq (by rw[hg2];exact ht) hd hok hnew
    rw[hr]at this
    exact⟨_,_,_,this,h⟩
   ·left
    refine runL_mono (goL_mk h) fun q s m hq=> ?_
    obtain⟨fv,as,ys⟩:=q
    unfold callVL at hq
    simp only at hq
    split at hq
    ·split at hq
     ·have hq:=fcL_mk (fun _ _=>fg1_mk) hq
      obtain⟨res,h1,h2⟩:=hq
      obtain⟨h4,h2⟩:=okK_mk h2
      refine⟨res,h1,h4,?_⟩
      generalize callRes o res=r at h2
      obtain⟨v,l⟩:=r
      simp only at h2
      obtain⟨h5,h2⟩:=okK_mk h2
      refine⟨isAbs_all h5,?_⟩
      split at h2
      ·rename_i h3
       exact .inl ⟨h3,h2⟩
      ·obtain⟨h6,h2⟩:=okK_mk h2
       exact .inr ⟨h6,h2⟩
     ·exact hq.elim
    ·exact hq.elim
  ·rename_i hc
   split
   ·rename_i f hf;exact absurd hf (hc f)
   ·exact opEL_mk h
 ·rename_i hc
  split
  ·rename_i c ho;exact absurd ho (hc c)
  ·exact opEL_mk h
theorem opL_mono{o:Oper}{st:St}{K K':Res→List Nat→List Nat→Prop}(h:opL P T o st K)(hk: ∀r s m,K r s m→K' r s m):opL P T o st K':=by
 unfold opL at h⊢
 split at h
 ·split at h
  ·rcases h with h|⟨r,s,m,h1,h2⟩
   case inr=>exact .inr ⟨r,s,m,h1,hk _ _ _ h2⟩
   refine .inl (runL_mono h fun q s m hq=> ?_)
   split at hq
   ·split at hq
    ·obtain⟨res,h1,h2,h3,⟨h4,h5⟩|⟨h4,h5⟩⟩:=hq
     ·exact⟨res,h1,h2,h3,.inl ⟨h4,hk _ _ _ h5⟩⟩
     ·exact⟨res,h1,h2,h3,.inr ⟨h4,hk _ _ _ h5⟩⟩
    ·exact hq.elim
   ·exact hq.elim
  ·exact runL_mono h fun r s m hr=>hk _ _ _ hr
 ·exact runL_mono h fun r s m hr=>hk _ _ _ hr
theorem inQ_is: ∀(l:List Nat)(b:Nat),inQ l b=l.contains b
 |[],b=>rfl
 |x::l,b=>by
  unfold inQ
  rw[List.contains_cons]
  split
  ·rename_i h;rw[beq_t h];simp
  ·rename_i h
   have:(b==x)=false:=by simpa using beq_f h
   rw[this,Bool.false_or,inQ_is l b]
theorem apartQ_is: ∀(l l':List Nat),apartQ l l'=apartB l l'
 |[],l'=>rfl
 |x::l,l'=>by
  unfold apartQ apartB
  rw[List.all_cons,inQ_is]
  split
  ·rename_i h;rw[h];rfl
  ·rename_i h;rw[h,apartQ_is l l'];rfl
theorem indepQ_is(y x:Item):indepQ y.sm x.sm=indepB y x:=by
 simp only[Item.sm,indepQ,indepB,apartQ_is]
theorem pastQ_is(c:List Nat)(x:Item): ∀(l:List Item),pastQ c x.sm (l.map Item.sm)=l.all fun y=>c.contains y.i||indepB y x
 |[]=>rfl
 |y::l=>by
  simp only[List.map_cons,pastQ,List.all_cons,indepQ_is,pastQ_is c x l,inQ_is]
  rfl
theorem fnL_mk: ∀{l:List Nat}{K:List Nat→Prop},fnL l K→K l
 |[],K,h=>h
 |x::l,K,h=>fnL_mk (l:=l) (K:=fun l=>K (x::l)) h
theorem fnLL_mk: ∀{l:List (List Nat)}{K:List (List Nat)→Prop},fnLL l K→K l
 |[],K,h=>h
 |x::l,K,h=>fnLL_mk (l:=l) (K:=fun l=>K (x::l)) (fnL_mk (K:=fun x=>fnLL l fun l=>K (x::l)) h)
theorem regVL_mk{ops:List Oper}{cl:List (List Nat)}: ∀{rest:List Oper}{past:List Item}{i:Nat}{ts:Ts}{ms:Ms}{K:Ts→Ms→Prop},regVL P T n ops (cl.drop i) (past.map Item.sm) i rest ts ms K→regL P T ops cl past i rest (St.ls n ts ms) (KL n K)
 |[],past,i,ts,ms,K,h=>⟨ts,ms,rfl,h⟩
 |o::rest,past,i,ts,ms,K,h=>by
  unfold regVL at h
  unfold regL
  have e1:(nthQ (cl.drop i)).1=cl.getD i []:=by
   rw[List.getD_eq_getElem?_getD,←List.head?_drop]
   cases cl.drop i<;>rfl
  have e2:(nthQ (cl.drop i)).2=cl.drop (i+1):=by
   have:cl.drop (i+1)=(cl.drop i).tail:=by rw[List.tail_drop]
   rw[this]
   cases cl.drop i<;>rfl
  have next: ∀r s m,(fnL s fun s=>fnL m fun m=>fnL o.dst.toList fun ws=>fnL (r.2.map (·.1)) fun wm=>ChkS (pastQ (nthQ (cl.drop i)).1 (i,ws,s,m,wm) (past.map Item.sm)) (afterV n o r ts ms fun ts ms=>regVL P T n ops (nthQ (cl.drop i)).2 ((i,ws,s,m,wm)::past.map Item.sm) (Nat.add i 1) rest ts ms K))→
    Rq ((St.ls n ts ms).dstOk o.dst) (Rq (past.all fun y=>(cl.getD i []).contains y.i||indepB y ⟨i,o,r,s,m⟩) (regL P T ops cl (⟨i,o,r,s,m⟩::past) (i+1) rest ((St.ls n ts ms).after o r) (KL n K))):=by
   intro r s m h
   have h:=fnL_mk (fnL_mk (fnL_mk (fnL_mk h)))
   obtain⟨h1,h2⟩:=h
   obtain⟨h3,ts',ms',h4,h5⟩:=after_mk h2
   refine⟨h3,?_,?_⟩
   ·rw[←pastQ_is,←e1]
    exact h1
   ·rw[h4]
    rw[e2]at h5
    exact regVL_mk (past:=⟨i,o,r,s,m⟩::past) h5
  unfold stepL
  simp only at h
  split at h
  ·rename_i hg;rw[hg];exact opL_mono (opVL_mk h) next
  ·rename_i d want hg
   rw[hg]
   unfold guardVL at h
   split at h
   ·rename_i b hb
    have hb':(St.ls n ts ms).t d=.bool b:=hb
    simp only[hb',guardL]
    split at h
    ·refine⟨fun e=> ?_,fun e=> ?_⟩
     ·rw[if_pos rfl];exact opL_mono (opVL_mk (h.1 e)) fun r s m k=>next _ _ _ k
     ·rw[if_pos rfl];exact next _ _ _ (h.2 e)
    ·refine⟨fun e=> ?_,fun e=> ?_⟩
     ·rw[if_neg (by simp)];exact next _ _ _ (h.1 e)
     ·rw[if_neg (by simp)];exact opL_mono (opVL_mk (h.2 e)) fun r s m k=>next _ _ _ k
   ·rename_i vs hb
    split at h
    ·have hb':(St.ls n ts ms).t d=.tup []:=hb
     simp only[hb',guardL]
     exact next _ _ _ h
    ·exact h.elim
   ·exact h.elim
  ·exact h.elim
theorem fac0_mk{v:AV}{ts:Ts}{ms:Ms}{X:Prop}(h:fac0 v ms X)(hv: ∀d,v.facts d)(hm: ∀b d,(getM ms b).facts d):X:=by
 unfold fac0 at h
 split at h
 ·exact h.k hv
 ·exact h.k hv
 ·exact h.k hv
 ·split at h
  ·rename_i hb;exact h.k fun d=>by rw[←hb];exact hm _ d
  ·exact h
 ·exact h
theorem facL_mk{ts:Ts}{ms:Ms}{X:Prop}: ∀{l:List AV},facL l ms X→(∀x∈l,∀d,x.facts d)→(∀b d,(getM ms b).facts d)→X
 |[],h,_,_=>h
 |x::l,h,hv,hm=>facL_mk (ts:=ts) (l:=l) (fac0_mk (ts:=ts) h (hv x (by simp)) hm) (fun y hy=>hv y (by simp[hy])) hm
theorem fac1_mk{v:AV}{ts:Ts}{ms:Ms}{X:Prop}(h:fac1 v ms X)(hv: ∀d,v.facts d)(hm: ∀b d,(getM ms b).facts d):X:=by
 unfold fac1 at h
 split at h
 ·exact facL_mk (ts:=ts) h (fun x hx d=>hv (d+1) x hx) hm
 ·exact facL_mk (ts:=ts) h (fun x hx d=>hv (d+1) x hx) hm
 ·exact fac0_mk (ts:=ts) h hv hm
theorem facV_mk{ts:Ts}{ms:Ms}{X:Prop}(ht: ∀k d,(getT ts k).facts d)(hm: ∀b d,(getM ms b).facts d): ∀{l:List Oper},facV l ts ms X→X
 |[],h=>h
 |o::l,h=>by
  unfold facV callDst at h
  split at h
  ·split at h
   ·split at h
    ·exact facV_mk ht hm (l:=l) (fac1_mk (ts:=ts) h (ht _) hm)
    ·exact facV_mk ht hm (l:=l) h
   ·exact facV_mk ht hm (l:=l) h
  ·exact facV_mk ht hm (l:=l) h
theorem pickT_mk{ts:Ts}: ∀{ks:List Nat}{K:Ts→Prop},pickT ks ts K→K (ks.map fun k=>(k,getT ts k))
 |[],K,h=>h
 |k::ks,K,h=>pickT_mk (ks:=ks) (K:=fun l=>K ((k,getT ts k)::l)) (fc_mk (K:=fun v=>pickT ks ts fun l=>K ((k,v)::l)) h)
theorem getT_pick{ts:Ts}{k:Nat}: ∀{ks:List Nat},getT (ks.map fun k=>(k,getT ts k)) k=getT ts k∨getT (ks.map fun k=>(k,getT ts k)) k=.undef
 |[]=>.inr rfl
 |x::ks=>by
  show(match Nat.beq k x with|true=>getT ts x|false=>getT (ks.map fun k=>(k,getT ts k)) k)=_∨(match Nat.beq k x with|true=>getT ts x|false=>getT (ks.map fun k=>(k,getT ts k)) k)=_
  split
  ·rename_i h;rw[Nat.eq_of_beq_eq_true h];exact .inl rfl
  ·exact getT_pick (ks:=ks)
theorem RelC.pick{E:Env}{a:Act}{w:World}{X:Cells}{loc:Locs}{ob:Nat→Cells}{ts:Ts}{ms:Ms}(ks:List Nat)(r:RelC E (St.ls n ts ms) a w X loc ob):RelC E (St.ls n (ks.map fun k=>(k,getT ts k)) ms) a w X loc ob:=by
 refine⟨fun k=> ?_,r.sz,r.df,r.ab,r.dd,r.lv,r.db,r.dx,r.lt,r.sub,r.fr,r.an⟩
 show AR w _ loc (getT (ks.map fun k=>(k,getT ts k)) k) _ none2
 rcases getT_pick (ts:=ts) (k:=k) (ks:=ks)with e|e
 ·rw[e];exact r.tm k
 ·rw[e];exact .sc trivial emp_none2
theorem WP.pick{c:Code}{Q:Ex→St→Prop}{ts:Ts}{ms:Ms}(ks:List Nat)(h:WP P c Q (St.ls n (ks.map fun k=>(k,getT ts k)) ms)):WP P c Q (St.ls n ts ms):=
 WP.weak (fun E a w ⟨loc,ob,r⟩=>⟨loc,ob,r.pick ks⟩) h
theorem fpK_mk: ∀{l:List (Nat × Nat)}{K:List (Nat × Nat)→Prop},fpK l K→K l
 |[],K,h=>h
 |(a,b)::l,K,h=>fpK_mk (l:=l) h
theorem nameK_mk: ∀{bs:List (Nat × Nat)}{b:Nat}{K:Nat→Prop},nameK bs b K→K (nameOf bs b)
 |[],b,K,h=>h
 |(a,o)::l,b,K,h=>by
  unfold nameK at h
  unfold nameOf
  split at h
  ·rename_i e;rw[if_pos (beq_t e)];exact h
  ·rename_i e;rw[if_neg (beq_f e)];exact nameK_mk h
theorem ren0K_mk{bs:List (Nat × Nat)}{v:AV}{K:AV→Prop}(h:ren0K bs v K):K (v.ren0 (nameOf bs)):=by
 cases v<;>first|exact h|exact nameK_mk (K:=fun b=>K (.ref b _ _)) h|exact nameK_mk (K:=fun b=>K (.ptr b _ _)) h
theorem renLK_mk{F:AV→(AV→Prop)→Prop}{f:AV→AV}(hF: ∀v K,F v K→K (f v)): ∀{l:List AV}{K:List AV→Prop},renLK F l K→K (l.map f)
 |[],K,h=>h
 |x::l,K,h=>renLK_mk hF (l:=l) (K:=fun l=>K (f x::l)) (hF x (fun x=>renLK F l fun l=>K (x::l)) h)
theorem ren1K_mk{bs:List (Nat × Nat)}{v:AV}{K:AV→Prop}(h:ren1K bs v K):K (v.ren1 (nameOf bs)):=by
 cases v<;>first|exact h|exact nameK_mk (K:=fun b=>K (.ref b _ _)) h|exact nameK_mk (K:=fun b=>K (.ptr b _ _)) h|exact renLK_mk (F:=ren0K bs) (f:=AV.ren0 (nameOf bs)) (fun _ _=>ren0K_mk) (K:=fun cs=>K (.fn _ cs)) h
theorem renBK_mk{bs:List (Nat × Nat)}{v:AV}{K:AV→Prop}(h:renBK bs v K):K (v.renB (nameOf bs)):=by
 cases v with
 |agg cs=>exact renLK_mk (F:=ren1K bs) (f:=AV.ren1 (nameOf bs)) (fun _ _=>ren1K_mk) (K:=fun cs=>K (.agg cs)) h
 |tup cs=>exact renLK_mk (F:=ren1K bs) (f:=AV.ren1 (nameOf bs)) (fun _ _=>ren1K_mk) (K:=fun cs=>K (.tup cs)) h
 |_=>unfold renBK at h;exact ren1K_mk (K:=K) h
theorem renRK_mk{bs:List (Nat × Nat)}: ∀{l:List (List AV)}{K:List (List AV)→Prop},renRK bs l K→K (l.map (List.map (AV.ren1 (nameOf bs))))
 |[],K,h=>h
 |x::l,K,h=>renRK_mk (l:=l) (K:=fun l=>K (x.map (AV.ren1 (nameOf bs))::l)) (renLK_mk (F:=ren1K bs) (f:=AV.ren1 (nameOf bs)) (fun _ _=>ren1K_mk) (K:=fun x=>renRK bs l fun l=>K (x::l)) h)
theorem renMK_mk{bs:List (Nat × Nat)}{m:MB}{K:MB→Prop}(h:renMK bs m K):K (renM (nameOf bs) m):=by
 cases m with
 |abs=>exact h
 |dead=>exact h
 |live b=>
  obtain⟨arr,lvl,z,rows⟩:=b
  cases arr with
  |true=>exact h
  |false=>exact renRK_mk (K:=fun rows=>K (.live ⟨false,lvl,z,rows⟩)) h
theorem keepT_mk{bs:List (Nat × Nat)}{ts:Ts}: ∀{ks:List Nat}{K:Ts→Prop},keepT bs ts ks K→K (ks.map fun k=>(k,(getT ts k).renB (nameOf bs)))
 |[],K,h=>h
 |k::ks,K,h=>keepT_mk (ks:=ks) (renBK_mk (K:=fun v=>keepT bs ts ks fun l=>K ((k,v)::l)) (fc_mk (K:=fun v=>renBK bs v fun v=>keepT bs ts ks fun l=>K ((k,v)::l)) h))
theorem keepM_mk{bs:List (Nat × Nat)}{ms:Ms}: ∀{l:List (Nat × Nat)}{K:Ms→Prop},keepM bs ms l K→K (l.map fun p=>(p.1,renM (nameOf bs) (getM ms p.2)))
 |[],K,h=>h
 |(a,o)::l,K,h=>keepM_mk (l:=l) (renMK_mk (K:=fun m=>keepM bs ms l fun l=>K ((a,m)::l)) (fcM_mk (K:=fun m=>renMK bs m fun m=>keepM bs ms l fun l=>K ((a,m)::l)) h))
theorem lookT_get: ∀(ts:Ts),lookT ts=getT ts
 |[]=>rfl
 |p::l=>by
  funext k
  simp only[lookT,getT,lookT_get l]
  split
  ·rename_i h;subst h;simp
  ·rename_i h
   split
   ·rename_i h2;exact absurd (beq_t h2) h
   ·rfl
theorem lookM_get: ∀(ms:Ms)(d:MB),distinctB (ms.map (·.1))=true→ ∀k,lookM ms d k=if(ms.map (·.1)).contains k=true then getM ms k else d
 |[],d,_,k=>by simp[lookM]
 |p::l,d,h,k=>by
  simp only[List.map_cons,distinctB,Bool.and_eq_true,Bool.not_eq_true']at h
  simp only[lookM,getM,lookM_get l _ h.2]
  by_cases hk:k=p.1
  ·subst hk
   simp only[h.1,if_true,List.map_cons,List.contains_cons,beq_self_eq_true,Bool.true_or,Bool.false_eq_true,if_false,Nat.beq_refl]
  ·have hb:Nat.beq k p.1=false:=by
    cases hb:Nat.beq k p.1
    ·rfl
    ·exact absurd (beq_t hb) hk
   have hb2:(k==p.1)=false:=by simpa using hk
   simp only[hk,if_false,List.map_cons,List.contains_cons,hb2,Bool.false_or,hb]
theorem getM_out: ∀(ms:Ms)(k:Nat),(ms.map (·.1)).contains k=false→getM ms k=.abs
 |[],k,_=>rfl
 |p::l,k,h=>by
  simp only[List.map_cons,List.contains_cons,Bool.or_eq_false_iff]at h
  simp only[getM]
  split
  ·rename_i h2;have:=beq_t h2;subst this;simp at h
  ·exact getM_out l k h.2
theorem of_ls(ts:Ts)(ms:Ms)(h:distinctB (ms.map (·.1))=true):({St.of n.n ts ms with an:=n.an}:St)=St.ls n ts ms:=by
 simp only[St.of,St.ls,St.mk.injEq,true_and,and_true]
 refine⟨lookT_get ts,?_⟩
 funext k
 rw[lookM_get ms .abs h]
 split
 ·rfl
 ·rename_i hc;exact(getM_out ms k (by simpa using hc)).symm
theorem keepV_mk{ks:List Nat}{bs:List (Nat × Nat)}{ts:Ts}{ms:Ms}{K:Ts→Ms→Prop}(h:keepV n ks bs ts ms K):keepOk (St.ls n ts ms) ks bs=true∧ ∃ts' ms',(St.ls n ts ms).keepR ks bs=St.ls n ts' ms'∧K ts' ms':=by
 obtain⟨h1,h2⟩:=okK_mk h
 have h2:=keepM_mk (keepT_mk (K:=fun ts'=>keepM bs ms bs fun ms'=>K ts' ms') h2)
 refine⟨h1,_,_,?_,h2⟩
 have hd:distinctB (bs.map (·.1))=true:=by
  unfold keepOk at h1
  simp only[Bool.and_eq_true]at h1
  exact h1.1.1.1.1
 refine of_ls _ _ ?_
 rw[List.map_map]
 exact hd
theorem keepCV_mk{ks:List Nat}{bs:List (Nat × Nat)}{ts:Ts}{ms:Ms}{K:Ts→Ms→Prop}(h:keepCV n ks bs ts ms K):keepOk (St.ls n ts ms) ks bs=true∧ ∃ts' ms',(St.ls n ts ms).keepR ks bs=St.ls n ts' ms'∧K ts' ms':=
 keepV_mk (n:=n) (by
  unfold keepV okK
  rw[h.l]
  exact h.r)
theorem autoB_mk{an nm:List Nat}{bs:List (Nat × Nat)}{b:Nat}{K:KB}(h:autoB an nm bs b K): ∃nm bs,K nm bs:=by
 unfold autoB at h
 split at h
 ·exact⟨_,_,h⟩
 ·split at h
  ·exact h.elim
  ·split at h<;>exact⟨_,_,h⟩
theorem auto0_mk{an nm:List Nat}{bs:List (Nat × Nat)}{v:AV}{K:KB}(h:auto0 an nm bs v K): ∃nm bs,K nm bs:=by
 unfold auto0 at h
 split at h
 ·exact autoB_mk h
 ·exact autoB_mk h
 ·exact⟨_,_,h⟩
theorem autoL_mk{F:List Nat→List (Nat × Nat)→AV→KB→Prop}(hF: ∀nm bs v K,F nm bs v K→ ∃nm bs,K nm bs): ∀{l:List AV}{nm:List Nat}{bs:List (Nat × Nat)}{K:KB},autoL F l nm bs K→ ∃nm bs,K nm bs
 |[],_,_,_,h=>⟨_,_,h⟩
 |x::l,nm,bs,K,h=>by
  obtain⟨nm,bs,h⟩:=hF _ _ _ _ h
  exact autoL_mk hF h
theorem auto1_mk{an:List Nat}{ms:Ms}{nm:List Nat}{bs:List (Nat × Nat)}{v:AV}{K:KB}(h:auto1 an ms nm bs v K): ∃nm bs,K nm bs:=by
 unfold auto1 at h
 split at h
 ·exact autoB_mk h
 ·split at h
  ·exact⟨_,_,h⟩
  ·split at h
   ·split at h
    ·exact autoB_mk h
    ·split at h
     ·obtain⟨_,_,h⟩:=autoB_mk h
      exact autoL_mk (fun _ _ _ _=>auto0_mk) h
     ·exact autoB_mk h
   ·exact autoB_mk h
 ·exact autoL_mk (fun _ _ _ _=>auto0_mk) h
 ·exact⟨_,_,h⟩
theorem auto2_mk{an:List Nat}{ms:Ms}{nm:List Nat}{bs:List (Nat × Nat)}{v:AV}{K:KB}(h:auto2 an ms nm bs v K): ∃nm bs,K nm bs:=by
 unfold auto2 at h
 split at h
 ·exact autoL_mk (fun _ _ _ _=>auto1_mk) h
 ·exact autoL_mk (fun _ _ _ _=>auto1_mk) h
 ·exact autoL_mk (fun _ _ _ _=>auto1_mk) h
 ·exact auto1_mk h
theorem autoA_mk{an:List Nat}{ms:Ms}: ∀{l nm:List Nat}{bs:List (Nat × Nat)}{K:KB},autoA an ms l nm bs K→ ∃nm bs,K nm bs
 |[],_,_,_,h=>⟨_,_,h⟩
 |b::l,nm,bs,K,h=>by
  obtain⟨nm,bs,h⟩:=auto1_mk h
  exact autoA_mk h
theorem autoT_mk{an:List Nat}{ts:Ts}{ms:Ms}: ∀{l nm:List Nat}{bs:List (Nat × Nat)}{K:KB},autoT an ts ms l nm bs K→ ∃nm bs,K nm bs
 |[],_,_,_,h=>⟨_,_,h⟩
 |k::l,nm,bs,K,h=>by
  obtain⟨nm,bs,h⟩:=auto2_mk h
  exact autoT_mk h
theorem keepAV_mk{ks:List Nat}{ts:Ts}{ms:Ms}{K:Ts→Ms→Prop}(h:keepAV n ks ts ms K): ∃bs,keepOk (St.ls n ts ms) ks bs=true∧ ∃ts' ms',(St.ls n ts ms).keepR ks bs=St.ls n ts' ms'∧K ts' ms':=by
 obtain⟨_,_,h⟩:=autoA_mk h
 obtain⟨_,_,h⟩:=autoT_mk h
 exact⟨_,keepCV_mk (fpK_mk h)⟩
theorem gcV_mk{ks:List Nat}{ts:Ts}{ms:Ms}{K:Ts→Ms→Prop}(h:gcV n ks ts ms K): ∃bs,keepOk (St.ls n ts ms) ks bs=true∧ ∃ts' ms',(St.ls n ts ms).keepR ks bs=St.ls n ts' ms'∧K ts' ms':=by
 obtain⟨_,_,h⟩:=autoA_mk h
 obtain⟨_,_,h⟩:=autoT_mk h
 exact⟨_,keepCV_mk (fpK_mk h)⟩
theorem WP.frz{c:Code}{Q:Ex→St→Prop}{ts:Ts}{ms:Ms}(k:Nat)(h:freezeV k ts ms fun ts ms=>WP P c Q (St.ls n ts ms)):WP P c Q (St.ls n ts ms):=by
 obtain⟨_,_,h1,h2⟩:=frz_rel (n:=n) k h
 exact WP.weak h1 h2
theorem frzK_mk{c:Code}{Q:Ex→St→Prop}{l:List Nat}{ts:Ts}{ms:Ms}{K:Ts→Ms→Prop}(h:frzK l ts ms K)(hk: ∀ts ms,K ts ms→WP P c Q (St.ls n ts ms)):WP P c Q (St.ls n ts ms):=by
 obtain⟨_,_,h1,h2⟩:=frzK_rel (n:=n) h
 exact WP.weak h1 (hk _ _ h2)
theorem dropV_mk{a b:Code}{Q:Ex→St→Prop}{ts:Ts}{ms:Ms}{K:Ts→Ms→Prop}(h:dropV n a ts ms K)(hk: ∀ts ms,K ts ms→WP P b Q (St.ls n ts ms)):WP P b Q (St.ls n ts ms):=by
 unfold dropV at h
 split at h
 ·split at h
  ·unfold dropK at h
   split at h
   ·exact WP.pick [] (hk _ _ h)
   ·split at h
    ·obtain⟨bs,h1,ts',ms',h2,h3⟩:=gcV_mk h
     refine WP.keepR _ bs ⟨h1,?_⟩
     rw[h2]
     exact hk _ _ h3
    ·split at h
     ·exact frzK_mk h hk
     ·exact WP.pick _ (hk _ _ (pickT_mk (K:=fun ts=>K ts ms) h))
  ·exact hk _ _ h
 ·exact hk _ _ h
theorem ev_mk(hT:T.ok P)(hm:P.follows .mixedOrders=true): ∀{c:Code}{Q:Ex→Ts→Ms→Prop}{ts:Ts}{ms:Ms},ev P T n c Q ts ms→WP P c (QL n Q) (St.ls n ts ms)
 | .skip,Q,ts,ms,h=>WP.skip ⟨ts,ms,rfl,h⟩
 | .label _,Q,ts,ms,h=>WP.label ⟨ts,ms,rfl,h⟩
 | .ret,Q,ts,ms,h=>WP.ret ⟨ts,ms,rfl,h⟩
 | .exit id,Q,ts,ms,h=>WP.exit ⟨ts,ms,rfl,h⟩
 | .seq a b,Q,ts,ms,h=>by
  unfold ev at h
  refine WP.seq ((ev_mk hT hm (c:=a) h).mono fun e st hq=> ?_)
  obtain⟨ts',ms',rfl,hq⟩:=hq
  cases e with
  |normal=>exact dropV_mk hq fun ts ms h=>ev_mk hT hm (c:=b) h
  |exit i=>exact⟨_,_,rfl,hq⟩
  |ret=>exact⟨_,_,rfl,hq⟩
 | .block id c,Q,ts,ms,h=>by
  unfold ev at h
  refine WP.block ((ev_mk hT hm (c:=c) h).mono fun e st hq=> ?_)
  obtain⟨ts',ms',rfl,hq⟩:=hq
  cases e with
  |normal=>exact⟨_,_,rfl,hq⟩
  |exit i=>
   simp only[blockV]at hq
   simp only[blockK]
   split at hq
   ·rename_i hi;rw[if_pos (beq_t hi)];exact⟨_,_,rfl,hq⟩
   ·rename_i hi;rw[if_neg (beq_f hi)];exact⟨_,_,rfl,hq⟩
  |ret=>exact⟨_,_,rfl,hq⟩
 | .cond c x y,Q,ts,ms,h=>by
  unfold ev at h
  refine WP.cond (runK_mono (go_mk h) fun v hv=> ?_)
  split at hv
  ·rename_i b
   have hst: ∀b,condSt (St.ls n ts ms) c b=St.ls n (condT c b ts) ms:=fun b=>by
    cases c<;>first|rfl|exact ls_put _ _ _ _
   have hcv: ∀b(K:Ts→Prop),condV c b ts K→K (condT c b ts):=fun b K h=>by cases c<;>exact h
   refine⟨fun e=> ?_,fun e=> ?_⟩
   ·rw[hst];exact ev_mk hT hm (c:=x) (hcv _ _ (hv.1 e))
   ·rw[hst];exact ev_mk hT hm (c:=y) (hcv _ _ (hv.2 e))
  ·exact hv.elim
 | .region id ops draw,Q,ts,ms,h=>by
  unfold ev at h
  refine WP.postF ?_
  have fin: ∀s,KL n (fun ts ms=>facV ops.toList ts ms (Q .normal ts ms)) s→s.Facts→QL n Q .normal s:=by
   rintro s ⟨ts,ms,rfl,h⟩ hf
   exact⟨ts,ms,rfl,facV_mk hf.1 hf.2 h⟩
  cases draw with
  |false=>
   refine WP.region hT fun K hK=> ?_
   have: ∀(l:List Oper)(st:St)(K K':St→Prop),regW P T ops.toList l st K→(∀s,K s→K' s)→regW P T ops.toList l st K':=by
    intro l
    induction l with
    |nil=>intro st K K' h hk;exact hk _ h
    |cons o l ih=>intro st K K' h hk;exact stepW_mono h fun s ⟨s',h1,hs⟩=>⟨s',h1,ih s' K K' hs hk⟩
   exact this _ _ _ _ (regV_mk h) fun s hs=>hK s (fin s hs)
  |true=>
   refine WP.mono (Q:=fun e s=>match e with| .normal=>KL n (fun ts ms=>facV ops.toList ts ms (Q .normal ts ms)) s|_=>False) ?_ fun e s hs=> ?_
   ·exact WP.draw hT hm rfl _ h.1 (regVL_mk (past:=[]) (i:=0) (fnLL_mk h.2))
   ·cases e with
    |normal=>exact fin s hs
    |_=>exact hs.elim
 | .loop c,Q,ts,ms,h=>h.wp
 | .rangeFunc _ _ _ _,Q,ts,ms,h=>h.elim
 | .scope _,Q,ts,ms,h=>h.elim
 | .goto _,Q,ts,ms,h=>h.elim
 | .refuse _,Q,ts,ms,h=>h.elim
theorem fmK_mk2{l ms:Ms}{K:Ms→Prop}(h:fmK l ms K): ∃ms',(∀(n:Fx)(ts:Ts),(St.ls n ts ms).mws l=St.ls n ts ms')∧K ms':=by
 induction l generalizing ms with
 |nil=>exact⟨ms,fun _ _=>rfl,h⟩
 |cons p l ih=>
  have h:=fcM_mk h
  obtain⟨ms',h1,h2⟩:=ih h
  refine⟨ms',fun n ts=> ?_,h2⟩
  rw[←h1]
  show St.mws {St.ls n ts ms with m:=upd (St.ls n ts ms).m p.1 p.2} l=_
  rw[ls_mw]
theorem expLeafV_mk{x:AV}{ts:Ts}{ms:Ms}{K:AV→Ms→Prop}(h:expLeafV x ts ms K):(expLeaf x).runK (St.ls n ts ms) fun p=> ∃ms',(St.ls n ts ms).mws p.2=St.ls n ts ms'∧K p.1 ms':=
 runK_mono (go_mk h) fun p hp=>by
  obtain⟨y,l⟩:=p
  obtain⟨ms',h1,h2⟩:=fmK_mk2 hp
  exact⟨ms',h1 _ _,h2⟩
theorem expLeavesV_mk: ∀{l:List AV}{ts:Ts}{ms:Ms}{K:List AV→Ms→Prop}{K':List AV→St→Prop},expLeavesV l ts ms K→(∀ys ms,K ys ms→K' ys (St.ls n ts ms))→expLeavesK l (St.ls n ts ms) K'
 |[],ts,ms,K,K',h,hk=>hk _ _ h
 |x::l,ts,ms,K,K',h,hk=>runK_mono (expLeafV_mk h) fun p hp=>by
  obtain⟨ms',h1,h2⟩:=hp
  rw[h1]
  exact expLeavesV_mk h2 fun ys ms h=>hk _ _ h
theorem expValV_mk{x:AV}{ts:Ts}{ms:Ms}{K:AV→Ms→Prop}{K':AV→St→Prop}(h:expValV x ts ms K)(hk: ∀y ms,K y ms→K' y (St.ls n ts ms)):expValK x (St.ls n ts ms) K':=by
 have base:expLeafV x ts ms K→(expLeaf x).runK (St.ls n ts ms) fun p=>K' p.1 ((St.ls n ts ms).mws p.2):=fun h=>runK_mono (expLeafV_mk h) fun p hp=>by
  obtain⟨ms',h1,h2⟩:=hp
  rw[h1]
  exact hk _ _ h2
 cases x with
 |agg cs=>exact expLeavesV_mk h fun ys ms h=>hk _ _ h
 |ptr b i j=>
  unfold expValV at h
  simp only at h
  split at h
  case h_2=>exact h.elim
  split at h
  case h_2=>exact h.elim
  split at h
  case h_2=>exact h.elim
  rename_i arr lvl z rows hm
  split at h
  case h_2=>exact h.elim
  split at h
  case h_2=>exact h.elim
  rename_i row
  obtain⟨h1,h2⟩:=okK_mk h
  have hm':(St.ls n ts ms).m b=.live ⟨false,lvl,z,[row]⟩:=hm
  simp only[expValK,hm']
  refine⟨h1,?_⟩
  have e:(St.ls n ts ms).mws [(b,.dead)]=St.ls n ts ((b,.dead)::ms):=by
   show{St.ls n ts ms with m:=upd (St.ls n ts ms).m b .dead}=_
   rw[ls_mw]
  rw[e]
  refine exLeavesV_mk h2 fun ys ms h=> ?_
  obtain⟨h3,h4⟩:=okK_mk h
  exact⟨h3,hk _ _ h4⟩
 |_=>exact base h
theorem expValsV_mk: ∀{l:List AV}{ts:Ts}{ms:Ms}{K:List AV→Ms→Prop}{K':List AV→St→Prop},expValsV l ts ms K→(∀ys ms,K ys ms→K' ys (St.ls n ts ms))→expValsK l (St.ls n ts ms) K'
 |[],ts,ms,K,K',h,hk=>hk _ _ h
 |x::l,ts,ms,K,K',h,hk=>expValV_mk h fun y ms h=>expValsV_mk h fun ys ms h=>hk _ _ h
theorem retV_mk{rs:List ResultVar}{res:AV}{ts:Ts}{ms:Ms}(h:retV T rs res ts ms):retW T rs res (St.ls n ts ms):=
 runK_mono (go_mk h) fun xs hx=>by
  unfold retX
  split at hx
  ·exact expValV_mk hx fun y ms h=>(fg_mk (K:=fun y=>ShG y res) h).s
  ·rename_i hc
   split
   ·rename_i x;exact absurd rfl (hc x)
   ·exact expValsV_mk hx fun ys ms h=>(fg_mk (K:=fun y=>ShG y res) h).s
theorem numK_mk: ∀{l:List AV}{ks:List Nat}{K:Ts→Prop}(k m:Nat),ks=List.range' k m→numK ks l K→ ∃ts,(∀j,getT ts j=if k≤j then l.getD (j-k) .undef else .undef)∧K ts
 |[],ks,K,k,m,hk,h=>by
  have:K []:=by cases ks<;>exact h
  exact⟨[],fun j=>by simp[getT],this⟩
 |x::l,[],K,k,m,hk,h=>h.elim
 |x::l,k'::ks,K,k,m,hk,h=>by
  cases m with
  |zero=>simp at hk
  |succ m=>
  rw[List.range'_succ]at hk
  injection hk with hk1 hk2
  subst hk1
  obtain⟨ts,h1,h2⟩:=numK_mk (l:=l) (k'+1) m hk2 (fc_mk (K:=fun x=>numK ks l fun ts=>K ((k',x)::ts)) h)
  refine⟨_,fun j=> ?_,h2⟩
  simp only[getT]
  split
  ·rename_i hj;rw[beq_t hj];simp
  ·rename_i hj
   have:=beq_f hj
   rw[h1]
   by_cases h3:k'+1≤j
   ·rw[if_pos h3,if_pos (by omega)]
    obtain⟨m,rfl⟩: ∃m,j=k'+1+m:=⟨j-(k'+1),by omega⟩
    rw[show k'+1+m-(k'+1)=m by omega,show k'+1+m-k'=m+1 by omega]
    simp
   ·rw[if_neg h3,if_neg (by omega)]
theorem enter_ls{n:Nat}{xs vs:List AV}{l:List (Nat × MB)}{ts:Ts}{ms:Ms}(hvl:impVals e0 xs=(vs,l))(h1: ∀j,getT ts j=if 0≤j then vs.getD (j-0) .undef else .undef)
  (h3: ∀(n:Fx)(ts:Ts),(St.ls n ts []).mws l=St.ls n ts ms):enter n xs=St.ls ⟨n,[],[]⟩ ts ms:=by
 unfold enter
 rw[hvl]
 simp only
 have h5:(St.mws (St.ls ⟨n,[],[]⟩ ts []) l)=St.ls ⟨n,[],[]⟩ ts ms:=h3 _ ts
 have h6: ∀(l:List (Nat × MB))(s s':St),s.m=s'.m→(s.mws l).m=(s'.mws l).m:=by
  intro l
  induction l with
  |nil=>intro s s' h;exact h
  |cons p l ih=>intro s s' h;exact ih _ _ (by simp only[h])
 have h7:(St.mws ⟨n,fun _=>.undef,fun _=>.abs,[]⟩ l).m=getM ms:=by
  have:=congrArg St.m h5
  rw[show getM ms=(St.ls ⟨n,[],[]⟩ ts ms).m from rfl,←this]
  exact h6 _ _ _ (by funext k;rfl)
 simp only[St.ls,St.mk.injEq]
 refine⟨by rw[mws_n],?_,h7,by rw[mws_an]⟩
 funext k
 rw[h1]
 simp
theorem Con.evK(kp:List (Nat × List Nat)){f:FuncId}{fn:Func}{c:Code}{xs:List AV}{res:AV}(n:Nat)(hT:T.ok P)(hm:P.follows .mixedOrders=true)(hf:P.funcs[f]? =some fn)(hn:(fn.name== "runtime.NumGoroutine")=false)(hb:fn.body=some c)
  (hok:xs.all impValOk=true)(hnn:xs.length+(fn.ntmps-xs.length)=n)(rs:List ResultVar)(hrs:fn.results.toList=rs)
  (h:enterV xs fun ts ms=>ev P T ⟨n,[],kp⟩ c (retQV T rs res) ts ms):Con P f xs (undefs xs) res:=by
 refine Con.of_WP hT hf hn hb hok ?_
 rw[hnn,hrs]
 unfold enterV at h
 split at h
 rename_i vs l hvl
 obtain⟨ts,h1,h2⟩:=numK_mk 0 20 rfl h
 obtain⟨ms,h3,h4⟩:=fmK_mk2 h2
 have:enter n xs=St.ls ⟨n,[],kp⟩ ts ms:=enter_ls hvl h1 h3
 rw[this]
 refine(ev_mk hT hm h4).mono fun e st hq=> ?_
 obtain⟨ts',ms',rfl,hq⟩:=hq
 cases e with
 |ret=>exact retV_mk hq
 |normal=>exact retV_mk hq
 |exit i=>exact hq.elim
theorem Con.ev{f:FuncId}{fn:Func}{c:Code}{xs:List AV}{res:AV}(n:Nat)(hT:T.ok P)(hm:P.follows .mixedOrders=true)(hf:P.funcs[f]? =some fn)(hn:(fn.name== "runtime.NumGoroutine")=false)(hb:fn.body=some c)
  (hok:xs.all impValOk=true)(hnn:xs.length+(fn.ntmps-xs.length)=n)(rs:List ResultVar)(hrs:fn.results.toList=rs)
  (h:enterV xs fun ts ms=>ev P T ⟨n,[],[]⟩ c (retQV T rs res) ts ms):Con P f xs (undefs xs) res:=
 Con.evK [] n hT hm hf hn hb hok hnn rs hrs h
theorem enterP_ls{n:Nat}{xs vs:List AV}{l:List (Nat × MB)}{ts:Ts}{ms:Ms}{an:List Nat}(hvl:impArgs e0 xs=(vs,l))(h1: ∀j,getT ts j=if 0≤j then vs.getD (j-0) .undef else .undef)
  (h3: ∀(n:Fx)(ts:Ts),(St.ls n ts []).mws l=St.ls n ts ms):enterP n xs an=St.ls ⟨n,an,[]⟩ ts ms:=by
 unfold enterP
 rw[hvl]
 simp only
 have h5:(St.mws (St.ls ⟨n,[],[]⟩ ts []) l)=St.ls ⟨n,[],[]⟩ ts ms:=h3 _ ts
 have h6: ∀(l:List (Nat × MB))(s s':St),s.m=s'.m→(s.mws l).m=(s'.mws l).m:=by
  intro l
  induction l with
  |nil=>intro s s' h;exact h
  |cons p l ih=>intro s s' h;exact ih _ _ (by simp only[h])
 have h7:(St.mws ⟨n,fun _=>.undef,fun _=>.abs,[]⟩ l).m=getM ms:=by
  have:=congrArg St.m h5
  rw[show getM ms=(St.ls ⟨n,[],[]⟩ ts ms).m from rfl,←this]
  exact h6 _ _ _ (by funext k;rfl)
 simp only[St.ls,St.mk.injEq]
 refine⟨by rw[mws_n],?_,h7,trivial⟩
 funext k
 rw[h1]
 simp
theorem aftPV_mk{ts:Ts}: ∀{as os:List AV}{b:Nat}{ms:Ms},aftPV b as os ms→aftPs b as os (St.ls n ts ms)
 |[],[],b,ms,h=>trivial
 |[],_::_,b,ms,h=>h.elim
 |_::_,[],b,ms,h=>h.elim
 |x::as,o::os,b,ms,h=>by
  cases x with
  |obj cs0=>
   unfold aftPV at h
   have ho: ∃cs,o=.obj cs:=by cases o<;>first|exact h.elim|exact⟨_,rfl⟩
   obtain⟨cs,rfl⟩:=ho
   simp only at h
   split at h
   case h_2=>exact h.elim
   rename_i arr lvl z rows hm
   split at h
   case h_2=>exact h.elim
   split at h
   case h_2=>exact h.elim
   rename_i row
   obtain⟨h1,h2⟩:=okK_mk h
   have hm':(St.ls n ts ms).m b=.live ⟨false,lvl,z,[row]⟩:=hm
   simp only[aftPs,hm']
   refine⟨h1,?_⟩
   have e:(St.ls n ts ms).mws [(b,.dead)]=St.ls n ts ((b,.dead)::ms):=by
    show{St.ls n ts ms with m:=upd (St.ls n ts ms).m b .dead}=_
    rw[ls_mw]
   rw[e]
   refine exLeavesV_mk h2 fun ys ms h=> ?_
   have h:=fcL_mk (fun _ _=>fg0_mk) h
   exact⟨h.s,aftPV_mk (as:=as) (os:=os) h.k⟩
  |_=>
   unfold aftPV at h
   cases o<;>first|exact h.elim|exact⟨rfl,aftPV_mk (as:=as) (os:=os) h⟩
theorem retVP_mk{rs:List ResultVar}{res:AV}{b:Nat}{as os:List AV}{ts:Ts}{ms:Ms}(h:retVP T rs res b as os ts ms):retWA T rs res (fun st=>aftPs b as os st∧st.an=n.an) (St.ls n ts ms):=
 runK_mono (go_mk h) fun xs hx=>by
  unfold retXA
  split at hx
  ·refine expValV_mk hx fun y ms h=> ?_
   have h:=fg_mk (K:=fun y=>AftPG y res (aftPV b as os ms)) h
   exact⟨h.s,aftPV_mk h.k,rfl⟩
  ·rename_i hc
   split
   ·rename_i x;exact absurd rfl (hc x)
   ·refine expValsV_mk hx fun ys ms h=> ?_
    have h:=fg_mk (K:=fun y=>AftPG y res (aftPV b as os ms)) h
    exact⟨h.s,aftPV_mk h.k,rfl⟩
theorem Con.evPK(kp:List (Nat × List Nat)){f:FuncId}{fn:Func}{c:Code}{xs os:List AV}{res:AV}(n:Nat)(an:List Nat)(han:objIds e0 xs=an)(hT:T.ok P)(hm:P.follows .mixedOrders=true)
  (hf:P.funcs[f]? =some fn)(hn:(fn.name== "runtime.NumGoroutine")=false)(hb:fn.body=some c)
  (hok:xs.all impArgOk=true)(hnn:xs.length+(fn.ntmps-xs.length)=n)(rs:List ResultVar)(hrs:fn.results.toList=rs)
  (h:enterPV xs fun ts ms=>okK (an.all fun b=> !isAbs (getM ms b)) (Go.Abs.ev P T ⟨n,an,kp⟩ c (retQVP T rs res e0 xs os) ts ms)):Con P f xs os res:=by
 subst han
 unfold enterPV at h
 split at h
 rename_i vs l hvl
 obtain⟨ts,h1,h2⟩:=numK_mk 0 20 rfl h
 obtain⟨ms,h3,h4⟩:=fmK_mk2 h2
 obtain⟨h5,h6⟩:=okK_mk h4
 have hent:=enterP_ls (n:=n) (an:=objIds e0 xs) hvl h1 h3
 refine Con.of_coreP hT hf hn hb hok (fun b hb=> ?_) ?_
 ·rw[hnn,hent]
  have:=List.all_eq_true.1 h5 b hb
  intro hm
  have hm:getM ms b=.abs:=hm
  rw[hm]at this
  simp[isAbs]at this
 ·rw[hnn,hrs,hent]
  refine(ev_mk hT hm h6).mono fun e st hq=> ?_
  obtain⟨ts',ms',rfl,hq⟩:=hq
  cases e with
  |ret=>exact retVP_mk hq
  |normal=>exact retVP_mk hq
  |exit i=>exact hq.elim
theorem Con.evP{f:FuncId}{fn:Func}{c:Code}{xs os:List AV}{res:AV}(n:Nat)(an:List Nat)(han:objIds e0 xs=an)(hT:T.ok P)(hm:P.follows .mixedOrders=true)
  (hf:P.funcs[f]? =some fn)(hn:(fn.name== "runtime.NumGoroutine")=false)(hb:fn.body=some c)
  (hok:xs.all impArgOk=true)(hnn:xs.length+(fn.ntmps-xs.length)=n)(rs:List ResultVar)(hrs:fn.results.toList=rs)
  (h:enterPV xs fun ts ms=>okK (an.all fun b=> !isAbs (getM ms b)) (Go.Abs.ev P T ⟨n,an,[]⟩ c (retQVP T rs res e0 xs os) ts ms)):Con P f xs os res:=
 Con.evPK [] n an han hT hm hf hn hb hok hnn rs hrs h
end
end Go.Abs
