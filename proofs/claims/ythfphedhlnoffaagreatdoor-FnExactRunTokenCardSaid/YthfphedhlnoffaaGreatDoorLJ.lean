import Derived.Test.YthfphedhlnoffaaGreatDoorLI
import Derived.Test.YthfphedhlnoffaaGreatDoorLG
import Derived.WalkKit
import Derived.ProofKit
import Derived.OpenShut
import Derived.ShutString
import Derived.ChangeOld
import Derived.SizedLaws
import Derived.Lib.SmallJoins
/- The abstract layer, 30: the quick walk is sound: regions that draw, code, functions. -/
set_option linter.unusedVariables false
set_option linter.unusedSimpArgs false
noncomputable section
namespace Go.Abs
open Go
section
variable{P:Program}{T:TT}{n:Fx}
theorem sp{n:Fx}{l:Ms}{ts:Ts}{ms:Ms}(h2:(l.all fun p=>fN (cd ms p.1))=true):(l.all fun p=>match (St.ls n ts ms).m p.1 with| .abs=>true|_=>false)=true:=by
 refine List.all_eq_true.2 fun p hp=> ?_
 have:=List.all_eq_true.1 h2 p hp
 show(match cd ms p.1 with| .abs=>true|_=>false)=true
 cases hm:cd ms p.1<;>rw[hm]at this<;>simp_all[fN]
theorem wW{x:AV}{ts:Ts}{ms:Ms}{K:AV→Ms→Wr→Prop}(h:tG x ms K): ∃p ms',(dr x).run (St.ls n ts ms)=some p∧(St.ls n ts ms).mws p.2=St.ls n ts ms'∧K p.1 ms' p.2:=by
 have rest: ∀x:AV,okK x.goes (K x ms [])→ ∃p ms',(RP.req x.goes (.ret (x,([]:Wr)))).run (St.ls n ts ms)=some p∧(St.ls n ts ms).mws p.2=St.ls n ts ms'∧K p.1 ms' p.2:=fun x h=>by
  obtain⟨h1,h2⟩:=bD h
  exact⟨(x,[]),ms,by simp only[RP.run,h1,if_true],rfl,h2⟩
 cases x with
 |ref b off m=>
  simp only[tG]at h
  split at h
  ·rename_i arr lvl z rows hm
   split at h
   ·obtain⟨h1,h2⟩:=bD h
    have hm':(St.ls n ts ms).m b=.live ⟨true,lvl,z,rows⟩:=hm
    refine⟨(.own lvl z (am rows off m),[(b,.dead)]),(b,.dead)::ms,?_,?_,h2⟩
    ·simp only[dr,RP.run,hm',kC,gX,RP.bind,mE,if_true]
     rw[if_pos (decide_eq_true (Nat.le_of_ble_eq_true h1))]
    ·show{St.ls n ts ms with m:=bi (St.ls n ts ms).m b .dead}=_
     rw[kq]
   ·exact h.elim
  ·exact h.elim
 |_=>exact rest _ h
theorem nP{ts:Ts}: ∀{l:List AV}{ms:Ms}{K:List AV→Ms→Wr→List Nat→Prop},oC l ms K→ ∃r ms',un l (St.ls n ts ms)=some r∧(St.ls n ts ms).mws r.2.1=St.ls n ts ms'∧K r.1 ms' r.2.1 r.2.2
 |[],ms,K,h=>⟨([],[],[]),ms,rfl,rfl,h⟩
 |x::l,ms,K,h=>by
  obtain⟨p,ms1,h1,h2,h3⟩:=wW (n:=n) (ts:=ts) h
  obtain⟨r,ms2,h4,h5,h6⟩:=nP (ts:=ts) h3
  refine⟨(p.1::r.1,p.2++r.2.1,x.refs0++r.2.2),ms2,?_,?_,h6⟩
  ·unfold un
   rw[h1]
   simp only
   rw[h2,h4]
  ·simp only
   rw[cx,h2,h5]
theorem Ah{x:AV}{w:Nat}{ts:Ts}{ms:Ms}{K:AV→Ms→Wr→List Nat→Prop}(h:Cr x w ms K): ∃r ms',nf x w (St.ls n ts ms)=some r∧(St.ls n ts ms).mws r.2.1=St.ls n ts ms'∧K r.1 ms' r.2.1 r.2.2:=by
 unfold Cr at h
 split at h
 case h_2=>exact h.elim
 rename_i b i j
 split at h
 case h_2=>exact h.elim
 split at h
 case h_2=>exact h.elim
 rename_i arr lvl z rows hm
 split at h
 case h_2=>exact h.elim
 split at h
 case h_2=>exact h.elim
 rename_i row
 have h:=cQ (fun _ _=>gM) h
 obtain⟨h1,h⟩:=bD h
 obtain⟨ms1,h2,h3⟩:=ia (n:=n) ts h
 obtain⟨r,ms2,h4,h5,h6⟩:=nP (n:=n) (ts:=ts) h3
 obtain⟨h7,h8⟩:=bD h6
 have hm':(St.ls n ts ms).m b=.live ⟨false,lvl,z,[row]⟩:=hm
 simp only[Bool.and_eq_true]at h1
 have hq:(decide (j+w≤row.length)&&((row.drop j).take w).all fun c=>c.light&& !c.isUndef)=true:=by
  simp only[Bool.and_eq_true]
  exact⟨decide_eq_true (Nat.le_of_ble_eq_true h1.1),h1.2⟩
 refine⟨(.obj r.1,(b,.live ⟨false,lvl,z,[setCells row j (List.replicate w .undef)]⟩)::r.2.1,b::r.2.2),ms2,?_,?_,h8⟩
 ·unfold nf
  simp only[hm']
  rw[if_pos hq,h2,h4]
  simp only
  rw[if_pos h7]
 ·show((St.ls n ts ms).mws [(b,.live ⟨false,lvl,z,[setCells row j (List.replicate w .undef)]⟩)]).mws r.2.1=_
  rw[h2,h5]
theorem oc{ts:Ts}: ∀{fs:List (Option Nat)}{as:List AV}{ms:Ms}{K:List AV→Ms→Wr→List Nat→Prop},sW fs as ms K→ ∃r ms',fY fs as (St.ls n ts ms)=some r∧(St.ls n ts ms).mws r.2.1=St.ls n ts ms'∧K r.1 ms' r.2.1 r.2.2
 |[],[],ms,K,h=>⟨([],[],[]),ms,rfl,rfl,h⟩
 |[],_::_,_,_,h=>h.elim
 |none::_,[],_,_,h=>h.elim
 |some _::_,[],_,_,h=>h.elim
 |none::fs,x::as,ms,K,h=>by
  obtain⟨r,ms1,h1,h2,h3⟩:=oc (ts:=ts) (fs:=fs) (as:=as) h
  refine⟨(.undef::r.1,r.2.1,r.2.2),ms1,?_,h2,h3⟩
  unfold fY
  rw[h1]
 |some w::fs,x::as,ms,K,h=>by
  obtain⟨r,ms1,h1,h2,h3⟩:=Ah (n:=n) (ts:=ts) h
  obtain⟨r',ms2,h4,h5,h6⟩:=oc (ts:=ts) (fs:=fs) (as:=as) h3
  refine⟨(r.1::r'.1,r.2.1++r'.2.1,r.2.2++r'.2.2),ms2,?_,?_,h6⟩
  ·unfold fY
   rw[h1]
   simp only
   rw[h2,h4]
  ·simp only
   rw[cx,h2,h5]
theorem Ap{x p:AV}{b0:Nat}{ts:Ts}{ms:Ms}{K:Ms→Wr→List Nat→Prop}(h:Bu x p b0 ms K): ∃r ms',nQ x p b0 (St.ls n ts ms)=some r∧(St.ls n ts ms).mws r.1=St.ls n ts ms'∧K ms' r.1 r.2:=by
 unfold Bu at h
 split at h
 case h_2=>exact h.elim
 rename_i b i j
 split at h
 case h_2=>exact h.elim
 rename_i cs
 split at h
 case h_2=>exact h.elim
 rename_i arr lvl z rows hm
 split at h
 case h_2=>exact h.elim
 split at h
 case h_2=>exact h.elim
 rename_i row
 obtain⟨h1,h⟩:=bD h
 split at h
 rename_i vs l hvl
 obtain⟨h2,h⟩:=bD h
 obtain⟨ms1,h3,h⟩:=ia (n:=n) ts h
 obtain⟨ms2,h4,h5⟩:=ia (n:=n) ts h
 have hm':(St.ls n ts ms).m b=.live ⟨false,lvl,z,[row]⟩:=hm
 simp only[Bool.and_eq_true]at h1
 have hq:(cs.all cG&&decide (j+cs.length≤row.length)&&((row.drop j).take cs.length).all AV.isUndef)=true:=by
  simp only[Bool.and_eq_true]
  exact⟨⟨h1.1.1,decide_eq_true (Nat.le_of_ble_eq_true h1.1.2)⟩,h1.2⟩
 refine⟨(l++[(b,.live ⟨false,lvl,z,[setCells row j vs]⟩)],b::l.map (·.1)),ms2,?_,?_,h5⟩
 ·unfold nQ
  simp only[hm',hvl]
  rw[if_pos hq,if_pos]
  refine List.all_eq_true.2 fun p hp=> ?_
  have:=List.all_eq_true.1 h2 p hp
  show(match cd ms p.1 with| .abs=>true|_=>false)=true
  cases hm:cd ms p.1<;>rw[hm]at this<;>simp_all[fN]
 ·simp only
  rw[cx,h3,h4]
theorem oS{ts:Ts}: ∀{fs:List (Option Nat)}{as os:List AV}{b0:Nat}{ms:Ms}{K:Ms→Wr→List Nat→Prop},rC fs as os b0 ms K→ ∃r ms',fS fs as os b0 (St.ls n ts ms)=some r∧(St.ls n ts ms).mws r.1=St.ls n ts ms'∧K ms' r.1 r.2
 |[],[],[],b0,ms,K,h=>⟨([],[]),ms,rfl,rfl,h⟩
 |[],[],_::_,_,_,_,h=>h.elim
 |[],_::_,[],_,_,_,h=>h.elim
 |[],_::_,_::_,_,_,_,h=>h.elim
 |none::_,[],os,_,_,_,h=>by cases os<;>exact h.elim
 |some _::_,[],os,_,_,_,h=>by cases os<;>exact h.elim
 |none::_,_::_,[],_,_,_,h=>h.elim
 |some _::_,_::_,[],_,_,_,h=>h.elim
 |none::fs,x::as,p::os,b0,ms,K,h=>by
  unfold rC at h
  split at h
  ·obtain⟨r,ms1,h1,h2,h3⟩:=oS (ts:=ts) (fs:=fs) (as:=as) h
   exact⟨r,ms1,h1,h2,h3⟩
  ·exact h.elim
 |some w::fs,x::as,p::os,b0,ms,K,h=>by
  obtain⟨r,ms1,h1,h2,h3⟩:=Ap (n:=n) (ts:=ts) h
  obtain⟨r',ms2,h4,h5,h6⟩:=oS (ts:=ts) (fs:=fs) (as:=as) h3
  refine⟨(r.1++r'.1,r.2++r'.2),ms2,?_,?_,h6⟩
  ·unfold fS
   rw[h1]
   simp only
   rw[h2]
   show(match fS fs as os (Nat.add b0 100) (St.ls n ts ms1)with|some (W',L')=>some (r.1++W',r.2++L')|none=>none)=_
   rw[h4]
  ·simp only
   rw[cx,h2,h5]
theorem sQ{o:Oper}{ts:Ts}{ms:Ms}{K:di→List Nat→List Nat→Prop}(h:DW P T n o ts ms K):zJ P T o (St.ls n ts ms) K:=by
 unfold DW at h
 unfold zJ
 split at h
 ·rename_i c ho
  simp only[ho]
  split at h
  ·rename_i f hc
   simp only[hc]
   obtain⟨fv,s1,m1,hf,h⟩:=cS (dw (n:=n) h)
   obtain⟨as,s2,m2,has,h⟩:=cS (dw (n:=n) h)
   split at h
   ·right
    unfold xr at h
    split at h
    case h_2=>exact h.elim
    rename_i fid caps
    obtain⟨hdst,h⟩:=bD h
    have h:=cQ (fun _ _=>ij) h
    obtain⟨fs,h⟩:=h
    have h:=cQ (fun _ _=>ij) h
    obtain⟨g,ms1,hg,hg2,h⟩:=oc (n:=n) (ts:=ts) h
    obtain⟨ys,s3,m3,hy,h⟩:=cS (dw (n:=n) h)
    have h:=cQ (fun _ _=>ij) h
    obtain⟨_,os,res,rfl,hcon,h⟩:=h
    obtain⟨hq,h⟩:=bD h
    obtain⟨_,h⟩:=vu (cQ (fun _ _=>Af) h)
    obtain⟨t,ms2,ht,ht2,h⟩:=oS (n:=n) (ts:=ts) h
    obtain⟨hok,h⟩:=bD h
    have hd:(St.ls n ts ms).dstOk o.dst=true:=by
     unfold St.dstOk
     split at hdst
     ·rename_i hd;rw[hd]
     ·rename_i d hd;rw[hd];exact decide_eq_true (rf hdst)
    generalize hr:bQ o res=r at h
    obtain⟨v,l⟩:=r
    simp only at h
    obtain⟨h5,h⟩:=bD h
    have hnew:(bQ o res).2.all (fun p=>match (((St.ls n ts ms).mws g.2.1).mws t.1).m p.1 with| .abs=>true|_=>false)=true:=by
     rw[hr,hg2,ht2]
     exact sp h5
    have:=zp (T:=T) ho hc hf has hg (by rw[hg2];exact hy) hcon hq (by rw[hg2];exact ht) hd hok hnew
    rw[hr]at this
    exact⟨_,_,_,this,h⟩
   ·left
    refine bM (dw h) fun q s m hq=> ?_
    obtain⟨fv,as,ys⟩:=q
    unfold BD at hq
    simp only at hq
    split at hq
    ·split at hq
     ·have hq:=cQ (fun _ _=>oL) hq
      obtain⟨res,h1,h2⟩:=hq
      obtain⟨h4,h2⟩:=bD h2
      refine⟨res,h1,h4,?_⟩
      generalize bQ o res=r at h2
      obtain⟨v,l⟩:=r
      simp only at h2
      obtain⟨h5,h2⟩:=bD h2
      refine⟨sp h5,?_⟩
      split at h2
      ·rename_i h3
       exact .inl ⟨h3,h2⟩
      ·obtain⟨h6,h2⟩:=bD h2
       exact .inr ⟨h6,h2⟩
     ·exact hq.elim
    ·exact hq.elim
  ·rename_i hc
   split
   ·rename_i f hf;exact absurd hf (hc f)
   ·exact xF h
 ·rename_i hc
  split
  ·rename_i c ho;exact absurd ho (hc c)
  ·exact xF h
theorem rG{o:Oper}{st:St}{K K':di→List Nat→List Nat→Prop}(h:zJ P T o st K)(hk: ∀r s m,K r s m→K' r s m):zJ P T o st K':=by
 unfold zJ at h⊢
 split at h
 ·split at h
  ·rcases h with h|⟨r,s,m,h1,h2⟩
   case inr=>exact .inr ⟨r,s,m,h1,hk _ _ _ h2⟩
   refine .inl (bM h fun q s m hq=> ?_)
   split at hq
   ·split at hq
    ·obtain⟨res,h1,h2,h3,⟨h4,h5⟩|⟨h4,h5⟩⟩:=hq
     ·exact⟨res,h1,h2,h3,.inl ⟨h4,hk _ _ _ h5⟩⟩
     ·exact⟨res,h1,h2,h3,.inr ⟨h4,hk _ _ _ h5⟩⟩
    ·exact hq.elim
   ·exact hq.elim
  ·exact bM h fun r s m hr=>hk _ _ _ hr
 ·exact bM h fun r s m hr=>hk _ _ _ hr
theorem wo: ∀(l:List Nat)(b:Nat),Hx l b=l.contains b
 |[],b=>rfl
 |x::l,b=>by
  unfold Hx
  rw[List.contains_cons]
  split
  ·rename_i h;rw[jt h];simp
  ·rename_i h
   have:(b==x)=false:=by simpa using xx h
   rw[this,Bool.false_or,wo l b]
theorem sh: ∀(l l':List Nat),jI l l'=gN l l'
 |[],l'=>rfl
 |x::l,l'=>by
  unfold jI gN
  rw[List.all_cons,wo]
  split
  ·rename_i h;rw[h];rfl
  ·rename_i h;rw[h,sh l l'];rfl
theorem zO(y x:Item):wY y.sm x.sm=gV y x:=by
 simp only[Item.sm,wY,gV,sh]
theorem vi(c:List Nat)(x:Item): ∀(l:List Item),uV c x.sm (l.map Item.sm)=l.all fun y=>c.contains y.i||gV y x
 |[]=>rfl
 |y::l=>by
  simp only[List.map_cons,uV,List.all_cons,zO,vi c x l,wo]
  rfl
theorem oj: ∀{l:List Nat}{K:List Nat→Prop},Aa l K→K l
 |[],K,h=>h
 |x::l,K,h=>oj (l:=l) (K:=fun l=>K (x::l)) h
theorem yk: ∀{l:List (List Nat)}{K:List (List Nat)→Prop},DE l K→K l
 |[],K,h=>h
 |x::l,K,h=>yk (l:=l) (K:=fun l=>K (x::l)) (oj (K:=fun x=>DE l fun l=>K (x::l)) h)
theorem uY{ops:List Oper}{cl:List (List Nat)}: ∀{rest:List Oper}{past:List Item}{i:Nat}{ts:Ts}{ms:Ms}{K:Ts→Ms→Prop},vN P T n ops (cl.drop i) (past.map Item.sm) i rest ts ms K→zL P T ops cl past i rest (St.ls n ts ms) (KL n K)
 |[],past,i,ts,ms,K,h=>⟨ts,ms,rfl,h⟩
 |o::rest,past,i,ts,ms,K,h=>by
  unfold vN at h
  unfold zL
  have e1:(zq (cl.drop i)).1=cl.getD i []:=by
   rw[List.getD_eq_getElem?_getD,←List.head?_drop]
   cases cl.drop i<;>rfl
  have e2:(zq (cl.drop i)).2=cl.drop (i+1):=by
   have:cl.drop (i+1)=(cl.drop i).tail:=by rw[List.tail_drop]
   rw[this]
   cases cl.drop i<;>rfl
  have next: ∀r s m,(Aa s fun s=>Aa m fun m=>Aa o.dst.toList fun ws=>Aa (r.2.map (·.1)) fun wm=>ChkS (uV (zq (cl.drop i)).1 (i,ws,s,m,wm) (past.map Item.sm)) (kv n o r ts ms fun ts ms=>vN P T n ops (zq (cl.drop i)).2 ((i,ws,s,m,wm)::past.map Item.sm) (Nat.add i 1) rest ts ms K))→
    Rq ((St.ls n ts ms).dstOk o.dst) (Rq (past.all fun y=>(cl.getD i []).contains y.i||gV y ⟨i,o,r,s,m⟩) (zL P T ops cl (⟨i,o,r,s,m⟩::past) (i+1) rest ((St.ls n ts ms).after o r) (KL n K))):=by
   intro r s m h
   have h:=oj (oj (oj (oj h)))
   obtain⟨h1,h2⟩:=h
   obtain⟨h3,ts',ms',h4,h5⟩:=ru h2
   refine⟨h3,?_,?_⟩
   ·rw[←vi,←e1]
    exact h1
   ·rw[h4]
    rw[e2]at h5
    exact uY (past:=⟨i,o,r,s,m⟩::past) h5
  unfold rV
  simp only at h
  split at h
  ·rename_i hg;rw[hg];exact rG (sQ h) next
  ·rename_i d want hg
   rw[hg]
   unfold yL at h
   split at h
   ·rename_i b hb
    have hb':(St.ls n ts ms).t d=.bool b:=hb
    simp only[hb',rq]
    split at h
    ·refine⟨fun e=> ?_,fun e=> ?_⟩
     ·rw[if_pos rfl];exact rG (sQ (h.1 e)) fun r s m k=>next _ _ _ k
     ·rw[if_pos rfl];exact next _ _ _ (h.2 e)
    ·refine⟨fun e=> ?_,fun e=> ?_⟩
     ·rw[if_neg (by simp)];exact next _ _ _ (h.1 e)
     ·rw[if_neg (by simp)];exact rG (sQ (h.2 e)) fun r s m k=>next _ _ _ k
   ·rename_i vs hb
    split at h
    ·have hb':(St.ls n ts ms).t d=.tup []:=hb
     simp only[hb',rq]
     exact next _ _ _ h
    ·exact h.elim
   ·exact h.elim
  ·exact h.elim
theorem yP{v:AV}{ts:Ts}{ms:Ms}{X:Prop}(h:CX v ms X)(hv: ∀d,v.facts d)(hm: ∀b d,(cd ms b).facts d):X:=by
 unfold CX at h
 split at h
 ·exact h.k hv
 ·exact h.k hv
 ·exact h.k hv
 ·split at h
  ·rename_i hb;exact h.k fun d=>by rw[←hb];exact hm _ d
  ·exact h
 ·exact h
theorem ue{ts:Ts}{ms:Ms}{X:Prop}: ∀{l:List AV},C8 l ms X→(∀x∈l,∀d,x.facts d)→(∀b d,(cd ms b).facts d)→X
 |[],h,_,_=>h
 |x::l,h,hv,hm=>ue (ts:=ts) (l:=l) (yP (ts:=ts) h (hv x (by simp)) hm) (fun y hy=>hv y (by simp[hy])) hm
theorem Eh{v:AV}{ts:Ts}{ms:Ms}{X:Prop}(h:GO v ms X)(hv: ∀d,v.facts d)(hm: ∀b d,(cd ms b).facts d):X:=by
 unfold GO at h
 split at h
 ·exact ue (ts:=ts) h (fun x hx d=>hv (d+1) x hx) hm
 ·exact ue (ts:=ts) h (fun x hx d=>hv (d+1) x hx) hm
 ·exact yP (ts:=ts) h hv hm
theorem nC{ts:Ts}{ms:Ms}{X:Prop}(ht: ∀k d,(cX ts k).facts d)(hm: ∀b d,(cd ms b).facts d): ∀{l:List Oper},xj l ts ms X→X
 |[],h=>h
 |o::l,h=>by
  unfold xj yn at h
  split at h
  ·split at h
   ·split at h
    ·exact nC ht hm (l:=l) (Eh (ts:=ts) h (ht _) hm)
    ·exact nC ht hm (l:=l) h
   ·exact nC ht hm (l:=l) h
  ·exact nC ht hm (l:=l) h
theorem ur{ts:Ts}: ∀{ks:List Nat}{K:Ts→Prop},A8 ks ts K→K (ks.map fun k=>(k,cX ts k))
 |[],K,h=>h
 |k::ks,K,h=>ur (ks:=ks) (K:=fun l=>K ((k,cX ts k)::l)) (ij (K:=fun v=>A8 ks ts fun l=>K ((k,v)::l)) h)
theorem sM{ts:Ts}{k:Nat}: ∀{ks:List Nat},cX (ks.map fun k=>(k,cX ts k)) k=cX ts k∨cX (ks.map fun k=>(k,cX ts k)) k=.undef
 |[]=>.inr rfl
 |x::ks=>by
  show(match Nat.beq k x with|true=>cX ts x|false=>cX (ks.map fun k=>(k,cX ts k)) k)=_∨(match Nat.beq k x with|true=>cX ts x|false=>cX (ks.map fun k=>(k,cX ts k)) k)=_
  split
  ·rename_i h;rw[Nat.eq_of_beq_eq_true h];exact .inl rfl
  ·exact sM (ks:=ks)
theorem RelC.pick{E:Env}{a:Act}{w:World}{X:Cells}{loc:bG}{ob:Nat→Cells}{ts:Ts}{ms:Ms}(ks:List Nat)(r:RelC E (St.ls n ts ms) a w X loc ob):RelC E (St.ls n (ks.map fun k=>(k,cX ts k)) ms) a w X loc ob:=by
 refine⟨fun k=> ?_,r.sz,r.df,r.ab,r.dd,r.lv,r.db,r.dx,r.lt,r.sub,r.fr,r.an⟩
 show AR w _ loc (cX (ks.map fun k=>(k,cX ts k)) k) _ ae
 rcases sM (ts:=ts) (k:=k) (ks:=ks)with e|e
 ·rw[e];exact r.tm k
 ·rw[e];exact .sc trivial ah
theorem WP.pick{c:Code}{Q:Ex→St→Prop}{ts:Ts}{ms:Ms}(ks:List Nat)(h:WP P c Q (St.ls n (ks.map fun k=>(k,cX ts k)) ms)):WP P c Q (St.ls n ts ms):=
 WP.weak (fun E a w ⟨loc,ob,r⟩=>⟨loc,ob,r.pick ks⟩) h
theorem vY: ∀{l:List (Nat × Nat)}{K:List (Nat × Nat)→Prop},Jk l K→K l
 |[],K,h=>h
 |(a,b)::l,K,h=>vY (l:=l) h
theorem kZ: ∀{bs:List (Nat × Nat)}{b:Nat}{K:Nat→Prop},qN bs b K→K (cE bs b)
 |[],b,K,h=>h
 |(a,o)::l,b,K,h=>by
  unfold qN at h
  unfold cE
  split at h
  ·rename_i e;rw[if_pos (jt e)];exact h
  ·rename_i e;rw[if_neg (xx e)];exact kZ h
theorem Ch{bs:List (Nat × Nat)}{v:AV}{K:AV→Prop}(h:AA bs v K):K (v.ren0 (cE bs)):=by
 cases v<;>first|exact h|exact kZ (K:=fun b=>K (.ref b _ _)) h|exact kZ (K:=fun b=>K (.ptr b _ _)) h
theorem kG{F:AV→(AV→Prop)→Prop}{f:AV→AV}(hF: ∀v K,F v K→K (f v)): ∀{l:List AV}{K:List AV→Prop},rA F l K→K (l.map f)
 |[],K,h=>h
 |x::l,K,h=>kG hF (l:=l) (K:=fun l=>K (f x::l)) (hF x (fun x=>rA F l fun l=>K (x::l)) h)
theorem nW{bs:List (Nat × Nat)}{v:AV}{K:AV→Prop}(h:oX bs v K):K (v.ren1 (cE bs)):=by
 cases v<;>first|exact h|exact kZ (K:=fun b=>K (.ref b _ _)) h|exact kZ (K:=fun b=>K (.ptr b _ _)) h|exact kG (F:=AA bs) (f:=AV.ren0 (cE bs)) (fun _ _=>Ch) (K:=fun cs=>K (.fn _ cs)) h
theorem BB{bs:List (Nat × Nat)}{v:AV}{K:AV→Prop}(h:yh bs v K):K (v.renB (cE bs)):=by
 cases v with
 |agg cs=>exact kG (F:=oX bs) (f:=AV.ren1 (cE bs)) (fun _ _=>nW) (K:=fun cs=>K (.agg cs)) h
 |tup cs=>exact kG (F:=oX bs) (f:=AV.ren1 (cE bs)) (fun _ _=>nW) (K:=fun cs=>K (.tup cs)) h
 |_=>unfold yh at h;exact nW (K:=K) h
theorem uL{bs:List (Nat × Nat)}: ∀{l:List (List AV)}{K:List (List AV)→Prop},yp bs l K→K (l.map (List.map (AV.ren1 (cE bs))))
 |[],K,h=>h
 |x::l,K,h=>uL (l:=l) (K:=fun l=>K (x.map (AV.ren1 (cE bs))::l)) (kG (F:=oX bs) (f:=AV.ren1 (cE bs)) (fun _ _=>nW) (K:=fun x=>yp bs l fun l=>K (x::l)) h)
theorem Av{bs:List (Nat × Nat)}{m:MB}{K:MB→Prop}(h:zX bs m K):K (rL (cE bs) m):=by
 cases m with
 |abs=>exact h
 |dead=>exact h
 |live b=>
  obtain⟨arr,lvl,z,rows⟩:=b
  cases arr with
  |true=>exact h
  |false=>exact uL (K:=fun rows=>K (.live ⟨false,lvl,z,rows⟩)) h
theorem vE{bs:List (Nat × Nat)}{ts:Ts}: ∀{ks:List Nat}{K:Ts→Prop},qT bs ts ks K→K (ks.map fun k=>(k,(cX ts k).renB (cE bs)))
 |[],K,h=>h
 |k::ks,K,h=>vE (ks:=ks) (BB (K:=fun v=>qT bs ts ks fun l=>K ((k,v)::l)) (ij (K:=fun v=>yh bs v fun v=>qT bs ts ks fun l=>K ((k,v)::l)) h))
theorem uw{bs:List (Nat × Nat)}{ms:Ms}: ∀{l:List (Nat × Nat)}{K:Ms→Prop},ph bs ms l K→K (l.map fun p=>(p.1,rL (cE bs) (cd ms p.2)))
 |[],K,h=>h
 |(a,o)::l,K,h=>uw (l:=l) (Av (K:=fun m=>ph bs ms l fun l=>K ((a,m)::l)) (tS (K:=fun m=>zX bs m fun m=>ph bs ms l fun l=>K ((a,m)::l)) h))
theorem sO: ∀(ts:Ts),lw ts=cX ts
 |[]=>rfl
 |p::l=>by
  funext k
  simp only[lw,cX,sO l]
  split
  ·rename_i h;subst h;simp
  ·rename_i h
   split
   ·rename_i h2;exact absurd (jt h2) h
   ·rfl
theorem sg: ∀(ms:Ms)(d:MB),distinctB (ms.map (·.1))=true→ ∀k,lookM ms d k=if(ms.map (·.1)).contains k=true then cd ms k else d
 |[],d,_,k=>by simp[lookM]
 |p::l,d,h,k=>by
  simp only[List.map_cons,distinctB,Bool.and_eq_true,Bool.not_eq_true']at h
  simp only[lookM,cd,sg l _ h.2]
  by_cases hk:k=p.1
  ·subst hk
   simp only[h.1,if_true,List.map_cons,List.contains_cons,beq_self_eq_true,Bool.true_or,Bool.false_eq_true,if_false,Nat.beq_refl]
  ·have hb:Nat.beq k p.1=false:=by
    cases hb:Nat.beq k p.1
    ·rfl
    ·exact absurd (jt hb) hk
   have hb2:(k==p.1)=false:=by simpa using hk
   simp only[hk,if_false,List.map_cons,List.contains_cons,hb2,Bool.false_or,hb]
theorem vG: ∀(ms:Ms)(k:Nat),(ms.map (·.1)).contains k=false→cd ms k=.abs
 |[],k,_=>rfl
 |p::l,k,h=>by
  simp only[List.map_cons,List.contains_cons,Bool.or_eq_false_iff]at h
  simp only[cd]
  split
  ·rename_i h2;have:=jt h2;subst this;simp at h
  ·exact vG l k h.2
theorem G5(ts:Ts)(ms:Ms)(h:distinctB (ms.map (·.1))=true):({St.of n.n ts ms with an:=n.an}:St)=St.ls n ts ms:=by
 simp only[St.of,St.ls,St.mk.injEq,true_and,and_true]
 refine⟨sO ts,?_⟩
 funext k
 rw[sg ms .abs h]
 split
 ·rfl
 ·rename_i hc;exact(vG ms k (by simpa using hc)).symm
theorem keepV_mk{ks:List Nat}{bs:List (Nat × Nat)}{ts:Ts}{ms:Ms}{K:Ts→Ms→Prop}(h:yI n ks bs ts ms K):fT (St.ls n ts ms) ks bs=true∧ ∃ts' ms',(St.ls n ts ms).keepR ks bs=St.ls n ts' ms'∧K ts' ms':=by
 obtain⟨h1,h2⟩:=bD h
 have h2:=uw (vE (K:=fun ts'=>ph bs ms bs fun ms'=>K ts' ms') h2)
 refine⟨h1,_,_,?_,h2⟩
 have hd:distinctB (bs.map (·.1))=true:=by
  unfold fT at h1
  simp only[Bool.and_eq_true]at h1
  exact h1.1.1.1.1
 refine G5 _ _ ?_
 rw[List.map_map]
 exact hd
theorem sl{ks:List Nat}{bs:List (Nat × Nat)}{ts:Ts}{ms:Ms}{K:Ts→Ms→Prop}(h:BZ n ks bs ts ms K):fT (St.ls n ts ms) ks bs=true∧ ∃ts' ms',(St.ls n ts ms).keepR ks bs=St.ls n ts' ms'∧K ts' ms':=
 keepV_mk (n:=n) (by
  unfold yI okK
  rw[h.l]
  exact h.r)
theorem gO{an nm:List Nat}{bs:List (Nat × Nat)}{b:Nat}{K:KB}(h:nt an nm bs b K): ∃nm bs,K nm bs:=by
 unfold nt at h
 split at h
 ·exact⟨_,_,h⟩
 ·split at h
  ·exact h.elim
  ·split at h<;>exact⟨_,_,h⟩
theorem uQ{an nm:List Nat}{bs:List (Nat × Nat)}{v:AV}{K:KB}(h:xH an nm bs v K): ∃nm bs,K nm bs:=by
 unfold xH at h
 split at h
 ·exact gO h
 ·exact gO h
 ·exact⟨_,_,h⟩
theorem js{F:List Nat→List (Nat × Nat)→AV→KB→Prop}(hF: ∀nm bs v K,F nm bs v K→ ∃nm bs,K nm bs): ∀{l:List AV}{nm:List Nat}{bs:List (Nat × Nat)}{K:KB},qd F l nm bs K→ ∃nm bs,K nm bs
 |[],_,_,_,h=>⟨_,_,h⟩
 |x::l,nm,bs,K,h=>by
  obtain⟨nm,bs,h⟩:=hF _ _ _ _ h
  exact js hF h
theorem ln{an:List Nat}{ms:Ms}{nm:List Nat}{bs:List (Nat × Nat)}{v:AV}{K:KB}(h:qS an ms nm bs v K): ∃nm bs,K nm bs:=by
 unfold qS at h
 split at h
 ·exact gO h
 ·split at h
  ·exact⟨_,_,h⟩
  ·split at h
   ·split at h
    ·exact gO h
    ·split at h
     ·obtain⟨_,_,h⟩:=gO h
      exact js (fun _ _ _ _=>uQ) h
     ·exact gO h
   ·exact gO h
 ·exact js (fun _ _ _ _=>uQ) h
 ·exact⟨_,_,h⟩
theorem Az{an:List Nat}{ms:Ms}{nm:List Nat}{bs:List (Nat × Nat)}{v:AV}{K:KB}(h:Cn an ms nm bs v K): ∃nm bs,K nm bs:=by
 unfold Cn at h
 split at h
 ·exact js (fun _ _ _ _=>ln) h
 ·exact js (fun _ _ _ _=>ln) h
 ·exact js (fun _ _ _ _=>ln) h
 ·exact ln h
theorem qV{an:List Nat}{ms:Ms}: ∀{l nm:List Nat}{bs:List (Nat × Nat)}{K:KB},xL an ms l nm bs K→ ∃nm bs,K nm bs
 |[],_,_,_,h=>⟨_,_,h⟩
 |b::l,nm,bs,K,h=>by
  obtain⟨nm,bs,h⟩:=ln h
  exact qV h
theorem qO{an:List Nat}{ts:Ts}{ms:Ms}: ∀{l nm:List Nat}{bs:List (Nat × Nat)}{K:KB},xA an ts ms l nm bs K→ ∃nm bs,K nm bs
 |[],_,_,_,h=>⟨_,_,h⟩
 |k::l,nm,bs,K,h=>by
  obtain⟨nm,bs,h⟩:=Az h
  exact qO h
theorem sJ{ks:List Nat}{ts:Ts}{ms:Ms}{K:Ts→Ms→Prop}(h:wg n ks ts ms K): ∃bs,fT (St.ls n ts ms) ks bs=true∧ ∃ts' ms',(St.ls n ts ms).keepR ks bs=St.ls n ts' ms'∧K ts' ms':=by
 obtain⟨_,_,h⟩:=qV h
 obtain⟨_,_,h⟩:=qO h
 exact⟨_,sl (vY h)⟩
theorem E3{ks:List Nat}{ts:Ts}{ms:Ms}{K:Ts→Ms→Prop}(h:Lk n ks ts ms K): ∃bs,fT (St.ls n ts ms) ks bs=true∧ ∃ts' ms',(St.ls n ts ms).keepR ks bs=St.ls n ts' ms'∧K ts' ms':=by
 obtain⟨_,_,h⟩:=qV h
 obtain⟨_,_,h⟩:=qO h
 exact⟨_,sl (vY h)⟩
theorem WP.frz{c:Code}{Q:Ex→St→Prop}{ts:Ts}{ms:Ms}(k:Nat)(h:lz k ts ms fun ts ms=>WP P c Q (St.ls n ts ms)):WP P c Q (St.ls n ts ms):=by
 obtain⟨_,_,h1,h2⟩:=yN (n:=n) k h
 exact WP.weak h1 h2
theorem Ep{c:Code}{Q:Ex→St→Prop}{l:List Nat}{ts:Ts}{ms:Ms}{K:Ts→Ms→Prop}(h:uJ l ts ms K)(hk: ∀ts ms,K ts ms→WP P c Q (St.ls n ts ms)):WP P c Q (St.ls n ts ms):=by
 obtain⟨_,_,h1,h2⟩:=nG (n:=n) h
 exact WP.weak h1 (hk _ _ h2)
theorem A4{a b:Code}{Q:Ex→St→Prop}{ts:Ts}{ms:Ms}{K:Ts→Ms→Prop}(h:Am n a ts ms K)(hk: ∀ts ms,K ts ms→WP P b Q (St.ls n ts ms)):WP P b Q (St.ls n ts ms):=by
 unfold Am at h
 split at h
 ·split at h
  ·unfold EP at h
   split at h
   ·exact WP.pick [] (hk _ _ h)
   ·split at h
    ·obtain⟨bs,h1,ts',ms',h2,h3⟩:=E3 h
     refine WP.keepR _ bs ⟨h1,?_⟩
     rw[h2]
     exact hk _ _ h3
    ·split at h
     ·exact Ep h hk
     ·exact WP.pick _ (hk _ _ (ur (K:=fun ts=>K ts ms) h))
  ·exact hk _ _ h
 ·exact hk _ _ h
theorem ld(hT:T.ok P)(hm:P.follows .mixedOrders=true): ∀{c:Code}{Q:Ex→Ts→Ms→Prop}{ts:Ts}{ms:Ms},ev P T n c Q ts ms→WP P c (QL n Q) (St.ls n ts ms)
 | .skip,Q,ts,ms,h=>WP.skip ⟨ts,ms,rfl,h⟩
 | .label _,Q,ts,ms,h=>WP.label ⟨ts,ms,rfl,h⟩
 | .ret,Q,ts,ms,h=>WP.ret ⟨ts,ms,rfl,h⟩
 | .exit id,Q,ts,ms,h=>WP.exit ⟨ts,ms,rfl,h⟩
 | .seq a b,Q,ts,ms,h=>by
  unfold ev at h
  refine WP.seq ((ld hT hm (c:=a) h).mono fun e st hq=> ?_)
  obtain⟨ts',ms',rfl,hq⟩:=hq
  cases e with
  |normal=>exact A4 hq fun ts ms h=>ld hT hm (c:=b) h
  |exit i=>exact⟨_,_,rfl,hq⟩
  |ret=>exact⟨_,_,rfl,hq⟩
 | .block id c,Q,ts,ms,h=>by
  unfold ev at h
  refine WP.block ((ld hT hm (c:=c) h).mono fun e st hq=> ?_)
  obtain⟨ts',ms',rfl,hq⟩:=hq
  cases e with
  |normal=>exact⟨_,_,rfl,hq⟩
  |exit i=>
   simp only[Bc]at hq
   simp only[wN]
   split at hq
   ·rename_i hi;rw[if_pos (jt hi)];exact⟨_,_,rfl,hq⟩
   ·rename_i hi;rw[if_neg (xx hi)];exact⟨_,_,rfl,hq⟩
  |ret=>exact⟨_,_,rfl,hq⟩
 | .cond c x y,Q,ts,ms,h=>by
  unfold ev at h
  refine WP.cond (runK_mono (dy h) fun v hv=> ?_)
  split at hv
  ·rename_i b
   have hst: ∀b,ul (St.ls n ts ms) c b=St.ls n (Ey c b ts) ms:=fun b=>by
    cases c<;>first|rfl|exact iQ _ _ _ _
   have hcv: ∀b(K:Ts→Prop),Cq c b ts K→K (Ey c b ts):=fun b K h=>by cases c<;>exact h
   refine⟨fun e=> ?_,fun e=> ?_⟩
   ·rw[hst];exact ld hT hm (c:=x) (hcv _ _ (hv.1 e))
   ·rw[hst];exact ld hT hm (c:=y) (hcv _ _ (hv.2 e))
  ·exact hv.elim
 | .region id ops draw,Q,ts,ms,h=>by
  unfold ev at h
  refine WP.postF ?_
  have fin: ∀s,KL n (fun ts ms=>xj ops.toList ts ms (Q .normal ts ms)) s→s.Facts→QL n Q .normal s:=by
   rintro s ⟨ts,ms,rfl,h⟩ hf
   exact⟨ts,ms,rfl,nC hf.1 hf.2 h⟩
  cases draw with
  |false=>
   refine WP.region hT fun K hK=> ?_
   have: ∀(l:List Oper)(st:St)(K K':St→Prop),vg P T ops.toList l st K→(∀s,K s→K' s)→vg P T ops.toList l st K':=by
    intro l
    induction l with
    |nil=>intro st K K' h hk;exact hk _ h
    |cons o l ih=>intro st K K' h hk;exact ri h fun s ⟨s',h1,hs⟩=>⟨s',h1,ih s' K K' hs hk⟩
   exact this _ _ _ _ (xZ h) fun s hs=>hK s (fin s hs)
  |true=>
   refine WP.mono (Q:=fun e s=>match e with| .normal=>KL n (fun ts ms=>xj ops.toList ts ms (Q .normal ts ms)) s|_=>False) ?_ fun e s hs=> ?_
   ·exact WP.draw hT hm rfl _ h.1 (uY (past:=[]) (i:=0) (yk h.2))
   ·cases e with
    |normal=>exact fin s hs
    |_=>exact hs.elim
 | .loop c,Q,ts,ms,h=>h.wp
 | .rangeFunc _ _ _ _,Q,ts,ms,h=>h.elim
 | .scope _,Q,ts,ms,h=>h.elim
 | .goto _,Q,ts,ms,h=>h.elim
 | .refuse _,Q,ts,ms,h=>h.elim
theorem nl{l ms:Ms}{K:Ms→Prop}(h:vT l ms K): ∃ms',(∀(n:Fx)(ts:Ts),(St.ls n ts ms).mws l=St.ls n ts ms')∧K ms':=by
 induction l generalizing ms with
 |nil=>exact⟨ms,fun _ _=>rfl,h⟩
 |cons p l ih=>
  have h:=tS h
  obtain⟨ms',h1,h2⟩:=ih h
  refine⟨ms',fun n ts=> ?_,h2⟩
  rw[←h1]
  show St.mws {St.ls n ts ms with m:=bi (St.ls n ts ms).m p.1 p.2} l=_
  rw[kq]
theorem po{x:AV}{ts:Ts}{ms:Ms}{K:AV→Ms→Prop}(h:mX x ts ms K):(dr x).runK (St.ls n ts ms) fun p=> ∃ms',(St.ls n ts ms).mws p.2=St.ls n ts ms'∧K p.1 ms':=
 runK_mono (dy h) fun p hp=>by
  obtain⟨y,l⟩:=p
  obtain⟨ms',h1,h2⟩:=nl hp
  exact⟨ms',h1 _ _,h2⟩
theorem mh: ∀{l:List AV}{ts:Ts}{ms:Ms}{K:List AV→Ms→Prop}{K':List AV→St→Prop},mM l ts ms K→(∀ys ms,K ys ms→K' ys (St.ls n ts ms))→cD l (St.ls n ts ms) K'
 |[],ts,ms,K,K',h,hk=>hk _ _ h
 |x::l,ts,ms,K,K',h,hk=>runK_mono (po h) fun p hp=>by
  obtain⟨ms',h1,h2⟩:=hp
  rw[h1]
  exact mh h2 fun ys ms h=>hk _ _ h
theorem jC{x:AV}{ts:Ts}{ms:Ms}{K:AV→Ms→Prop}{K':AV→St→Prop}(h:lH x ts ms K)(hk: ∀y ms,K y ms→K' y (St.ls n ts ms)):jH x (St.ls n ts ms) K':=by
 have base:mX x ts ms K→(dr x).runK (St.ls n ts ms) fun p=>K' p.1 ((St.ls n ts ms).mws p.2):=fun h=>runK_mono (po h) fun p hp=>by
  obtain⟨ms',h1,h2⟩:=hp
  rw[h1]
  exact hk _ _ h2
 cases x with
 |agg cs=>exact mh h fun ys ms h=>hk _ _ h
 |ptr b i j=>
  unfold lH at h
  simp only at h
  split at h
  case h_2=>exact h.elim
  split at h
  case h_2=>exact h.elim
  split at h
  case h_2=>exact h.elim
  rename_i arr lvl z rows hm
  split at h
  case h_2=>exact h.elim
  split at h
  case h_2=>exact h.elim
  rename_i row
  obtain⟨h1,h2⟩:=bD h
  have hm':(St.ls n ts ms).m b=.live ⟨false,lvl,z,[row]⟩:=hm
  simp only[jH,hm']
  refine⟨h1,?_⟩
  have e:(St.ls n ts ms).mws [(b,.dead)]=St.ls n ts ((b,.dead)::ms):=by
   show{St.ls n ts ms with m:=bi (St.ls n ts ms).m b .dead}=_
   rw[kq]
  rw[e]
  refine gy h2 fun ys ms h=> ?_
  obtain⟨h3,h4⟩:=bD h
  exact⟨h3,hk _ _ h4⟩
 |_=>exact base h
theorem iG: ∀{l:List AV}{ts:Ts}{ms:Ms}{K:List AV→Ms→Prop}{K':List AV→St→Prop},kK l ts ms K→(∀ys ms,K ys ms→K' ys (St.ls n ts ms))→kY l (St.ls n ts ms) K'
 |[],ts,ms,K,K',h,hk=>hk _ _ h
 |x::l,ts,ms,K,K',h,hk=>jC h fun y ms h=>iG h fun ys ms h=>hk _ _ h
theorem yD{rs:List ResultVar}{res:AV}{ts:Ts}{ms:Ms}(h:Ge T rs res ts ms):B7 T rs res (St.ls n ts ms):=
 runK_mono (dy h) fun xs hx=>by
  unfold Gp
  split at hx
  ·exact jC hx fun y ms h=>(so (K:=fun y=>ShG y res) h).s
  ·rename_i hc
   split
   ·rename_i x;exact absurd rfl (hc x)
   ·exact iG hx fun ys ms h=>(so (K:=fun y=>ShG y res) h).s
theorem oa: ∀{l:List AV}{ks:List Nat}{K:Ts→Prop}(k m:Nat),ks=List.range' k m→B6 ks l K→ ∃ts,(∀j,cX ts j=if k≤j then l.getD (j-k) .undef else .undef)∧K ts
 |[],ks,K,k,m,hk,h=>by
  have:K []:=by cases ks<;>exact h
  exact⟨[],fun j=>by simp[cX],this⟩
 |x::l,[],K,k,m,hk,h=>h.elim
 |x::l,k'::ks,K,k,m,hk,h=>by
  cases m with
  |zero=>simp at hk
  |succ m=>
  rw[List.range'_succ]at hk
  injection hk with hk1 hk2
  subst hk1
  obtain⟨ts,h1,h2⟩:=oa (l:=l) (k'+1) m hk2 (ij (K:=fun x=>B6 ks l fun ts=>K ((k',x)::ts)) h)
  refine⟨_,fun j=> ?_,h2⟩
  simp only[cX]
  split
  ·rename_i hj;rw[jt hj];simp
  ·rename_i hj
   have:=xx hj
   rw[h1]
   by_cases h3:k'+1≤j
   ·rw[if_pos h3,if_pos (by omega)]
    obtain⟨m,rfl⟩: ∃m,j=k'+1+m:=⟨j-(k'+1),by omega⟩
    rw[show k'+1+m-(k'+1)=m by omega,show k'+1+m-k'=m+1 by omega]
    simp
   ·rw[if_neg h3,if_neg (by omega)]
theorem ql{n:Nat}{xs vs:List AV}{l:List (Nat × MB)}{ts:Ts}{ms:Ms}(hvl:bV e0 xs=(vs,l))(h1: ∀j,cX ts j=if 0≤j then vs.getD (j-0) .undef else .undef)
  (h3: ∀(n:Fx)(ts:Ts),(St.ls n ts []).mws l=St.ls n ts ms):enter n xs=St.ls ⟨n,[],[]⟩ ts ms:=by
 unfold enter
 rw[hvl]
 simp only
 have h5:(St.mws (St.ls ⟨n,[],[]⟩ ts []) l)=St.ls ⟨n,[],[]⟩ ts ms:=h3 _ ts
 have h6: ∀(l:List (Nat × MB))(s s':St),s.m=s'.m→(s.mws l).m=(s'.mws l).m:=by
  intro l
  induction l with
  |nil=>intro s s' h;exact h
  |cons p l ih=>intro s s' h;exact ih _ _ (by simp only[h])
 have h7:(St.mws ⟨n,fun _=>.undef,fun _=>.abs,[]⟩ l).m=cd ms:=by
  have:=congrArg St.m h5
  rw[show cd ms=(St.ls ⟨n,[],[]⟩ ts ms).m from rfl,←this]
  exact h6 _ _ _ (by funext k;rfl)
 simp only[St.ls,St.mk.injEq]
 refine⟨by rw[fE],?_,h7,by rw[oq]⟩
 funext k
 rw[h1]
 simp
theorem pQ{st:St}{ms:Ms}(hm:st.m=cd ms): ∀{hs:List (Option Nat)}{as os:List AV}{X:Prop},xd ms hs as os X→CV st hs as os∧X
 |[],[],[],X,h=>⟨trivial,h⟩
 |[],[],_::_,X,h=>h.elim
 |[],_::_,[],X,h=>h.elim
 |[],_::_,_::_,X,h=>h.elim
 |none::hs,[],[],X,h=>h.elim
 |none::hs,[],_::_,X,h=>h.elim
 |some b::hs,[],[],X,h=>h.elim
 |some b::hs,[],_::_,X,h=>h.elim
 |none::hs,x::as,[],X,h=>h.elim
 |some b::hs,x::as,[],X,h=>h.elim
 |none::hs,x::as,o::os,X,h=>by
  obtain⟨h1,h2⟩:=bD h
  obtain⟨h3,h4⟩:=pQ hm h2
  refine⟨⟨?_,h3⟩,h4⟩
  cases o<;>first|rfl|simp[AV.isUndef]at h1
 |some b::hs,x::as,o::os,X,h=>by
  obtain⟨h1,h2⟩:=bD h
  have h1:(ed hs).contains b=false:=by simpa using h1
  split at h2
  ·rename_i arr lvl z rows hb
   split at h2
   ·obtain⟨h3,h4,h5⟩:=h2
    obtain⟨h6,h7⟩:=pQ hm h5
    exact⟨⟨⟨lvl,z,rows,by rw[hm];exact hb,h3,h4⟩,h1,h6⟩,h7⟩
   ·exact h2.elim
  ·exact h2.elim
theorem nZ{rs:List ResultVar}{res:AV}{hs:List (Option Nat)}{as os:List AV}{ts:Ts}{ms:Ms}(h:Ba T rs res hs as os ts ms)(hn:n.an=ed hs):qH T rs res (fun st=>CV st hs as os∧st.an=ed hs) (St.ls n ts ms):=
 runK_mono (dy h) fun xs hx=>by
  unfold yK
  split at hx
  ·refine jC hx fun y ms h=> ?_
   obtain⟨h1,h2⟩:=pQ (st:=St.ls n ts ms) rfl (so (K:=fun y=>xd ms hs as os (ShG y res)) h)
   exact⟨h2.s,h1,hn⟩
  ·rename_i hc
   split
   ·rename_i x;exact absurd rfl (hc x)
   ·refine iG hx fun ys ms h=> ?_
    obtain⟨h1,h2⟩:=pQ (st:=St.ls n ts ms) rfl (so (K:=fun y=>xd ms hs as os (ShG y res)) h)
    exact⟨h2.s,h1,hn⟩
theorem Con.evK(kp:List (Nat × List Nat)){f:FuncId}{fn:Func}{c:Code}{xs:List AV}{res:AV}(n:Nat)(hT:T.ok P)(hm:P.follows .mixedOrders=true)(hf:P.funcs[f]? =some fn)(hn:(fn.name== "runtime.NumGoroutine")=false)(hb:fn.body=some c)
  (hok:xs.all cN=true)(hnn:xs.length+(fn.ntmps-xs.length)=n)(rs:List ResultVar)(hrs:fn.results.toList=rs)
  (h:iM xs fun ts ms=>ev P T ⟨n,[],kp⟩ c (uU T rs res) ts ms):Con P f xs (aa xs) res:=by
 refine Con.of_WP hT hf hn hb hok ?_
 rw[hnn,hrs]
 unfold iM at h
 split at h
 rename_i vs l hvl
 obtain⟨ts,h1,h2⟩:=oa 0 20 rfl h
 obtain⟨ms,h3,h4⟩:=nl h2
 have:enter n xs=St.ls ⟨n,[],kp⟩ ts ms:=ql hvl h1 h3
 rw[this]
 refine(ld hT hm h4).mono fun e st hq=> ?_
 obtain⟨ts',ms',rfl,hq⟩:=hq
 cases e with
 |ret=>exact yD hq
 |normal=>exact yD hq
 |exit i=>exact hq.elim
theorem Con.ev{f:FuncId}{fn:Func}{c:Code}{xs:List AV}{res:AV}(n:Nat)(hT:T.ok P)(hm:P.follows .mixedOrders=true)(hf:P.funcs[f]? =some fn)(hn:(fn.name== "runtime.NumGoroutine")=false)(hb:fn.body=some c)
  (hok:xs.all cN=true)(hnn:xs.length+(fn.ntmps-xs.length)=n)(rs:List ResultVar)(hrs:fn.results.toList=rs)
  (h:iM xs fun ts ms=>ev P T ⟨n,[],[]⟩ c (uU T rs res) ts ms):Con P f xs (aa xs) res:=
 Con.evK [] n hT hm hf hn hb hok hnn rs hrs h
theorem Con.evM{f:FuncId}{fn:Func}{c:Code}{xs os:List AV}{res:AV}(n:Nat)(fls:List Bool)(hs:List (Option Nat))(an:List Nat)(hhs:fM e0 fls xs=hs)(han:ed hs=an)(hfl:fls.length=xs.length)(hT:T.ok P)(hm:P.follows .mixedOrders=true)
  (hf:P.funcs[f]? =some fn)(hn:(fn.name== "runtime.NumGoroutine")=false)(hb:fn.body=some c)
  (hok:xs.all cN=true)(hnn:xs.length+(fn.ntmps-xs.length)=n)(rs:List ResultVar)(hrs:fn.results.toList=rs)
  (h:iM xs fun ts ms=>okK (an.all fun b=> !fN (cd ms b)) (Go.Abs.ev P T ⟨n,an,[]⟩ c (AL T rs res hs xs os) ts ms)):Con P f xs os res:=by
 subst hhs han
 unfold iM at h
 split at h
 rename_i vs l hvl
 obtain⟨ts,h1,h2⟩:=oa 0 20 rfl h
 obtain⟨ms,h3,h4⟩:=nl h2
 obtain⟨h5,h6⟩:=bD h4
 have hent:=ql (n:=n) hvl h1 h3
 refine Con.of_WPA hT fls hfl hf hn hb hok (fun b hb=> ?_) ?_
 ·rw[hnn,hent]
  have:=List.all_eq_true.1 h5 b hb
  intro hm
  have hm:cd ms b=.abs:=hm
  rw[hm]at this
  simp[fN]at this
 ·rw[hnn,hrs]
  have:jB n xs (ed (fM e0 fls xs))=St.ls ⟨n,ed (fM e0 fls xs),[]⟩ ts ms:=by
   unfold jB
   rw[hent]
   rfl
  rw[this]
  refine(ld hT hm h6).mono fun e st hq=> ?_
  obtain⟨ts',ms',rfl,hq⟩:=hq
  cases e with
  |ret=>exact nZ hq rfl
  |normal=>exact nZ hq rfl
  |exit i=>exact hq.elim
theorem Con.evH{f:FuncId}{fn:Func}{c:Code}{cs rest os:List AV}{res:AV}(n:Nat)(hs:List (Option Nat))(an:List Nat)(hhs:ie e0 cs=hs)(han:ed hs=an)(hT:T.ok P)(hm:P.follows .mixedOrders=true)
  (hf:P.funcs[f]? =some fn)(hn:(fn.name== "runtime.NumGoroutine")=false)(hb:fn.body=some c)
  (hok:(AV.agg cs::rest).all cN=true)(hnn:(AV.agg cs::rest).length+(fn.ntmps-(AV.agg cs::rest).length)=n)(rs:List ResultVar)(hrs:fn.results.toList=rs)
  (h:iM (.agg cs::rest) fun ts ms=>okK (an.all fun b=> !fN (cd ms b)) (Go.Abs.ev P T ⟨n,an,[]⟩ c (AL T rs res hs cs os) ts ms)):Con P f (.agg cs::rest) (.agg os::aa rest) res:=by
 subst hhs han
 unfold iM at h
 split at h
 rename_i vs l hvl
 obtain⟨ts,h1,h2⟩:=oa 0 20 rfl h
 obtain⟨ms,h3,h4⟩:=nl h2
 obtain⟨h5,h6⟩:=bD h4
 have hent:=ql (n:=n) hvl h1 h3
 refine Con.of_WPH hT hf hn hb hok (fun b hb=> ?_) ?_
 ·rw[hnn,hent]
  have:=List.all_eq_true.1 h5 b hb
  intro hm
  have hm:cd ms b=.abs:=hm
  rw[hm]at this
  simp[fN]at this
 ·rw[hnn,hrs]
  have:jB n (.agg cs::rest) (ed (ie e0 cs))=St.ls ⟨n,ed (ie e0 cs),[]⟩ ts ms:=by
   unfold jB
   rw[hent]
   rfl
  rw[this]
  refine(ld hT hm h6).mono fun e st hq=> ?_
  obtain⟨ts',ms',rfl,hq⟩:=hq
  cases e with
  |ret=>exact nZ hq rfl
  |normal=>exact nZ hq rfl
  |exit i=>exact hq.elim
theorem yV{n:Nat}{xs vs:List AV}{l:List (Nat × MB)}{ts:Ts}{ms:Ms}{an:List Nat}(hvl:dP e0 xs=(vs,l))(h1: ∀j,cX ts j=if 0≤j then vs.getD (j-0) .undef else .undef)
  (h3: ∀(n:Fx)(ts:Ts),(St.ls n ts []).mws l=St.ls n ts ms):kr n xs an=St.ls ⟨n,an,[]⟩ ts ms:=by
 unfold kr
 rw[hvl]
 simp only
 have h5:(St.mws (St.ls ⟨n,[],[]⟩ ts []) l)=St.ls ⟨n,[],[]⟩ ts ms:=h3 _ ts
 have h6: ∀(l:List (Nat × MB))(s s':St),s.m=s'.m→(s.mws l).m=(s'.mws l).m:=by
  intro l
  induction l with
  |nil=>intro s s' h;exact h
  |cons p l ih=>intro s s' h;exact ih _ _ (by simp only[h])
 have h7:(St.mws ⟨n,fun _=>.undef,fun _=>.abs,[]⟩ l).m=cd ms:=by
  have:=congrArg St.m h5
  rw[show cd ms=(St.ls ⟨n,[],[]⟩ ts ms).m from rfl,←this]
  exact h6 _ _ _ (by funext k;rfl)
 simp only[St.ls,St.mk.injEq]
 refine⟨by rw[fE],?_,h7,trivial⟩
 funext k
 rw[h1]
 simp
theorem nh{ts:Ts}: ∀{as os:List AV}{b:Nat}{ms:Ms},nz b as os ms→mn b as os (St.ls n ts ms)
 |[],[],b,ms,h=>trivial
 |[],_::_,b,ms,h=>h.elim
 |_::_,[],b,ms,h=>h.elim
 |x::as,o::os,b,ms,h=>by
  cases x with
  |obj cs0=>
   unfold nz at h
   have ho: ∃cs,o=.obj cs:=by cases o<;>first|exact h.elim|exact⟨_,rfl⟩
   obtain⟨cs,rfl⟩:=ho
   simp only at h
   split at h
   case h_2=>exact h.elim
   rename_i arr lvl z rows hm
   split at h
   case h_2=>exact h.elim
   split at h
   case h_2=>exact h.elim
   rename_i row
   obtain⟨h1,h2⟩:=bD h
   have hm':(St.ls n ts ms).m b=.live ⟨false,lvl,z,[row]⟩:=hm
   simp only[mn,hm']
   refine⟨h1,?_⟩
   have e:(St.ls n ts ms).mws [(b,.dead)]=St.ls n ts ((b,.dead)::ms):=by
    show{St.ls n ts ms with m:=bi (St.ls n ts ms).m b .dead}=_
    rw[kq]
   rw[e]
   refine gy h2 fun ys ms h=> ?_
   have h:=cQ (fun _ _=>tR) h
   exact⟨h.s,nh (as:=as) (os:=os) h.k⟩
  |_=>
   unfold nz at h
   cases o<;>first|exact h.elim|exact⟨rfl,nh (as:=as) (os:=os) h⟩
theorem vb{rs:List ResultVar}{res:AV}{b:Nat}{as os:List AV}{ts:Ts}{ms:Ms}(h:BV T rs res b as os ts ms):qH T rs res (fun st=>mn b as os st∧st.an=n.an) (St.ls n ts ms):=
 runK_mono (dy h) fun xs hx=>by
  unfold yK
  split at hx
  ·refine jC hx fun y ms h=> ?_
   have h:=so (K:=fun y=>AftPG y res (nz b as os ms)) h
   exact⟨h.s,nh h.k,rfl⟩
  ·rename_i hc
   split
   ·rename_i x;exact absurd rfl (hc x)
   ·refine iG hx fun ys ms h=> ?_
    have h:=so (K:=fun y=>AftPG y res (nz b as os ms)) h
    exact⟨h.s,nh h.k,rfl⟩
theorem Con.evPK(kp:List (Nat × List Nat)){f:FuncId}{fn:Func}{c:Code}{xs os:List AV}{res:AV}(n:Nat)(an:List Nat)(han:eq e0 xs=an)(hT:T.ok P)(hm:P.follows .mixedOrders=true)
  (hf:P.funcs[f]? =some fn)(hn:(fn.name== "runtime.NumGoroutine")=false)(hb:fn.body=some c)
  (hok:xs.all fe=true)(hnn:xs.length+(fn.ntmps-xs.length)=n)(rs:List ResultVar)(hrs:fn.results.toList=rs)
  (h:pP xs fun ts ms=>okK (an.all fun b=> !fN (cd ms b)) (Go.Abs.ev P T ⟨n,an,kp⟩ c (wX T rs res e0 xs os) ts ms)):Con P f xs os res:=by
 subst han
 unfold pP at h
 split at h
 rename_i vs l hvl
 obtain⟨ts,h1,h2⟩:=oa 0 20 rfl h
 obtain⟨ms,h3,h4⟩:=nl h2
 obtain⟨h5,h6⟩:=bD h4
 have hent:=yV (n:=n) (an:=eq e0 xs) hvl h1 h3
 refine Con.of_coreP hT hf hn hb hok (fun b hb=> ?_) ?_
 ·rw[hnn,hent]
  have:=List.all_eq_true.1 h5 b hb
  intro hm
  have hm:cd ms b=.abs:=hm
  rw[hm]at this
  simp[fN]at this
 ·rw[hnn,hrs,hent]
  refine(ld hT hm h6).mono fun e st hq=> ?_
  obtain⟨ts',ms',rfl,hq⟩:=hq
  cases e with
  |ret=>exact vb hq
  |normal=>exact vb hq
  |exit i=>exact hq.elim
theorem Con.evP{f:FuncId}{fn:Func}{c:Code}{xs os:List AV}{res:AV}(n:Nat)(an:List Nat)(han:eq e0 xs=an)(hT:T.ok P)(hm:P.follows .mixedOrders=true)
  (hf:P.funcs[f]? =some fn)(hn:(fn.name== "runtime.NumGoroutine")=false)(hb:fn.body=some c)
  (hok:xs.all fe=true)(hnn:xs.length+(fn.ntmps-xs.length)=n)(rs:List ResultVar)(hrs:fn.results.toList=rs)
  (h:pP xs fun ts ms=>okK (an.all fun b=> !fN (cd ms b)) (Go.Abs.ev P T ⟨n,an,[]⟩ c (wX T rs res e0 xs os) ts ms)):Con P f xs os res:=
 Con.evPK [] n an han hT hm hf hn hb hok hnn rs hrs h
end
end Go.Abs

/- The abstract layer, 31: loops in the quick walk; tables. -/
noncomputable section
namespace Go.Abs
open Go
structure HeadG{α:Type}(S:α→Ts)(M:α→Ms)(J:α→Prop)(ts:Ts)(ms:Ms):Prop where
 ex: ∃a,J a∧ts=S a∧ms=M a
def FF{α:Type}(n:Fx)(ks:List Nat)(bs:List (Nat × Nat))(S:α→Ts)(M:α→Ms)(J:α→Prop)(Q:Ex→Ts→Ms→Prop):Ex→Ts→Ms→Prop
 | .normal,ts,ms=>yI n ks bs ts ms (HeadG S M J)
 | .exit i,ts,ms=>Q (.exit i) ts ms
 | .ret,ts,ms=>Q .ret ts ms
def D3{α:Type}(n:Fx)(ks:List Nat)(S:α→Ts)(M:α→Ms)(J:α→Prop)(Q:Ex→Ts→Ms→Prop):Ex→Ts→Ms→Prop
 | .normal,ts,ms=>wg n ks ts ms (HeadG S M J)
 | .exit i,ts,ms=>Q (.exit i) ts ms
 | .ret,ts,ms=>Q .ret ts ms
section
variable{P:Program}{T:TT}{n:Fx}
theorem LoopG.rounds{α:Type}(hT:T.ok P)(hm:P.follows .mixedOrders=true){c:Code}{Q:Ex→Ts→Ms→Prop}{ts:Ts}{ms:Ms}(ks:List Nat)(bs:List (Nat × Nat))(S:α→Ts)(M:α→Ms)(J:α→Prop)(μ:α→Nat)
  (h0:yI n ks bs ts ms (HeadG S M J))(hs: ∀a,J a→(∀k d,(cX (S a) k).facts d)→(∀b d,(cd (M a) b).facts d)→ev P T n c (FF n ks bs S M (fun b=>J b∧μ b<μ a) Q) (S a) (M a)):LoopG P c (QL n Q) (St.ls n ts ms):=by
 refine⟨?_⟩
 obtain⟨h1,ts',ms',h2,a,h3,rfl,rfl⟩:=keepV_mk (n:=n) h0
 refine WP.keepR ks bs ⟨h1,?_⟩
 rw[h2]
 refine WP.rounds ks bs (fun m st=> ∃a,J a∧μ a=m∧st=St.ls n (S a) (M a)) (μ a) ⟨a,h3,rfl,rfl⟩ ?_
 rintro m st ⟨a,ha,rfl,rfl⟩
 refine WP.preF fun hF=>(ld hT hm (hs a ha hF.1 hF.2)).mono fun e st hq=> ?_
 obtain⟨ts,ms,rfl,hq⟩:=hq
 cases e with
 |normal=>
  obtain⟨h1,ts',ms',h2,b,⟨h3,h4⟩,rfl,rfl⟩:=keepV_mk (n:=n) hq
  refine⟨h1,μ b,h4,b,h3,rfl,h2⟩
 |exit i=>exact⟨_,_,rfl,hq⟩
 |ret=>exact⟨_,_,rfl,hq⟩
theorem LoopG.auto{α:Type}(hT:T.ok P)(hm:P.follows .mixedOrders=true){c:Code}{Q:Ex→Ts→Ms→Prop}{ts:Ts}{ms:Ms}(ks:List Nat)(S:α→Ts)(M:α→Ms)(J:α→Prop)(μ:α→Nat)
  (h0:wg n ks ts ms (HeadG S M J))(hs: ∀a,J a→(∀k d,(cX (S a) k).facts d)→(∀b d,(cd (M a) b).facts d)→ev P T n c (D3 n ks S M (fun b=>J b∧μ b<μ a) Q) (S a) (M a)):LoopG P c (QL n Q) (St.ls n ts ms):=by
 refine⟨?_⟩
 obtain⟨bs,h1,ts',ms',h2,a,h3,rfl,rfl⟩:=sJ (n:=n) h0
 refine WP.loop (fun m st=> ∃bs,fT st ks bs=true∧ ∃a,J a∧μ a=m∧st.keepR ks bs=St.ls n (S a) (M a)) (μ a) ⟨bs,h1,a,h3,rfl,h2⟩ ?_
 rintro m st ⟨bs,h1,a,ha,rfl,h2⟩
 refine WP.keepR ks bs ⟨h1,?_⟩
 rw[h2]
 refine WP.preF fun hF=>(ld hT hm (hs a ha hF.1 hF.2)).mono fun e st hq=> ?_
 obtain⟨ts,ms,rfl,hq⟩:=hq
 cases e with
 |normal=>
  obtain⟨bs,h1,ts',ms',h2,b,⟨h3,h4⟩,rfl,rfl⟩:=sJ (n:=n) hq
  exact⟨μ b,h4,bs,h1,b,h3,rfl,h2⟩
 |exit i=>exact⟨_,_,rfl,hq⟩
 |ret=>exact⟨_,_,rfl,hq⟩
theorem bL{b:Bool}{X Y:Prop}(h:b=true)(x:X):BrS b X Y:=⟨fun _=>x,fun h'=>Bool.noConfusion (h.symm.trans h')⟩
theorem aJ{b:Bool}{X Y:Prop}(h:b=false)(y:Y):BrS b X Y:=⟨fun h'=>Bool.noConfusion (h.symm.trans h'),fun _=>y⟩
theorem cm{b:Bool}{X Y:Prop}(x:b=true→X)(y:b=false→Y):BrS b X Y:=⟨x,y⟩
theorem aU{a b:Bool}(h1:a=true)(h2:b=true):(a&&b)=true:=by rw[h1,h2];rfl
theorem ac{b:Bool}{X:Prop}(h:b=true)(x:X):RqS b X:=⟨h,x⟩
theorem aA{x y:AV}(h:x=y):ShG x y:=⟨h▸Sh.refl x⟩
theorem aH{row row':List AV}{K:List AV→Prop}(h:row=row')(k:K row'):RowG row K:=⟨row',h,k⟩
theorem af{rows rows':List (List AV)}{K:List (List AV)→Prop}(h:rows=rows')(k:K rows'):RowsG rows K:=⟨rows',h,k⟩
theorem ak{rows:List (List AV)}{n:Nat}(h:n=rows.length):am rows 0 n=rows:=by subst h;simp[am]
theorem mj{rows:List (List AV)}{b:List UInt8}{K:List UInt8→Prop}(h:cI rows=some b)(k:K b):BytG rows K:=⟨b,h,k⟩
theorem cg{K:Nat→List (List AV)→Nat→Prop}{lvl:Nat}{rows:List (List AV)}{n:Nat}(k:K lvl rows n):AppG lvl rows n K:=⟨_,_,_,rfl,rfl,rfl,k⟩
theorem ag{f:FuncId}{as:List AV}{K:AV→Prop}{res:AV}(h:Con P f as (aa as) res)(k:K res):CallG P f as K:=⟨res,h,k⟩
theorem aB{f:FuncId}{L A:Prop}{H:Nat→Prop}(h:L):CallX f L H A:=.lend h
theorem mP(f:FuncId)(j:Nat){L A:Prop}{H:Nat→Prop}(h:H j):CallX f L H A:=.hand j h
theorem iE(f:FuncId){L A:Prop}{H:Nat→Prop}(h:A):CallX f L H A:=.handA h
theorem gj{f:FuncId}{gv:Gv}{args ys os:List AV}{K:List AV→AV→Prop}{os':List AV}{res:AV}(h:Con P f (.agg args::ys) (.agg os'::os) res)(h1:ox gv os')(k:K os' res):HandAG P f gv args ys os K:=⟨os',res,h,h1,k⟩
theorem jL{f:FuncId}{as os:List AV}{j:Nat}{rows:List (List AV)}{z:List AV}{any:Bool}{K:MB→AV→Prop}{lvl':Nat}{z':List AV}{rows':List (List AV)}{res:AV}(h:Con P f as (os.set j (.own lvl' z' rows')) res)
  (h1:rows'.length=rows.length)(h2:(Nat.beq z'.length z.length&&Nat.ble lvl' 1)=true)(h3:(!any||(res.nr&&lvl'==0))=true)(k:K (.live ⟨true,lvl',z',rows'⟩) res):HandG P f as os j rows z any K:=⟨lvl',z',rows',res,h,h1,h2,h3,k⟩
theorem ax(f:FuncId)(fs:List (Option Nat)){H:List (Option Nat)→Prop}(h:H fs):HandPX f H:=⟨fs,h⟩
theorem bz{f:FuncId}{as as':List AV}{K:List AV→AV→Prop}{os:List AV}{res:AV}(e:as=as')(h:Con P f as' os res)(k:K os res):CallPG P f as K:=⟨as',os,res,e,h,k⟩
theorem bo{f:FuncId}{as as':List AV}{K:List AV→AV→Prop}(e:as=as')(h:CallPG P f as' K):CallPG P f as K:=e▸h
theorem bg{x y:AV}{l l':List AV}(h:x=y)(h2:l=l'):x::l=y::l':=by rw[h,h2]
theorem bU{l l':List AV}(h:l=l'):AV.obj l=AV.obj l':=by rw[h]
theorem bE{l l':List AV}(h:l=l'):AV.agg l=AV.agg l':=by rw[h]
theorem bB{n:Nat}{z:List AV}{r r':List (List AV)}(h:r=r'):AV.own n z r=AV.own n z r':=by rw[h]
theorem cr{z:List AV}{r r':List (List AV)}(h:r=r'):AV.ro z r=AV.ro z r':=by rw[h]
theorem cH{l l':List AV}{j:Nat}(h:l=l'):AV.rp l j=AV.rp l' j:=by rw[h]
theorem bT{f:FuncId}{l l':List AV}(h:l=l'):AV.fn f l=AV.fn f l':=by rw[h]
theorem aq{x y:AV}{X:Prop}(h:x=y)(k:X):AftPG x y X:=⟨h▸Sh.refl x,k⟩
theorem nS{x y:AV}{X:Prop}(h:Sh x y)(k:X):AftPG x y X:=⟨h,k⟩
theorem vz{n:Nat}{K:Bool→Prop}(h1:n=0→K true)(h2:K false):NilG n K:=⟨fun b hb=>by cases b;exact h2;exact h1 (hb rfl)⟩
theorem pz{x o y:AV}{n:Option Nat}{X:Prop}(h1:x.rowsN=n)(h2:o=y)(k:X):AftG x o y n X:=⟨h1,h2,k⟩
theorem aG{F:Nat→Prop}{X:Prop}(h:(∀d,F d)→X):FacG F X:=⟨h⟩
theorem LoopG.facts{c:Code}{Q:Ex→St→Prop}{ts:Ts}{ms:Ms}(h:(∀k d,(cX ts k).facts d)→(∀b d,(cd ms b).facts d)→LoopG P c Q (St.ls n ts ms)):LoopG P c Q (St.ls n ts ms):=
 ⟨WP.preF fun hf=>(h hf.1 hf.2).wp⟩
def ua:List AV→Prop
 |[]=>True
 |x::l=>(∀d,x.facts d)∧ua l
theorem oD: ∀{l:List AV},(∀x∈l,∀d,x.facts d)→ua l
 |[],_=>trivial
 |x::l,h=>⟨h x (by simp),oD fun y hy=>h y (by simp[hy])⟩
theorem Con.evF{f:FuncId}{fn:Func}{c:Code}{xs:List AV}{res:AV}(n:Nat)(hT:T.ok P)(hm:P.follows .mixedOrders=true)(hf:P.funcs[f]? =some fn)(hn:(fn.name== "runtime.NumGoroutine")=false)(hb:fn.body=some c)
  (hok:xs.all cN=true)(hnn:xs.length+(fn.ntmps-xs.length)=n)(rs:List ResultVar)(hrs:fn.results.toList=rs)
  (h:ua xs→iM xs fun ts ms=>Go.Abs.ev P T ⟨n,[],[]⟩ c (uU T rs res) ts ms):Con P f xs (aa xs) res:=
 Con.facts ⟨fn,hf,hn,by rw[hb];rfl⟩ fun hF=>Con.ev n hT hm hf hn hb hok hnn rs hrs (h (oD hF))
theorem Con.evFK(kp:List (Nat × List Nat)){f:FuncId}{fn:Func}{c:Code}{xs:List AV}{res:AV}(n:Nat)(hT:T.ok P)(hm:P.follows .mixedOrders=true)(hf:P.funcs[f]? =some fn)(hn:(fn.name== "runtime.NumGoroutine")=false)(hb:fn.body=some c)
  (hok:xs.all cN=true)(hnn:xs.length+(fn.ntmps-xs.length)=n)(rs:List ResultVar)(hrs:fn.results.toList=rs)
  (h:ua xs→iM xs fun ts ms=>Go.Abs.ev P T ⟨n,[],kp⟩ c (uU T rs res) ts ms):Con P f xs (aa xs) res:=
 Con.facts ⟨fn,hf,hn,by rw[hb];rfl⟩ fun hF=>Con.evK kp n hT hm hf hn hb hok hnn rs hrs (h (oD hF))
theorem aE{α:Type}{S:α→Ts}{M:α→Ms}{J:α→Prop}{ts:Ts}{ms:Ms}(a:α)(h1:J a)(h2:ts=S a)(h3:ms=M a):HeadG S M J ts ms:=⟨a,h1,h2,h3⟩
theorem TT.ok_nil:TT.ok [] P:=fun t i h=>by cases h
theorem TT.ok_cons{t:Nat}{i:TI}(h:yT P t=some i)(hT:TT.ok T P):TT.ok ((t,i)::T) P:=fun t' i' h'=>by
 simp only[TT.get]at h'
 split at h'
 ·rename_i e;injection h' with h';subst h';rw[←jt e];exact h
 ·exact hT _ _ h'
end
end Go.Abs

/- The abstract layer, 32: what proofs of contracts use again and again: numbers in range, rows of slices. -/
noncomputable section
namespace Go.Abs
open Go
theorem jo{k:IntKind}{n:Int}(h:dE k n=true):k.wrap n=n:=by
 cases k<;>simp[dE]at h<;>simp[IntKind.wrap,IntKind.signed,IntKind.bits]<;>omega
theorem ai{n:Int}(h1: -9223372036854775808≤n)(h2:n≤9223372036854775807):IntKind.i64.wrap n=n:=jo (by simp[dE];omega)
theorem Gx{n:Int}(h1: -2147483648≤n)(h2:n≤2147483647):IntKind.i32.wrap n=n:=jo (by simp[dE];omega)
theorem Fc{n:Int}(h:dE .i64 n=true): -9223372036854775808≤n∧n≤9223372036854775807:=by simpa[dE]using h
def aj(n:Int):List AV:=[.int .i64 n]
def mF(s:List UInt8):List AV:=[.str s]
def dL(xs:List Int):AV:=.ro [.int .i64 0] (xs.map aj)
def aK(xs:List Int):AV:=.own 0 [.int .i64 0] (xs.map aj)
def gA(xs:List (List UInt8)):AV:=.own 0 [.str []] (xs.map mF)
theorem aI{α:Type}(f:α→List AV)(xs:List α)(i:Nat)(z:List AV)(d:α)(h:i<xs.length):dn (xs.map f) i z=f (xs.getD i d):=by
 simp[dn,h]
theorem eQ(xs:List Int)(i:Nat)(z:List AV)(h:i<xs.length):dn (xs.map aj) i z=[.int .i64 (xs.getD i 0)]:=aI _ _ _ _ _ h
theorem be{α:Type}(f:α→List AV)(xs:List α)(o n:Nat):am (xs.map f) o n=((xs.drop o).take n).map f:=by simp[am,List.map_take,List.map_drop]
theorem zH{n:Int}(h: ∀d,(AV.int .i64 n).facts d): -9223372036854775808≤n∧n≤9223372036854775807:=Fc (h 0)
theorem fX{α:Type}{xs ys:List α}{i:Nat}(d:α)(h:xs.take i=ys.take i)(h1:i<xs.length)(h2:i<ys.length)(h3:xs.getD i d=ys.getD i d):xs.take (i+1)=ys.take (i+1):=by
 rw[List.take_add_one,List.take_add_one,h]
 simp[List.getD,h1,h2]at h3
 simp[h1,h2,h3]
theorem vV{α:Type}(f:α→List AV)(xs:List α)(i:Nat)(z vs:List AV)(v:α)(d:α)(h:i<xs.length)(hv:f v=vs)(hl:(f (xs.getD i d)).length=vs.length):bl (xs.map f) i 0 z vs=(xs.set i v).map f:=by
 unfold bl setCells
 rw[aI f xs i z d h]
 have:(f (xs.getD i d)).drop vs.length=[]:=List.drop_eq_nil_of_le (by omega)
 simp only[List.take_zero,List.nil_append,Nat.zero_add,this,List.append_nil,List.map_set,hv]
theorem gS(xs:List Int)(i:Nat)(z:List AV)(v:Int)(h:i<xs.length):bl (xs.map aj) i 0 z [.int .i64 v]=(xs.set i v).map aj:=vV _ _ _ _ _ v 0 h rfl rfl
def ml{α:Type}(p:α→Bool)(xs:List α):Int:=match xs.findIdx? p with
 |some i=>i
 |none=> -1
theorem lJ{α:Type}{p:α→Bool}{xs:List α}{i:Nat}(d:α)(h:i<xs.length)(hp:p (xs.getD i d)=true)(hn: ∀j,j<i→p (xs.getD j d)=false):ml p xs=i:=by
 have:xs.findIdx? p=some i:=by
  rw[List.findIdx?_eq_some_iff_getElem]
  refine⟨h,by simpa[h]using hp,fun j hj=> ?_⟩
  have:=hn j hj
  have hj':j<xs.length:=by omega
  simpa[hj']using this
 simp[ml,this]
theorem jA{α:Type}{p:α→Bool}{xs:List α}(d:α)(hn: ∀j,j<xs.length→p (xs.getD j d)=false):ml p xs= -1:=by
 have:xs.findIdx? p=none:=by
  rw[List.findIdx?_eq_none_iff]
  intro x hx
  obtain⟨j,hj,rfl⟩:=List.mem_iff_getElem.1 hx
  have:=hn j hj
  simpa[hj]using this
 simp[ml,this]
theorem lS{α:Type}(p:α→Bool)(xs:List α):decide (0≤ml p xs)=xs.any p:=by
 unfold ml
 split
 ·rename_i i h
  rw[List.findIdx?_eq_some_iff_getElem]at h
  obtain⟨h1,h2,_⟩:=h
  have:xs.any p=true:=List.any_eq_true.2 ⟨_,List.getElem_mem h1,h2⟩
  simp[this]
 ·rename_i h
  rw[List.findIdx?_eq_none_iff]at h
  have:xs.any p=false:=by simpa using h
  simp[this]
theorem wr{n:Int}{m:Nat}(h1:0≤n)(h2:n≤1048576)(h3:m≤9223372036854775807):IntKind.i64.wrap (n-m)=n-m:=ai (by omega) (by omega)
def pF{α:Type}(f:α→List AV)(z:List AV)(xs:List α)(i:Nat):List (List AV):=(xs.take i).map f++List.replicate (xs.length-i) z
theorem jd{α:Type}(f:α→List AV)(z:List AV)(xs:List α):pF f z xs 0=List.replicate xs.length z:=by simp[pF]
theorem lr{α:Type}(f:α→List AV)(z:List AV)(xs:List α):pF f z xs xs.length=xs.map f:=by simp[pF]
theorem jj{α:Type}{f:α→List AV}{z z' vs:List AV}{xs:List α}{i:Nat}(d:α)(h:i<xs.length)(hv:f (xs.getD i d)=vs)(hl:z.length=vs.length):bl (pF f z xs i) i 0 z' vs=pF f z xs (i+1):=by
 subst hv
 unfold bl setCells pF
 obtain⟨m,hm⟩: ∃m,xs.length-i=m+1:=⟨xs.length-i-1,by omega⟩
 have hlen:((xs.take i).map f).length=i:=by simp;omega
 have hr:dn ((xs.take i).map f++List.replicate (xs.length-i) z) i z'=z:=by
  unfold dn
  rw[List.getD_eq_getElem?_getD,List.getElem?_append_right (by omega),hlen,hm]
  simp
 rw[hr,hm,List.replicate_succ,List.set_append_right _ _ (by omega),hlen,show xs.length-(i+1)=m by omega,List.take_succ_eq_append_getElem h,List.map_append,List.append_assoc]
 have e:xs.getD i d=xs[i]:=by simp[h]
 rw[e]at hl⊢
 have:z.drop (f xs[i]).length=[]:=List.drop_eq_nil_of_le (by omega)
 simp[this]
theorem facts_len{α:Type}{f:α→List AV}{z:List AV}{xs:List α}(h: ∀d,(AV.ro z (xs.map f)).facts d):xs.length≤9223372036854775807:=by
 have:=(h 1).1
 simpa[cj]using this
theorem gK{α:Type}{xs ys:List α}{i:Nat}(h:xs.take i=ys.take i)(h1:xs.length≤i)(h2:ys.length≤i):xs=ys:=by
 rwa [List.take_of_length_le h1,List.take_of_length_le h2]at h
theorem Sh.flat{z:List AV}{rows:List (List AV)}(hf: ∀row∈rows,∀x∈row,x.flat=true):Sh (.own 1 z rows) (.own 0 z rows):=fun w R O v h _=>by
 cases h with
 |sc h e=>exact h.elim
 |own0 e=>exact⟨O,fun _ _ k=>k,fun R' _ _=>.own0 e⟩
 |own vs os hcap hb hw hc hx hO hd hdd h0 h1 hm=>
  exact⟨O,fun _ _ k=>k,fun R' hR _=>.own vs os hcap hb hw hc (fun i j row x h1 h2=>(hx i j row x h1 h2).weak hR fun _ _ k=>k) hO hd hdd (fun _=>hf) (fun _=>h1 (by decide)) hm⟩
theorem Sh.flat_map{α:Type}{z:List AV}{f:α→List AV}(hf: ∀a,(f a).all AV.flat=true)(xs:List α):Sh (.own 1 z (xs.map f)) (.own 0 z (xs.map f)):=Sh.flat fun row hr x hx=>by
 obtain⟨a,_,rfl⟩:=List.mem_map.1 hr
 exact List.all_eq_true.1 (hf a) x hx
theorem eH:(∀{α:Type}[BEq α][LawfulBEq α]{a b:α},(a==b)=true↔a=b)∧(∀{α:Type}[BEq α][LawfulBEq α]{a b:α},(a != b)=true↔a≠b)∧(∀{α:Type}{a b:α},(a≠b)= ¬a=b)∧
  (∀{p:Prop}[Decidable p],(decide p=true)=p)∧(∀{p:Prop}[Decidable p],(decide p=false)= ¬p)∧(∀{a b:Int},¬a<b↔b≤a)∧(∀{a b:Int},¬a≤b↔b<a)∧((false=true)=False)∧
  (∀{α:Type}{a b:α}[h:Decidable False],(if False then a else b)=b)∧(∀{α:Type}{a b:α}[h:Decidable True],(if True then a else b)=a)∧
  (∀{α:Type}[BEq α][LawfulBEq α]{a b:α},(a==b)=false↔a≠b)∧(∀{α:Type}[BEq α][LawfulBEq α]{a b:α},(a != b)=false↔a=b)∧(∀(b:Bool),((!b)=true)=(b=false))∧(∀(b:Bool),((!b)=false)=(b=true))∧
  (∀{m n:Nat},(m:Int)<n↔m<n)∧(∀{m n:Nat},(m:Int)≤n↔m≤n)∧(∀{m n:Nat},(m:Int)=n↔m=n)∧(∀{α β:Type}{l:List α}(f:α→β),(l.map f).length=l.length)∧(∀{α:Type},([]:List α).length=0)∧(∀{α:Type}{a:α}{as:List α},(a::as).length=as.length+1):=
 ⟨beq_iff_eq,bne_iff_ne,ne_eq _ _,decide_eq_true_eq,propext decide_eq_false_iff_not,Int.not_lt,Int.not_le,Bool.false_eq_true,if_false _ _,if_true _ _,beq_eq_false_iff_ne,bne_eq_false_iff_eq,Bool.not_eq_true',Bool.not_eq_false',Int.ofNat_lt,Int.ofNat_le,Int.ofNat_inj,List.length_map,List.length_nil,List.length_cons⟩
theorem LN:(∀{α:Type}{a b:α}[h:Decidable True],(if True then a else b)=a)∧(∀{α:Type}{a b:α}[h:Decidable False],(if False then a else b)=b)∧((false=true)=False)∧((!true)=false)∧((!false)=true):=⟨if_true _ _,if_false _ _,Bool.false_eq_true,Bool.not_true,Bool.not_false⟩
theorem cB:(∀{p:Prop}[Decidable p],(decide p=true)=p)∧(∀{α β:Type}{l:List α}(f:α→β),(l.map f).length=l.length):=⟨decide_eq_true_eq,List.length_map⟩
end Go.Abs

/- The abstract layer, 33: from the data of a row's arguments to abstract values. -/
noncomputable section
namespace Go.Abs
open Go
def J4(F:TypeId→List AV→Prop):List (Nat × TypeId)→List AV→Prop
 |[],l=>l=[]
 |p::fs,l=> ∃l1 l2,l=l1++l2∧F p.2 l1∧J4 F fs l2
def uD(T:TT):Nat→TypeId→List AV→Prop
 |0,_,_=>False
 |d+1,t,l=>match T.get t with
  |some i=>match i.ut with
   | .int k=> ∃n,l=[.int k n]
   | .bool=> ∃b,l=[.bool b]
   | .str=> ∃s,l=[.str s]
   | .slice e=>match T.get e with
    |some j=> ∃rows,l=[.ro j.zero rows]∧ ∀row∈rows,uD T d e row
    |none=>False
   | .struct fs=>J4 (uD T d) fs l
   |_=>False
  |none=>False
def HH(T:TT)(ok:TypeId→Bool):List (Nat × TypeId)→Nat→Nat→Bool
 |[],o,n=>o==n
 |p::l,o,n=>p.1==o&&ok p.2&&match T.get p.2 with
  |some j=>HH T ok l (o+j.size) n
  |none=>false
def tZ(T:TT):Nat→TypeId→Bool
 |0,_=>false
 |d+1,t=>match T.get t with
  |some i=>match i.ut with
   | .int _=>i.size==1
   | .bool=>i.size==1
   | .str=>i.size==1
   | .slice e=>match T.get e with
    |some j=>i.size==1&&decide (0<j.size)&&j.zero.length==j.size&&tZ T d e
    |none=>false
   | .struct fs=>HH T (tZ T d) fs 0 i.size
   |_=>false
  |none=>false
section
variable{P:Program}{T:TT}{H:Type}{enc:TypeId × Value→H}{w:World}{base:Nat}{spare:Nat→Bool}{held:Bool}
abbrev RW(w:World):Cells:=fun g _=>g<w.heap.size
structure All(w:World)(l:List AV)(cs:List Value):Prop where
 len:l.length=cs.length
 ar: ∀(k:Nat) x v,l[k]? =some x→cs[k]? =some v→AR w (RW w) aC x v ae
 plain: ∀x∈l,x.plain=true
theorem All.one{x:AV}{v:Value}(h:AR w (RW w) aC x v ae)(hp:x.plain=true):All w [x] [v]:=⟨rfl,fun k y u h1 h2=>by
 cases k with
 |zero=>simp at h1 h2;subst h1 h2;exact h
 |succ k=>simp at h1,fun y hy=>by simp at hy;subst hy;exact hp⟩
theorem All.append{l l':List AV}{cs cs':List Value}(h:All w l cs)(h':All w l' cs'):All w (l++l') (cs++cs'):=⟨by simp[h.len,h'.len],fun k x v h1 h2=>by
 by_cases hk:k<l.length
 ·rw[List.getElem?_append_left hk]at h1
  rw[List.getElem?_append_left (by rw[←h.len];exact hk)]at h2
  exact h.ar k x v h1 h2
 ·rw[List.getElem?_append_right (by omega)]at h1
  rw[List.getElem?_append_right (by rw[←h.len];omega)]at h2
  rw[←h.len]at h2
  exact h'.ar _ x v h1 h2,fun x hx=>by
 rcases List.mem_append.1 hx with hx|hx
 ·exact h.plain x hx
 ·exact h'.plain x hx⟩
theorem nT{t:Nat}{i:TI}(h:yT P t=some i): ∃d,P.underlying t=some d∧i.ut=fx d∧P.cellsOf t=i.size∧True:=by
 unfold yT at h
 split at h
 ·rename_i info d h1 h2
  split at h
  ·split at h
   ·injection h with h
    subst h
    exact⟨d,h2,rfl,by simp[Program.cellsOf,h1],trivial⟩
   ·cases h
  ·cases h
 ·cases h
theorem uB{g o n:Nat}:Addr.add ⟨g,o,none⟩ n=⟨g,o+n,none⟩:=by
 unfold Addr.add
 split
 ·rename_i h;subst h;rfl
 ·rfl
theorem zk{a:Addr}{n:Nat}{cs:List Value}(h:w.cells? base a n=some cs):cs.length=n∧ ∀k,k<n→ ∃v,cs[k]? =some v∧w.cell? (a.add k)=some v:=by
 obtain⟨h1,h2,h3⟩:=World.cells?_some h
 exact⟨h2,fun k hk=>⟨cs[k]'(by omega),by simp[h2,hk],by
  rw[h3 k hk]
  simp[h2,hk]⟩⟩
theorem AR.plain_known{R:Cells}{loc:bG}{x:AV}(h:x.plain=true):x.isUndef=false:=by cases x<;>first|rfl|simp[AV.plain]at h
theorem yA{ok:TypeId→Bool}{F:TypeId→List AV→Prop}(hT:T.ok P){cs:List Value}{fuel:Nat}
  (ih: ∀t cs x,ok t=true→DataW.trod enc P w base spare held fuel t cs=some x→ ∃l,F t l∧All w l cs∧cs.length=P.cellsOf t):
  ∀(fs:List Field)(o:Nat),HH T ok (fs.map fun f=>(f.offset,f.type)) o cs.length=true→(∀f∈fs,∃y,DataW.trod enc P w base spare held fuel f.type ((cs.drop f.offset).take (P.cellsOf f.type))=some y)→o≤cs.length→
   ∃l,J4 F (fs.map fun f=>(f.offset,f.type)) l∧All w l (cs.drop o)
 |[],o,hk,hy,ho=>by
  simp only[HH,List.map_nil,beq_iff_eq]at hk
  refine⟨[],rfl,?_⟩
  rw[hk,List.drop_length]
  exact⟨rfl,fun k x v h1 h2=>by simp at h1,fun x hx=>by simp at hx⟩
 |f::fs,o,hk,hy,ho=>by
  simp only[HH,List.map_cons,Bool.and_eq_true,beq_iff_eq]at hk
  obtain⟨⟨hk1,hk2⟩,hk3⟩:=hk
  split at hk3
  ·rename_i j hj
   obtain⟨y,hy1⟩:=hy f (by simp)
   obtain⟨l1,h1,h2,h3⟩:=ih _ _ _ hk2 hy1
   obtain⟨_,_,_,hsz,_⟩:=nT (hT _ _ hj)
   have hlen:o+j.size≤cs.length:=by
    simp only[List.length_take,List.length_drop,hsz,hk1]at h3
    omega
   obtain⟨l2,h4,h5⟩:=yA hT ih fs (o+j.size) hk3 (fun g hg=>hy g (by simp[hg])) hlen
   refine⟨l1++l2,⟨l1,l2,rfl,h1,h4⟩,?_⟩
   have:cs.drop o=(cs.drop f.offset).take (P.cellsOf f.type)++cs.drop (o+j.size):=by
    rw[hk1,hsz,←List.drop_drop,List.take_append_drop]
   rw[this]
   exact h2.append h5
  ·cases hk3
theorem sT(hT:T.ok P): ∀(d:Nat)(t:TypeId)(cs:List Value)(fuel:Nat)(x:DataW H × List MemPlace),tZ T d t=true→DataW.trod enc P w base spare held fuel t cs=some x→
  ∃l,uD T d t l∧All w l cs∧cs.length=P.cellsOf t
 |0,t,cs,fuel,x,ht,h=>by simp[tZ]at ht
 |d+1,t,cs,fuel,x,ht,h=>by
  unfold tZ at ht
  unfold uD
  split at ht
  ·rename_i i hi
   obtain⟨dd,hu,hut,hsz,_⟩:=nT (hT _ _ hi)
   have one: ∀{v:Value}{k:TypeDesc}(n:Nat),P.underlying t=some k→True:=fun _ _=>trivial
   split at ht
   ·rename_i k hk
    try simp only[hk]
    have hd:dd=.int k:=by rw[hut]at hk;cases dd<;>simp[fx]at hk;rw[hk]
    subst hd
    obtain⟨n,rfl,rfl,hwf⟩:=DataW.trod_int hu h
    refine⟨_,⟨n,rfl⟩,.one (FR hwf) rfl,?_⟩
    simp only[beq_iff_eq]at ht
    rw[hsz,ht];rfl
   ·rename_i hk
    try simp only[hk]
    have hd:dd=.bool:=by rw[hut]at hk;cases dd<;>simp[fx]at hk;rfl
    subst hd
    obtain⟨b,rfl,rfl⟩:=DataW.trod_bool hu h
    refine⟨_,⟨b,rfl⟩,.one (Dl b) rfl,?_⟩
    simp only[beq_iff_eq]at ht
    rw[hsz,ht];rfl
   ·rename_i hk
    try simp only[hk]
    have hd:dd=.string:=by rw[hut]at hk;cases dd<;>simp[fx]at hk;rfl
    subst hd
    obtain⟨b,rfl,rfl,hl⟩:=DataW.trod_string hu h
    refine⟨_,⟨_,rfl⟩,.one (Fv hl) rfl,?_⟩
    simp only[beq_iff_eq]at ht
    rw[hsz,ht];rfl
   ·rename_i e hk
    try simp only[hk]
    have hd:dd=.slice e:=by rw[hut]at hk;cases dd<;>simp[fx]at hk;rw[hk]
    subst hd
    split at ht
    ·rename_i j hj
     try simp only[hj]
     simp only[Bool.and_eq_true,decide_eq_true_eq,beq_iff_eq]at ht
     obtain⟨⟨⟨ht0,ht1⟩,ht2⟩,ht3⟩:=ht
     obtain⟨_,_,_,hsj,_⟩:=nT (hT _ _ hj)
     rcases DataW.trod_slice hu h with⟨rfl,rfl⟩|⟨a,len,cap,elems,rest,n,rfl,rfl,rfl,hb,hlc,hcm,hel,hels,_,_⟩
     ·refine⟨_,⟨[],rfl,fun row hr=>by simp at hr⟩,.one (.ro0 ah) rfl,?_⟩
      rw[hsz,ht0];rfl
     ·have each: ∀i:Nat,i<len→ ∃row cs,uD T d e row∧All w row cs∧w.cells? base (a.add (i*P.cellsOf e)) (P.cellsOf e)=some cs∧row.length=j.size:=by
       intro i hi
       have h1:=hels i hi
       rw[List.getElem?_eq_getElem (by omega),Option.bind_eq_some_iff]at h1
       obtain⟨cs,h2,h3⟩:=h1
       obtain⟨row,h4,h5,h6⟩:=sT hT d e cs n _ ht3 h3
       exact⟨row,cs,h4,h5,h2,by rw[h5.len,h6,hsj]⟩
      have: ∃F:Nat→List AV,∃G:Nat→List Value,∀i,i<len→uD T d e (F i)∧All w (F i) (G i)∧w.cells? base (a.add (i*P.cellsOf e)) (P.cellsOf e)=some (G i)∧(F i).length=j.size:=by
       refine⟨fun i=>if h:i<len then Classical.choose (each i h)else[],fun i=>if h:i<len then Classical.choose (Classical.choose_spec (each i h))else[],fun i hi=> ?_⟩
       simp only[hi,dif_pos]
       exact Classical.choose_spec (Classical.choose_spec (each i hi))
      obtain⟨F,G,hFG⟩:=this
      refine⟨_,⟨(List.range len).map F,rfl,fun row hr=> ?_⟩,.one ?_ rfl,?_⟩
      ·obtain⟨i,hi,rfl⟩:=List.mem_map.1 hr
       exact(hFG i (List.mem_range.1 hi)).1
      ·by_cases h0:len=0
       ·subst h0;exact .ro0 ah
       ·have cell: ∀i j',i<len→j'<j.size→ ∃v,(G i)[j']? =some v∧w.cell? ((a.add (i*j.size)).add j')=some v:=by
         intro i j' hi hj'
         have h1:=(hFG i hi).2.2.1
         rw[hsj]at h1
         exact(zk h1).2 j' hj'
        obtain⟨v0,_,hv0⟩:=cell 0 0 (by omega) ht1
        obtain⟨g,o,spot⟩:=a
        have hv0:w.cell? ⟨g,o,spot⟩=some v0:=by simpa[Addr.add]using hv0
        have hspot:spot=none:=by
         unfold World.cell? at hv0
         split at hv0
         ·cases spot
          ·rfl
          ·simp at hv0
         ·cases hv0
        subst hspot
        have hg:g<w.heap.size:=by
         unfold World.cell? at hv0
         split at hv0
         ·rename_i hh;exact(Array.getElem?_eq_some_iff.1 hh).1
         ·cases hv0
        have hlenr:((List.range len).map F).length=len:=by simp
        have:=AR.ro (w:=w) (R:=RW w) (loc:=aC) (z:=j.zero) (rows:=(List.range len).map F) (g:=g) (o:=o) (cap:=cap) (O:=ae) (fun i j'=>(G i).getD j' undef) ah (by omega) (by omega) hg
         ⟨fun row hr=>by
          obtain⟨i,hi,rfl⟩:=List.mem_map.1 hr
          rw[(hFG i (List.mem_range.1 hi)).2.2.2,ht2],fun row hr x hx=>by
          obtain⟨i,hi,rfl⟩:=List.mem_map.1 hr
          exact AR.plain_known (R:=RW w) (loc:=aC) ((hFG i (List.mem_range.1 hi)).2.1.plain x hx)⟩
         (fun i j' hi hj'=>by
          rw[hlenr]at hi
          rw[ht2]at hj'⊢
          obtain⟨v,h1,h2⟩:=cell i j' hi hj'
          refine⟨?_,hg⟩
          simp only[List.getD_eq_getElem?_getD,h1,Option.getD_some]
          rw[uB,uB]at h2;exact h2)
         (fun i j' row x h1 h2=>by
          have hi:i<len:=by
           have:=(List.getElem?_eq_some_iff.1 h1).1
           omega
          simp[hi]at h1
          subst h1
          have hA:=(hFG i hi).2.1
          have hj':j'<(G i).length:=by
           rw[←hA.len];exact(List.getElem?_eq_some_iff.1 h2).1
          have:=hA.ar j' x (G i)[j'] h2 (List.getElem?_eq_getElem hj')
          simpa[List.getD_eq_getElem?_getD,hj']using this)
         (fun row hr x hx=>by
          obtain⟨i,hi,rfl⟩:=List.mem_map.1 hr
          exact(hFG i (List.mem_range.1 hi)).2.1.plain x hx)
         (by rw[hlenr];exact Nat.le_trans hlc hcm)
        rw[hlenr]at this
        exact this
      ·rw[hsz,ht0];rfl
    ·cases ht
   ·rename_i fs hk
    try simp only[hk]
    have hd: ∃fs',dd=.struct fs'∧fs=fs'.toList.map fun f=>(f.offset,f.type):=by
     rw[hut]at hk
     cases dd<;>simp[fx]at hk
     exact⟨_,rfl,hk.symm⟩
    obtain⟨fs',rfl,rfl⟩:=hd
    obtain⟨xs,n,rfl,rfl,hl,hxl,hxs⟩:=DataW.trod_struct hu h
    obtain⟨l,h1,h2⟩:=yA (w:=w) (enc:=enc) (base:=base) (spare:=spare) (held:=held) (fuel:=n) (cs:=cs) (ok:=tZ T d) (F:=uD T d) hT (fun t cs x=>sT hT d t cs n x) fs'.toList 0 (by rw[hl,hsz];exact ht)
     (fun f hf=>by
      obtain⟨i,hi⟩:=List.mem_iff_getElem?.1 hf
      have:=hxs i f (by simpa using hi)
      have hi':i<fs'.size:=by simpa using(List.getElem?_eq_some_iff.1 hi).1
      rw[List.getElem?_eq_getElem (by omega)]at this
      exact⟨_,this⟩) (Nat.zero_le _)
    exact⟨l,h1,by simpa using h2,hl⟩
   ·cases ht
  ·cases ht
theorem All.agg{l:List AV}{cs:Array Value}(h:All w l cs.toList):AR w (RW w) aC (.agg l) (.agg cs) ae:=
 .agg (fun _=>ae) (by rw[h.len];simp) (fun k x v h1 h2=>h.ar k x v h1 (by simpa using h2)) ⟨fun g o=>by simp[ae],fun _ _ _ _ _=>ah.disj⟩
theorem mJ(hT:T.ok P)(d:Nat){t:TypeId}{v:Value}{i:TI}{fs:List (Nat × TypeId)}(ht:tZ T (d+1) t=true)(hi:T.get t=some i)(hs:i.ut=.struct fs){r:Reach}{b0:Nat}(hok:Value.okWide P w r b0 t v)
  {dd:DataW H}{ps:List MemPlace}(h:DataW.Trod enc P w base spare held t v dd ps): ∃l,uD T (d+1) t l∧AR w (RW w) aC (.agg l) v ae:=by
 obtain⟨ds,hu,hut,hsz,_⟩:=nT (hT _ _ hi)
 have: ∃fs',ds=.struct fs':=by
  rw[hut]at hs
  cases ds<;>simp[fx]at hs
  exact⟨_,rfl⟩
 obtain⟨fs',rfl⟩:=this
 obtain⟨cs,rfl,_⟩:=Go.WideShapes.okWide_struct hu hok
 obtain⟨fuel,h⟩:=h
 obtain⟨l,h1,h2,_⟩:=sT hT (d+1) t _ fuel _ ht h
 exact⟨l,h1,h2.agg⟩
theorem pu(hT:T.ok P)(d:Nat){t:TypeId}{v:Value}{i:TI}(ht:tZ T (d+1) t=true)(hi:T.get t=some i)(hs:fI i.ut=false){r:Reach}{b0:Nat}(hok:Value.okWide P w r b0 t v)
  {dd:DataW H}{ps:List MemPlace}(h:DataW.Trod enc P w base spare held t v dd ps): ∃x,uD T (d+1) t [x]∧AR w (RW w) aC x v ae:=by
 obtain⟨ds,hu,hut,hsz,_⟩:=nT (hT _ _ hi)
 obtain⟨fuel,h⟩:=h
 have hc:v.cells.toList=[v]:=by
  cases ds with
  |int k=>obtain⟨n,rfl⟩:=Go.WideShapes.okWide_int hu hok;rfl
  |bool=>obtain⟨n,rfl⟩:=Go.WideShapes.okWide_bool hu hok;rfl
  |string=>obtain⟨n,rfl⟩:=Go.WideShapes.okWide_string hu hok;rfl
  |slice e=>obtain⟨a,n,c,rfl⟩:=Go.WideShapes.okWide_slice hu hok;rfl
  |struct fs=>rw[hut]at hs;simp[fx,fI]at hs
  |array n e=>rw[hut]at hs;simp[fx,fI]at hs
  |_=>simp[tZ,hi,hut,fx]at ht
 obtain⟨l,h1,h2,_⟩:=sT hT (d+1) t _ fuel _ ht h
 rw[hc]at h2
 have: ∃x,l=[x]:=by
  have:=h2.len
  match l,this with
  |[x],_=>exact⟨x,rfl⟩
 obtain⟨x,rfl⟩:=this
 exact⟨x,h1,h2.ar 0 x v rfl rfl⟩
theorem fb{α:Type}{rows:List (List AV)}(f:α→List AV)(h: ∀row∈rows,∃x,row=f x): ∃xs:List α,rows=xs.map f:=by
 induction rows with
 |nil=>exact⟨[],rfl⟩
 |cons r rows ih=>
  obtain⟨x,rfl⟩:=h r (by simp)
  obtain⟨xs,rfl⟩:=ih fun row hr=>h row (by simp[hr])
  exact⟨x::xs,rfl⟩
end
end Go.Abs
