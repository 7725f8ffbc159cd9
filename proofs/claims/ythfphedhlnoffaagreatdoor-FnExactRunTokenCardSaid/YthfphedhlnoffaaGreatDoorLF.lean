import Derived.Test.YthfphedhlnoffaaGreatDoorLE
/- The abstract layer: pointers that are handed over or lent. -/
set_option linter.unusedVariables false
set_option linter.unusedSimpArgs false
noncomputable section
namespace Go.Abs
open Go
def cD:List AV→St→(List AV→St→Prop)→Prop
 |[],st,K=>K [] st
 |x::l,st,K=>(dr x).runK st fun p=>cD l (st.mws p.2) fun ys st'=>K (p.1::ys) st'
def AV.leads0:AV→Bool
 | .ref _ _ _=>true
 | .ptr _ _ _=>true
 |_=>false
def AV.leads:AV→Bool
 | .agg cs=>cs.any AV.hasRef0
 | .fn _ caps=>caps.any AV.leads0
 |v=>v.leads0
def tM:List AV→RP (List AV)
 |[]=>.ret []
 |x::l=>.req (!x.isUndef&&x.light) ((ec x).bind fun y=>(tM l).bind fun ys=>.ret (y::ys))
def Bh(x:AV):RP AV:=match x with
 | .ptr b i j=>match i with
  |0=>.mem b fun m=>match m with
   | .live ⟨arr,_,_,rows⟩=>match arr with
    |false=>match rows with
     |[row]=>(tM row).bind fun ys=>.ret (.rp ys j)
     |_=>.fail
    |true=>.fail
   |_=>.fail
  |_=>.fail
 |v=>ec v
def wK:List AV→RP (List AV)
 |[]=>.ret []
 |x::l=>(Bh x).bind fun y=>(wK l).bind fun ys=>.ret (y::ys)
def EN(x:AV):RP AV:=match x with
 | .agg cs=>(ef cs).bind fun ys=>.ret (.agg ys)
 | .fn f caps=>(wK caps).bind fun cs=>.ret (.fn f cs)
 |v=>Bh v
def oQ:List AV→RP (List AV)
 |[]=>.ret []
 |x::l=>(EN x).bind fun y=>(oQ l).bind fun ys=>.ret (y::ys)
def jp(x:AV)(n:Nat)(st:St)(K:AV→St→Prop):Prop:=match x with
 | .ptr b i j=>match i with
  |0=>match st.m b with
   | .live ⟨arr,lvl,z,rows⟩=>match arr with
    |false=>match rows with
     |[row]=>Rq (decide (j+n≤row.length)&&((row.drop j).take n).all fun c=>c.light&& !c.isUndef)
       (cD ((row.drop j).take n) (st.mws [(b,.live ⟨false,lvl,z,[setCells row j (List.replicate n .undef)]⟩)]) fun ys st=>Rq (ys.all fun c=> !c.isUndef) (K (.obj ys) st))
     |_=>False
    |true=>False
   |_=>False
  |_=>False
 |_=>False
def gU:List (Option Nat)→List AV→St→(List AV→St→Prop)→Prop
 |[],[],st,K=>K [] st
 |none::fs,_::as,st,K=>gU fs as st fun l st=>K (.undef::l) st
 |some n::fs,x::as,st,K=>jp x n st fun y st=>gU fs as st fun l st=>K (y::l) st
 |_,_,_,_=>False
def xg:List (Option Nat)→List AV→List AV→List AV
 |none::fs,_::gs,y::ys=>y::xg fs gs ys
 |some _::fs,g::gs,_::ys=>g::xg fs gs ys
 |_,_,_=>[]
def nD:List (Option Nat)→List AV→Prop
 |[],[]=>True
 |none::fs,g::gs=>g=.undef∧nD fs gs
 |some _::fs,_::gs=>nD fs gs
 |_,_=>False
def eM:List (Option Nat)→List AV→List AV
 |none::fs,x::as=>x::eM fs as
 |some _::fs,_::as=>.undef::eM fs as
 |_,_=>[]
def mu(x o:AV)(b0:Nat)(st:St)(K:St→Prop):Prop:=match x with
 | .ptr b _ j=>match o with
  | .obj cs=>match st.m b with
   | .live ⟨arr,lvl,z,rows⟩=>match arr with
    |false=>match rows with
     |[row]=>Rq (cs.all cG&&decide (j+cs.length≤row.length)&&((row.drop j).take cs.length).all AV.isUndef)
      (Rq ((aD b0 cs).2.all fun p=>match st.m p.1 with| .abs=>true|_=>false)
       (K ((st.mws (aD b0 cs).2).mws [(b,.live ⟨false,lvl,z,[setCells row j (aD b0 cs).1]⟩)])))
     |_=>False
    |true=>False
   |_=>False
  |_=>False
 |_=>False
def kE:List (Option Nat)→List AV→List AV→Nat→St→(St→Prop)→Prop
 |[],[],[],_,st,K=>K st
 |none::fs,_::as,o::os,b0,st,K=>o=.undef∧kE fs as os b0 st K
 |some _::fs,x::as,o::os,b0,st,K=>mu x o b0 st fun st=>kE fs as os (b0+100) st K
 |_,_,_,_,_,_=>False
def AV.nrO:AV→Bool
 | .obj cs=>cs.all AV.nr0
 |v=>v.nr0
section
variable{P:Program}{T:TT}{E:Env}{o:Oper}{st:St}{a:Act}{w:World}{X:Cells}{loc:bG}{ob:Nat→Cells}{r:di}
theorem fd: ∀(l:List AV)(vs:List Value)(st:St)(X:Cells)(ob:Nat→Cells)(K:List AV→St→Prop),RelC E st a w X loc ob→vs.length=l.length→
  (∀(k:Nat) x v,l[k]? =some x→vs[k]? =some v→AR w (RS E w (al ob X)) loc x v ae)→cD l st K→
  ∃ys st' X' ob' O,K ys st'∧Left E a w X loc ob st' X' ob' O∧Parts w (RS E w (al ob' X')) aC ys vs O
 |[],[],st,X,ob,K,h,_,_,hk=>⟨[],st,X,ob,ae,hk,Left.refl h,ah⟩
 |[],_::_,_,_,_,_,_,hl,_,_=>by simp at hl
 |_::_,[],_,_,_,_,_,hl,_,_=>by simp at hl
 |x::l,v::vs,st,X,ob,K,h,hl,hx,hk=>by
  obtain⟨p,hp,hk⟩:=cO hk
  obtain⟨X1,ob1,O1,hL1,hy⟩:=jv h (hx 0 x v (by simp) (by simp)) hp
  obtain⟨ys,st',X2,ob2,O2,hK,hL2,hp2⟩:=fd l vs _ X1 ob1 _ hL1.rel (by simpa using hl) (fun k y u h1 h2=>(hx (k+1) y u (by simpa using h1) (by simpa using h2)).weak hL1.RS fun _ _ k=>k) hk
  obtain⟨hL,hd⟩:=hL1.trans hL2
  exact⟨p.1::ys,st',X2,ob2,_,hK,hL,O1,O2,fun g o=>Iff.rfl,hd,hy.weak hL2.RS fun _ _ k=>k,hp2⟩
theorem RelC.part(h:RelC E st a w X loc ob){b:Nat}{m:MB}{Ob X':Cells}(hown: ∀g o,al (bi ob b Ob) X' g o↔al ob X g o)(hbr:pf E w (al ob X) loc b m Ob)
  (hd: ∀b',b'≠b→Disj (ob b') Ob)(hx: ∀b',b'≠b→Disj (ob b') X')(hbx:Disj Ob X'):RelC E (st.mws [(b,m)]) a w X' loc (bi ob b Ob):=by
 have he:al (bi ob b Ob) X'=al ob X:=by funext g o;exact propext (hown g o)
 refine h.go ae rfl rfl (Frame.refl w _) (fun g o k=>⟨.inl (he▸k),h.lt g o (he▸k)⟩) (fun _ _ k=>k.elim) (fun _ _ k=>k) (fun b'=> ?_) (fun b1 b2 hne g o k1 k2=> ?_) (fun b1 g o k1 k2=> ?_)
 ·by_cases hb:b'=b
  ·subst hb
   right
   have e1:(st.mws [(b',m)]).m b'=m:=by simp[St.mws,bi]
   have e2:bi ob b' Ob b'=Ob:=by simp[bi]
   rw[e1,e2,he]
   exact hbr
  ·left
   exact⟨by simp[St.mws,bi,hb],by simp[bi,hb],rfl,fun _ _ k=>k.elim⟩
 ·by_cases h1:b1=b
  ·subst h1
   have h2: ¬b2=b1:=fun e=>hne e.symm
   simp only[bi,if_true,h2,if_false]at k1 k2
   exact hd b2 h2 g o k2 k1
  ·by_cases h2:b2=b
   ·subst h2
    simp only[bi,if_true,h1,if_false]at k1 k2
    exact hd b1 h1 g o k1 k2
   ·simp only[bi,h1,h2,if_false]at k1 k2
    exact h.db b1 b2 hne g o k1 k2
 ·by_cases h1:b1=b
  ·subst h1
   simp only[bi,if_true]at k1
   exact hbx g o k1 k2
  ·simp only[bi,h1,if_false]at k1
   exact hx b1 h1 g o k1 k2
theorem ng{row vs:List AV}{j k:Nat}(hj:j+vs.length≤row.length):(setCells row j vs)[k]? =if k<j then row[k]? else if k<j+vs.length then vs[k-j]? else row[k]? :=by
 unfold setCells
 have h1:(row.take j).length=j:=by simp;omega
 by_cases hk:k<j
 ·rw[List.append_assoc,List.getElem?_append_left (by rw[h1];exact hk),if_pos hk,List.getElem?_take_of_lt hk]
 ·rw[if_neg hk,List.append_assoc,List.getElem?_append_right (by rw[h1];omega),h1]
  by_cases hk2:k<j+vs.length
  ·rw[if_pos hk2,List.getElem?_append_left (by omega)]
  ·rw[if_neg hk2,List.getElem?_append_right (by omega),List.getElem?_drop]
   congr 1
   omega
theorem xt{row vs:List AV}{j:Nat}(hj:j+vs.length≤row.length):(setCells row j vs).length=row.length:=by
 simp[setCells];omega
def iO(l:Loc)(j n:Nat):Cells:=fun g o=>g=l.g∧l.base+j≤o∧o<l.base+j+n
theorem A0(h:RelC E st a w X loc ob){x:AV}{v:Value}(hx:AR w (RS E w (al ob X)) loc x v ae){n:Nat}{K:AV→St→Prop}(hk:jp x n st K):
  ∃y st' X' ob' O,K y st'∧Left E a w X loc ob st' X' ob' O∧AR w (RS E w (al ob' X')) aC y v O:=by
 unfold jp at hk
 split at hk
 case h_2=>exact hk.elim
 rename_i b i j
 split at hk
 case h_2=>exact hk.elim
 split at hk
 case h_2=>exact hk.elim
 rename_i arr lvl z rows hm
 split at hk
 case h_2=>exact hk.elim
 split at hk
 case h_2=>exact hk.elim
 rename_i row
 obtain⟨hq,hk⟩:=hk
 simp only[Bool.and_eq_true,decide_eq_true_eq]at hq
 obtain⟨hjn,hall⟩:=hq
 obtain⟨l,hll,hbd,hln,rfl⟩:=hx.inv_ptr
 have hat:=h.lv b _ hm
 generalize hob:ob b=Ob at hat
 cases hat with
 |var l' vs os hl' hbd' hs hn hz hb hc hxx hO hd hdd=>
  rw[hll]at hl';injection hl' with hl';subst hl'
  have hrep:(List.replicate n AV.undef).length=n:=by simp
  have hin: ∀k,j≤k→k<j+n→ ∃c,row[k]? =some c∧c.light=true∧c.isUndef=false:=by
   intro k h1 h2
   have hlt:k<row.length:=by omega
   refine⟨row[k],List.getElem?_eq_getElem _,?_⟩
   have hmem:row[k]∈(row.drop j).take n:=by
    rw[List.mem_iff_getElem?]
    exact⟨k-j,by rw[List.getElem?_take_of_lt (by omega),List.getElem?_drop];rw[show j+(k-j)=k by omega];exact List.getElem?_eq_getElem _⟩
   have:=List.all_eq_true.1 hall _ hmem
   simpa using this
  have hemp: ∀k c,row[k]? =some c→c.isUndef=false→c.light=true→Emp (os k):=fun k c h1 h2 h3=>(hxx k c h1 h2).light_emp h3
  have hCO: ∀g o,iO l j n g o→Ob g o:=by
   rintro g o ⟨rfl,h1,h2⟩
   obtain⟨c,k1,k2,k3⟩:=hin (o-l.base) (by omega) (by omega)
   exact(hO _ _).2 ⟨o-l.base,c,k1,k3,.inl ⟨rfl,by omega⟩⟩
  have hown: ∀g o,al (bi ob b fun g o=>Ob g o∧ ¬iO l j n g o) (fun g o=>X g o∨iO l j n g o) g o↔al ob X g o:=by
   intro g o
   constructor
   ·rintro (⟨b',k⟩|k|k)
    ·by_cases hbb:b'=b
     ·subst hbb;simp only[bi,if_true]at k;exact .inl ⟨b',by rw[hob];exact k.1⟩
     ·simp only[bi,hbb,if_false]at k;exact .inl ⟨b',k⟩
    ·exact .inr k
    ·exact .inl ⟨b,by rw[hob];exact hCO g o k⟩
   ·rintro (⟨b',k⟩|k)
    ·by_cases hbb:b'=b
     ·subst hbb
      rw[hob]at k
      by_cases hc:iO l j n g o
      ·exact .inr (.inr hc)
      ·exact .inl ⟨b',by simp only[bi,if_true];exact⟨k,hc⟩⟩
     ·exact .inl ⟨b',by simpa only[bi,hbb,if_false]using k⟩
    ·exact .inr (.inl k)
  have hget: ∀k c,(setCells row j (List.replicate n AV.undef))[k]? =some c→c.isUndef=false→(k<j∨j+n≤k)∧row[k]? =some c:=by
   intro k c h1 h2
   rw[ng (by rw[hrep];exact hjn),hrep]at h1
   split at h1
   ·rename_i hk;exact⟨.inl hk,h1⟩
   ·split at h1
    ·rename_i hk1 hk2
     rw[List.getElem?_replicate]at h1
     split at h1
     ·injection h1 with h1;subst h1;simp[AV.isUndef]at h2
     ·cases h1
    ·rename_i hk1 hk2;exact⟨.inr (by omega),h1⟩
  have hput: ∀k c,row[k]? =some c→(k<j∨j+n≤k)→(setCells row j (List.replicate n AV.undef))[k]? =some c:=by
   intro k c h1 h2
   rw[ng (by rw[hrep];exact hjn),hrep]
   by_cases hk:k<j
   ·rw[if_pos hk];exact h1
   ·rw[if_neg hk,if_neg (by omega)];exact h1
  have hbr:pf E w (al ob X) loc b (.live ⟨false,lvl,z,[setCells row j (List.replicate n AV.undef)]⟩) (fun g o=>Ob g o∧ ¬iO l j n g o):=by
   refine BR.var l vs os hll hbd hs hn ((xt (by rw[hrep];exact hjn)).trans hz) hb (fun k c h1 h2=>hc k c (hget k c h1 h2).2 h2) (fun k c h1 h2=>hxx k c (hget k c h1 h2).2 h2) (fun g o=> ?_)
    (fun k c k' c' h1 h2 h3 h4=>hd k c k' c' (hget k c h1 h2).2 h2 (hget k' c' h3 h4).2 h4) (fun k c k' c' h1 h2 h3 h4=>hdd k c k' c' (hget k c h1 h2).2 h2 (hget k' c' h3 h4).2 h4)
   constructor
   ·rintro ⟨k1,k2⟩
    obtain⟨k,c,h1,h2,h3⟩:=(hO _ _).1 k1
    have hout:k<j∨j+n≤k:=by
     by_cases hr:j≤k∧k<j+n
     ·exfalso
      obtain⟨c',e1,e2,e3⟩:=hin k hr.1 hr.2
      rw[h1]at e1;injection e1 with e1;subst e1
      rcases h3 with⟨rfl,rfl⟩|h3
      ·exact k2 ⟨rfl,by omega,by omega⟩
      ·exact hemp k c h1 h2 e2 g o h3
     ·omega
    exact⟨k,c,hput k c h1 hout,h2,h3⟩
   ·rintro ⟨k,c,h1,h2,h3⟩
    obtain⟨hout,h4⟩:=hget k c h1 h2
    refine⟨(hO _ _).2 ⟨k,c,h4,h2,h3⟩,fun⟨e1,e2,e3⟩=> ?_⟩
    rcases h3 with⟨_,rfl⟩|h3
    ·omega
    ·subst e1
     obtain⟨c',k1,k2,k3⟩:=hin (o-l.base) (by omega) (by omega)
     refine hd k c (o-l.base) c' h4 h2 k1 k3 ?_
     rw[show l.base+(o-l.base)=o by omega]
     exact h3
  have hrel1:=h.part (X':=fun g o=>X g o∨iO l j n g o) hown hbr (fun b' hne g o k1 k2=>h.db b' b hne g o k1 (hob▸k2.1)) (fun b' hne g o k1 k2=>by
   rcases k2 with k2|k2
   ·exact h.dx b' g o k1 k2
   ·exact h.db b' b hne g o k1 (hob▸hCO g o k2)) (fun g o k1 k2=>by
   rcases k2 with k2|k2
   ·exact h.dx b g o (hob▸k1.1) k2
   ·exact k1.2 k2)
  have hRS: ∀g o,RS E w (al ob X) g o→RS E w (al (bi ob b fun g o=>Ob g o∧ ¬iO l j n g o) (fun g o=>X g o∨iO l j n g o)) g o:=fun g o k=>⟨k.1,k.2.1,fun m=>k.2.2 ((hown g o).1 m)⟩
  have hL1:Left E a w X loc ob _ (fun g o=>X g o∨iO l j n g o) _ (iO l j n):=⟨hrel1,fun g o=>Iff.rfl,fun g o k1 k2=>h.dx b g o (hob▸hCO g o k2) k1,fun g o k=>(hown g o).1 k⟩
  let vl:List Value:=(List.range n).map fun k=>vs (j+k)
  obtain⟨ys,st',X2,ob2,O2,⟨hkn,hK⟩,hL2,hp⟩:=fd ((row.drop j).take n) vl _ _ _ _ hrel1 (by simp[vl];omega) (fun k c u h1 h2=>by
   have hkn:k<n:=by
    have:=(List.getElem?_eq_some_iff.1 h2).1
    simpa[vl]using this
   rw[List.getElem?_take_of_lt hkn,List.getElem?_drop]at h1
   obtain⟨c',e1,e2,e3⟩:=hin (j+k) (by omega) (by omega)
   rw[h1]at e1;injection e1 with e1;subst e1
   have:u=vs (j+k):=by simpa[vl,hkn]using h2.symm
   subst this
   exact((hxx (j+k) c h1 e3).emp_weak (hemp _ c h1 e3 e2) ah).weak hRS fun _ _ k=>k) hk
  obtain⟨hL,hdis⟩:=hL1.trans hL2
  obtain⟨hyl,os2,hy,hu⟩:=aL _ _ _ hp
  have hyn:ys.length=n:=by rw[←hyl];simp[vl]
  refine⟨_,st',X2,ob2,_,hK,hL,?_⟩
  refine AR.obj (fun k=>vs (j+k)) os2 ?_ (fun c hc=>by simpa using List.all_eq_true.1 hkn c hc) (fun k hk=> ?_) (fun k c h1=> ?_) (fun g o=> ?_) (fun k hk o h1 h2 h3=> ?_) (fun k k' hk hk' hne=>hu.dis k k' hk hk' hne)
  ·rw[hyn]
   refine hb.mono ?_
   rw[←hz]
   simp
   omega
  ·rw[hyn]at hk
   obtain⟨c,e1,e2,e3⟩:=hin (j+k) (by omega) (by omega)
   have:=hc (j+k) c e1 e3
   simp only[Nat.zero_mul,Nat.add_zero,←Nat.add_assoc]at this⊢
   exact this
  ·have hk:k<n:=by rw[←hyn];exact(List.getElem?_eq_some_iff.1 h1).1
   exact hy k c _ h1 (by simp[vl,hk])
  ·simp only[iO,Nat.zero_mul,Nat.add_zero]
   rw[hu.iff]
   rw[hyn]
  ·refine hL2.dis l.g o (.inr ⟨rfl,?_,?_⟩) ((hu.iff _ _).2 ⟨k,hk,h3⟩)
   ·simpa using h1
   ·rw[←hyn];simpa using h2
theorem oK: ∀(fs:List (Option Nat))(as:List AV)(vs:List Value)(st:St)(X:Cells)(ob:Nat→Cells)(K:List AV→St→Prop),RelC E st a w X loc ob→vs.length=as.length→
  (∀(k:Nat) x v,as[k]? =some x→vs[k]? =some v→AR w (RS E w (al ob X)) loc x v ae)→gU fs as st K→
  ∃ys st' X' ob' O,K ys st'∧Left E a w X loc ob st' X' ob' O∧Parts w (RS E w (al ob' X')) aC ys vs O∧nD fs ys
 |[],[],[],st,X,ob,K,h,_,_,hk=>⟨[],st,X,ob,ae,hk,Left.refl h,ah,trivial⟩
 |[],[],_::_,_,_,_,_,_,hl,_,_=>by simp at hl
 |[],_::_,_,_,_,_,_,_,_,_,hk=>hk.elim
 |none::_,[],_,_,_,_,_,_,_,_,hk=>hk.elim
 |some _::_,[],_,_,_,_,_,_,_,_,hk=>hk.elim
 |_::_,_::_,[],_,_,_,_,_,hl,_,_=>by simp at hl
 |none::fs,x::as,v::vs,st,X,ob,K,h,hl,hx,hk=>by
  obtain⟨ys,st',X2,ob2,O2,hK,hL2,hp2,hfl⟩:=oK fs as vs st X ob _ h (by simpa using hl) (fun k y u h1 h2=>hx (k+1) y u (by simpa using h1) (by simpa using h2)) hk
  exact⟨.undef::ys,st',X2,ob2,O2,hK,hL2,⟨ae,O2,fun g o=>by simp[ae],ah.disj,.sc trivial ah,hp2⟩,⟨rfl,hfl⟩⟩
 |some n::fs,x::as,v::vs,st,X,ob,K,h,hl,hx,hk=>by
  obtain⟨y,st1,X1,ob1,O1,hk,hL1,hy⟩:=A0 h (hx 0 x v (by simp) (by simp)) hk
  obtain⟨ys,st',X2,ob2,O2,hK,hL2,hp2,hfl⟩:=oK fs as vs st1 X1 ob1 _ hL1.rel (by simpa using hl) (fun k y u h1 h2=>(hx (k+1) y u (by simpa using h1) (by simpa using h2)).weak hL1.RS fun _ _ k=>k) hk
  obtain⟨hL,hd⟩:=hL1.trans hL2
  exact⟨y::ys,st',X2,ob2,_,hK,hL,⟨O1,O2,fun g o=>Iff.rfl,hd,hy.weak hL2.RS fun _ _ k=>k,hp2⟩,hfl⟩
theorem rF(h:RelC E st a w X loc ob){Rc:Cells}(hR: ∀g o,RS E w (al ob X) g o→Rc g o)(hb: ∀b g o,ob b g o→Rc g o): ∀(l ys:List AV)(vs:Nat→Value),(tM l).run st=some ys→
  (∀(k:Nat) x,l[k]? =some x→x.isUndef=false→x.light=true→AR w (RS E w (al ob X)) loc x (vs k) ae)→
  ys.length=l.length∧(∀x∈l,x.isUndef=false)∧(∀y∈ys,y.isUndef=false)∧ ∀(k:Nat) y,ys[k]? =some y→AR w Rc aC y (vs k) ae
 |[],ys,vs,hr,hx=>by
  obtain rfl:=au (st:=st) hr
  exact⟨rfl,fun x hx=>by simp at hx,fun x hx=>by simp at hx,fun k y h1=>by simp at h1⟩
 |x::l,ys,vs,hr,hx=>by
  obtain⟨hq,hr⟩:=bb hr
  simp only[Bool.and_eq_true,Bool.not_eq_true']at hq
  obtain⟨y,h1,hr⟩:=bind_some hr
  obtain⟨ys',h2,hr⟩:=bind_some hr
  obtain rfl:=au hr
  have hy:=iK h (hx 0 x rfl hq.1 hq.2) h1 hR (fun _=>hb)
  obtain⟨h3,h4,h5,h6⟩:=rF h hR hb l ys' (fun k=>vs (k+1)) h2 (fun k y k1=>hx (k+1) y (by simpa using k1))
  refine⟨by simp[h3],fun z hz=> ?_,fun z hz=> ?_,fun k y' u=> ?_⟩
  ·rcases List.mem_cons.1 hz with rfl|hz
   ·exact hq.1
   ·exact h4 z hz
  ·rcases List.mem_cons.1 hz with rfl|hz
   ·cases x with
    |undef=>simp[AV.isUndef]at hq
    |ref b off n=>
     have h1:=cM h1
     obtain⟨blk,_,h1⟩:=bind_some h1
     obtain⟨_,h1⟩:=bb h1
     obtain rfl:=au h1
     rfl
    |_=>obtain⟨_,h1⟩:=bb h1;obtain rfl:=au h1;rfl
   ·exact h5 z hz
  ·cases k with
   |zero=>simp only[List.getElem?_cons_zero,Option.some.injEq]at u;subst u;exact hy
   |succ k=>exact h6 k y' (by simpa using u)
theorem vk(h:RelC E st a w X loc ob){x y:AV}{v:Value}(hx:AR w (RS E w (al ob X)) loc x v ae)(hr:(Bh x).run st=some y){Rc:Cells}(hR: ∀g o,RS E w (al ob X) g o→Rc g o)
  (hb:x.leads0=true→ ∀b g o,ob b g o→Rc g o):AR w Rc aC y v ae:=by
 have lf: ∀x:AV,x.hasRef0=x.leads0→AR w (RS E w (al ob X)) loc x v ae→(ec x).run st=some y→(x.leads0=true→ ∀b g o,ob b g o→Rc g o)→AR w Rc aC y v ae:=fun x e hx hr hb=>iK h hx hr hR (by rw[e];exact hb)
 cases x with
 |ptr b i j=>
  cases i with
  |succ i=>cases hr
  |zero=>
   have hr:=cM hr
   split at hr
   case h_2=>cases hr
   rename_i arr lvl z rows hm
   split at hr
   case h_2=>cases hr
   split at hr
   case h_2=>cases hr
   rename_i row
   obtain⟨ys,h1,hr⟩:=bind_some hr
   obtain rfl:=au hr
   obtain⟨l,hll,hbd,hln,rfl⟩:=hx.inv_ptr
   have hat:=h.lv b _ hm
   have hbb:=hb rfl
   generalize hob:ob b=Ob at hat
   cases hat with
   |var l' vs os hl' hbd' hs hn hz hbf hc hxx hO hd hdd=>
    rw[hll]at hl';injection hl' with hl';subst hl'
    obtain⟨h2,h3,h4,h5⟩:=rF h hR hbb row ys vs h1 (fun k c k1 k2 k3=>(hxx k c k1 k2).emp_weak ((hxx k c k1 k2).light_emp k3) ah)
    have:=AR.rp (w:=w) (R:=Rc) (loc:=aC) (row:=ys) (j:=j) (g:=l.g) (o:=l.base) (O:=ae) vs ah hbf.lt h4 (fun k hk=>by
     have hlt:k<row.length:=by omega
     have e1:row[k]? =some row[k]:=List.getElem?_eq_getElem _
     have e2:=h3 row[k] (List.getElem_mem _)
     exact⟨hc k _ e1 e2,hbb b _ _ (by rw[hob];exact(hO _ _).2 ⟨k,_,e1,e2,.inl ⟨rfl,rfl⟩⟩)⟩) h5
    simpa using this
 |_=>exact lf _ rfl hx hr hb
theorem si(h:RelC E st a w X loc ob){Rc:Cells}(hR: ∀g o,RS E w (al ob X) g o→Rc g o): ∀(l ys:List AV)(vs:List Value),vs.length=l.length→(wK l).run st=some ys→
  (∀(k:Nat) x v,l[k]? =some x→vs[k]? =some v→AR w (RS E w (al ob X)) loc x v ae)→(l.any AV.leads0=true→ ∀b g o,ob b g o→Rc g o)→
  ys.length=l.length∧ ∀(k:Nat) y v,ys[k]? =some y→vs[k]? =some v→AR w Rc aC y v ae
 |[],ys,vs,hl,hr,hx,hb=>by
  obtain rfl:=au (st:=st) hr
  exact⟨rfl,fun k y v h1=>by simp at h1⟩
 |x::l,ys,[],hl,_,_,_=>by simp at hl
 |x::l,ys,v::vs,hl,hr,hx,hb=>by
  obtain⟨y,h1,hr⟩:=bind_some hr
  obtain⟨ys',h2,hr⟩:=bind_some hr
  obtain rfl:=au hr
  have hy:=vk h (hx 0 x v (by simp) (by simp)) h1 hR (fun hh=>hb (by simp[hh]))
  obtain⟨h3,h4⟩:=si h hR l ys' vs (by simpa using hl) h2 (fun k y u k1 k2=>hx (k+1) y u (by simpa using k1) (by simpa using k2)) (fun hh=>hb (by simp only[List.any_cons,hh,Bool.or_true]))
  refine⟨by simp[h3],fun k y' u k1 k2=> ?_⟩
  cases k with
  |zero=>
   simp only[List.getElem?_cons_zero,Option.some.injEq]at k1 k2
   subst k1;subst k2
   exact hy
  |succ k=>exact h4 k y' u (by simpa using k1) (by simpa using k2)
theorem AR.inv_fn{f:FuncId}{caps:List AV}{v:Value}{R:Cells}(h:AR w R loc (.fn f caps) v ae): ∃vs:Array Value,v=.func (.func f) #[] vs∧vs.size=caps.length∧ ∀(k:Nat) x c,caps[k]? =some x→vs[k]? =some c→AR w R loc x c ae:=by
 cases h with
 |sc h _=>exact h.elim
 | @fn _ _ _ vs _ os hn hx hu=>exact⟨vs,rfl,hn,fun k x c h1 h2=>(hx k x c h1 h2).emp_weak (fun g o m=>(hu.iff g o).2 ⟨k,(List.getElem?_eq_some_iff.1 h1).1,m⟩) ah⟩
theorem Ax(h:RelC E st a w X loc ob){x y:AV}{v:Value}(hx:AR w (RS E w (al ob X)) loc x v ae)(hr:(EN x).run st=some y){Rc:Cells}(hR: ∀g o,RS E w (al ob X) g o→Rc g o)
  (hb:x.leads=true→ ∀b g o,ob b g o→Rc g o):AR w Rc aC y v ae:=by
 cases x with
 |agg cs=>
  obtain⟨ys,h1,hr⟩:=bind_some hr
  obtain rfl:=au hr
  obtain⟨vs,rfl,hvl,hvx⟩:=hx.inv_agg
  obtain⟨h3,h4⟩:=iZ h hR cs ys vs.toList (by simpa using hvl) h1 (fun k x v h5 h6=>hvx k x v h5 (by simpa using h6)) hb
  exact .agg (fun _=>ae) (by omega) (fun k x v h5 h6=>h4 k x v h5 (by simpa using h6)) (nL _)
 |fn f caps=>
  obtain⟨ys,h1,hr⟩:=bind_some hr
  obtain rfl:=au hr
  obtain⟨vs,rfl,hvl,hvx⟩:=hx.inv_fn
  obtain⟨h3,h4⟩:=si h hR caps ys vs.toList (by simpa using hvl) h1 (fun k x v h5 h6=>hvx k x v h5 (by simpa using h6)) hb
  exact .fn (fun _=>ae) (by omega) (fun k x v h5 h6=>h4 k x v h5 (by simpa using h6)) (nL _)
 |_=>exact vk h hx hr hR hb
theorem se(h:RelC E st a w X loc ob){Rc:Cells}(hR: ∀g o,RS E w (al ob X) g o→Rc g o): ∀(l ys:List AV)(vs:List Value),vs.length=l.length→(oQ l).run st=some ys→
  (∀(k:Nat) x v,l[k]? =some x→vs[k]? =some v→AR w (RS E w (al ob X)) loc x v ae)→(l.any AV.leads=true→ ∀b g o,ob b g o→Rc g o)→Parts w Rc aC ys vs ae
 |[],ys,[],hl,hr,hx,hb=>by
  obtain rfl:=au (st:=st) hr
  exact ah
 |[],ys,_::_,hl,_,_,_=>by simp at hl
 |x::l,ys,[],hl,_,_,_=>by simp at hl
 |x::l,ys,v::vs,hl,hr,hx,hb=>by
  obtain⟨y,h1,hr⟩:=bind_some hr
  obtain⟨ys',h2,hr⟩:=bind_some hr
  obtain rfl:=au hr
  exact⟨ae,ae,fun g o=>by simp[ae],ah.disj,Ax h (hx 0 x v (by simp) (by simp)) h1 hR (fun hh=>hb (by simp[hh])),
   se h hR l ys' vs (by simpa using hl) h2 (fun k y u k1 k2=>hx (k+1) y u (by simpa using k1) (by simpa using k2)) (fun hh=>hb (by simp only[List.any_cons,hh,Bool.or_true]))⟩
theorem wC{O:Cells}(h:Emp O):O=ae:=by funext g o;exact propext ⟨fun k=>h g o k,fun k=>k.elim⟩
theorem og{R:Cells}: ∀(fs:List (Option Nat))(gs ys:List AV)(vs:List Value)(O:Cells),nD fs gs→Parts w R loc gs vs O→Parts w R loc ys vs ae→Parts w R loc (xg fs gs ys) vs O
 |[],[],ys,[],O,_,h,_=>h
 |[],[],ys,_::_,O,_,h,_=>h.elim
 |[],_::_,_,_,_,hl,_,_=>hl.elim
 |none::_,[],_,_,_,hl,_,_=>hl.elim
 |some _::_,[],_,_,_,hl,_,_=>hl.elim
 |_::_,_::_,[],[],_,_,h,_=>h.elim
 |_::_,_::_,[],_::_,_,_,_,h=>h.elim
 |_::_,_::_,_::_,[],_,_,h,_=>h.elim
 |none::fs,g::gs,y::ys,v::vs,O,⟨hg,hl⟩,⟨O1,O2,h1,h2,h3,h4⟩,⟨U1,U2,k1,k2,k3,k4⟩=>by
  subst hg
  have e0:Emp O1:=by cases h3 with|sc _ e=>exact e
  have e1:=wC (O:=U1) fun g o k=>(k1 g o).2 (.inl k)
  have e2:=wC (O:=U2) fun g o k=>(k1 g o).2 (.inr k)
  subst e1 e2
  exact⟨ae,O2,fun g o=>by rw[h1];exact⟨fun k=>.inr (k.resolve_left (e0 g o)),fun k=>.inr (k.resolve_left id)⟩,ah.disj,k3,og fs gs ys vs O2 hl h4 k4⟩
 |some _::fs,g::gs,y::ys,v::vs,O,hl,⟨O1,O2,h1,h2,h3,h4⟩,⟨U1,U2,k1,k2,k3,k4⟩=>by
  have e2:=wC (O:=U2) fun g o k=>(k1 g o).2 (.inr k)
  subst e2
  exact⟨O1,O2,h1,h2,h3,og fs gs ys vs O2 hl h4 k4⟩
def PtrAt(loc:bG)(x:AV)(v:Value):Prop:=match x with
 | .ptr b i j=> ∃l,loc b=some l∧l.bound=true∧v=.pointer (some ⟨l.g,l.base+i*l.s+j,none⟩)
 |_=>True
theorem BI(h:RelC E st a w X loc ob){x o:AV}{v:Value}{O Y:Cells}(hX: ∀g o,X g o↔O g o∨Y g o)(hd:Disj O Y)(ho:AR w (RS E w (al ob X)) aC o v O)(hp:PtrAt loc x v)(hx0: ∀b i j,x=.ptr b i j→i=0){b0:Nat}{K:St→Prop}
  (hk:mu x o b0 st K): ∃st' loc' ob',K st'∧Landed E st a w X loc ob st' Y loc' ob':=by
 unfold mu at hk
 split at hk
 case h_2=>exact hk.elim
 rename_i b i j
 obtain rfl:=hx0 b i j rfl
 split at hk
 case h_2=>exact hk.elim
 rename_i cs
 split at hk
 case h_2=>exact hk.elim
 rename_i arr lvl z rows hm
 split at hk
 case h_2=>exact hk.elim
 split at hk
 case h_2=>exact hk.elim
 rename_i row
 obtain⟨hq,hab,hK⟩:=hk
 simp only[Bool.and_eq_true,decide_eq_true_eq]at hq
 obtain⟨⟨hok,hjn⟩,hun⟩:=hq
 obtain⟨l,hll,hbd,rfl⟩:=hp
 have hab': ∀p∈(aD b0 cs).2,st.m p.1=.abs:=fun p hp=>by
  have:=List.all_eq_true.1 hab p hp
  cases hm':st.m p.1 with
  |abs=>rfl
  |_=>rw[hm']at this;cases this
 generalize hv:Value.pointer (some ⟨l.g,l.base+0*l.s+j,none⟩)=v at ho
 cases ho with
 |sc h _=>exact h.elim
 | @obj _ _ g oo _ vs os hbf hkn hc hxx hO hdo hdd=>
  simp only[Value.pointer.injEq,Option.some.injEq,Addr.mk.injEq,Nat.zero_mul,Nat.add_zero,and_true]at hv
  obtain⟨rfl,rfl⟩:=hv
  let n:=cs.length
  let O2:Cells:=fun g o=> ∃k,k<cs.length∧os k g o
  have hO': ∀g o,O g o↔iO l j n g o∨O2 g o:=fun g o=>by rw[hO];rfl
  have hsO2:Disj (iO l j n) O2:=fun g o ⟨e1,e2,e3⟩⟨k,k1,k2⟩=>by subst e1;exact hdo k k1 o e2 e3 k2
  let vl:List Value:=(List.range n).map vs
  have hpl:Parts w (RS E w (al ob X)) aC cs vl O2:=dh cs vl os O2 (by simp[vl,n]) (fun k x v h1 h2=>by
   have hk:k<n:=by have:=(List.getElem?_eq_some_iff.1 h1).1;exact this
   have:v=vs k:=by simpa[vl,hk]using h2.symm
   subst this
   exact hxx k x h1) ⟨fun g o=>Iff.rfl,hdd⟩
  let Y1:Cells:=fun g o=>iO l j n g o∨Y g o
  obtain⟨loc',ob',hL,hpi⟩:=ib cs vl st X O2 Y1 loc ob b0 h (fun g o=>by
   rw[hX,hO']
   exact⟨fun k=>k.elim (fun k=>k.elim (fun k=>.inr (.inl k)) .inl) fun k=>.inr (.inr k),fun k=>k.elim (fun k=>.inl (.inr k)) fun k=>k.elim (fun k=>.inl (.inl k)) .inr⟩)
   (fun g o k1 k2=>k2.elim (fun k2=>hsO2 g o k2 k1) fun k2=>hd g o ((hO' g o).2 (.inr k1)) k2) hpl hok hab'
  have hmb:(st.mws (aD b0 cs).2).m b=.live ⟨false,lvl,z,[row]⟩:=by
   rw[dJ _ _ fun p hp e=>by have:=hab' p hp;rw[e,hm]at this;cases this]
   exact hm
  have hat:=hL.rel.lv b _ hmb
  obtain⟨hil,os1,hi1,hi2⟩:=aL _ _ _ hpi
  have hin:(aD b0 cs).1.length=n:=by rw[←hil];simp[vl]
  have hlk: ∀(l:List AV)(b:Nat),l.all cG=true→ ∀x∈(aD b l).1,x.isUndef=false:=by
   intro l
   induction l with
   |nil=>intro b _ x hx;simp[aD]at hx
   |cons y l ih=>
    intro b hk x hx
    simp only[List.all_cons,Bool.and_eq_true]at hk
    simp only[aD,List.mem_cons]at hx
    rcases hx with rfl|hx
    ·cases y<;>first|rfl|(simp[cG,AV.light]at hk)
    ·exact ih _ hk.2 x hx
  have hjn':j+(aD b0 cs).1.length≤row.length:=by rw[hin];exact hjn
  generalize hob:ob' b=Ob at hat
  cases hat with
  | @var _ _ _ _ l' vs0 os0 hl' hbd' hs hn hz hb0 hc0 hx0' hO0 hd0 hdd0=>
   have hl2:=hL.ext _ _ hll
   rw[hl2]at hl';injection hl' with hl';subst hl'
   have hund: ∀k c,j≤k→k<j+n→row[k]? =some c→c.isUndef=true:=by
    intro k c h1 h2 h3
    have hmem:c∈(row.drop j).take cs.length:=by
     rw[List.mem_iff_getElem?]
     exact⟨k-j,by rw[List.getElem?_take_of_lt (by show k-j<n;omega),List.getElem?_drop,show j+(k-j)=k by omega];exact h3⟩
    exact List.all_eq_true.1 hun _ hmem
   have hget: ∀k c,(setCells row j (aD b0 cs).1)[k]? =some c→(j≤k∧k<j+n∧(aD b0 cs).1[k-j]? =some c)∨((k<j∨j+n≤k)∧row[k]? =some c):=by
    intro k c h1
    rw[ng hjn',hin]at h1
    split at h1
    ·rename_i hk;exact .inr ⟨.inl hk,h1⟩
    ·split at h1
     ·exact .inl ⟨by omega,by omega,h1⟩
     ·exact .inr ⟨.inr (by omega),h1⟩
   let vs':Nat→Value:=fun k=>if j≤k∧k<j+n then vs (k-j)else vs0 k
   let os':Nat→Cells:=fun k=>if j≤k∧k<j+n then ae else os0 k
   have hout: ∀k,(k<j∨j+n≤k)→ ¬(j≤k∧k<j+n):=fun k h=>by omega
   have hspan: ∀g o,iO l j n g o→Y1 g o:=fun g o k=>.inl k
   have hob0: ∀g o,Ob g o→ ¬iO l j n g o:=fun g o k1 k2=>hL.rel.dx b g o (hob▸k1) (hspan g o k2)
   have hbr:pf E w (al ob' Y1) loc' b (.live ⟨false,lvl,z,[setCells row j (aD b0 cs).1]⟩) (fun g o=>Ob g o∨iO l j n g o):=by
    refine BR.var l vs' os' hl2 hbd hs hn ((xt hjn').trans hz) hb0 (fun k c h1 h2=> ?_) (fun k c h1 h2=> ?_) (fun g o=> ?_) (fun k c k' c' h1 h2 h3 h4=> ?_) (fun k c k' c' h1 h2 h3 h4 hne=> ?_)
    ·rcases hget k c h1 with⟨e1,e2,e3⟩|⟨e1,e2⟩
     ·simp only[vs',if_pos (And.intro e1 e2)]
      have:=hc (k-j) (by show k-j<n;omega)
      rw[show l.base+j+(k-j)=l.base+k by omega]at this
      exact this
     ·simp only[vs',if_neg (hout k e1)]
      exact hc0 k c e2 h2
    ·rcases hget k c h1 with⟨e1,e2,e3⟩|⟨e1,e2⟩
     ·simp only[vs',os',if_pos (And.intro e1 e2)]
      have hkl:k-j<(aD b0 cs).1.length:=by omega
      exact(hi1 (k-j) c (vs (k-j)) e3 (by simp only[vl,List.getElem?_map];rw[List.getElem?_range (by omega)];rfl)).emp_weak (fun g o m=>(hi2.iff g o).2 ⟨k-j,hkl,m⟩) ah
     ·simp only[vs',os',if_neg (hout k e1)]
      exact hx0' k c e2 h2
    ·constructor
     ·rintro (k1|⟨rfl,k1,k2⟩)
      ·obtain⟨k,c,e1,e2,e3⟩:=(hO0 g o).1 k1
       have ho:k<j∨j+n≤k:=by
        by_cases hr:j≤k∧k<j+n
        ·have:=hund k c hr.1 hr.2 e1;rw[e2]at this;cases this
        ·omega
       refine⟨k,c,?_,e2,by simp only[os',if_neg (hout k ho)];exact e3⟩
       rw[ng hjn',hin]
       by_cases hk:k<j
       ·rw[if_pos hk];exact e1
       ·rw[if_neg hk,if_neg (by omega)];exact e1
      ·have hkl:o-l.base-j<(aD b0 cs).1.length:=by omega
       refine⟨o-l.base,(aD b0 cs).1[o-l.base-j],?_,hlk cs b0 hok _ (List.getElem_mem _),.inl ⟨rfl,by omega⟩⟩
       rw[ng hjn',hin,if_neg (by omega),if_pos (by omega)]
       exact List.getElem?_eq_getElem _
     ·rintro ⟨k,c,e1,e2,e3⟩
      rcases hget k c e1 with⟨f1,f2,f3⟩|⟨f1,f2⟩
      ·simp only[os',if_pos (And.intro f1 f2)]at e3
       rcases e3 with⟨rfl,rfl⟩|e3
       ·exact .inr ⟨rfl,by omega,by omega⟩
       ·exact e3.elim
      ·simp only[os',if_neg (hout k f1)]at e3
       exact .inl ((hO0 g o).2 ⟨k,c,f2,e2,e3⟩)
    ·intro hmm
     rcases hget k c h1 with⟨f1,f2,f3⟩|⟨f1,f2⟩
     ·simp only[os',if_pos (And.intro f1 f2)]at hmm;exact hmm
     ·simp only[os',if_neg (hout k f1)]at hmm
      rcases hget k' c' h3 with⟨g1,g2,g3⟩|⟨g1,g2⟩
      ·exact hob0 _ _ ((hO0 _ _).2 ⟨k,c,f2,h2,.inr hmm⟩) ⟨rfl,by omega,by omega⟩
      ·exact hd0 k c k' c' f2 h2 g2 h4 hmm
    ·intro g o m1 m2
     rcases hget k c h1 with⟨f1,f2,f3⟩|⟨f1,f2⟩
     ·simp only[os',if_pos (And.intro f1 f2)]at m1;exact m1
     ·simp only[os',if_neg (hout k f1)]at m1
      rcases hget k' c' h3 with⟨g1,g2,g3⟩|⟨g1,g2⟩
      ·simp only[os',if_pos (And.intro g1 g2)]at m2;exact m2
      ·simp only[os',if_neg (hout k' g1)]at m2
       exact hdd0 k c k' c' f2 h2 g2 h4 hne g o m1 m2
   have hown: ∀g o,al (bi ob' b fun g o=>Ob g o∨iO l j n g o) Y g o↔al ob' Y1 g o:=by
    intro g o
    constructor
    ·rintro (⟨b',k⟩|k)
     ·by_cases hbb:b'=b
      ·subst hbb
       simp only[bi,if_true]at k
       rcases k with k|k
       ·exact .inl ⟨b',by rw[hob];exact k⟩
       ·exact .inr (.inl k)
      ·simp only[bi,hbb,if_false]at k;exact .inl ⟨b',k⟩
     ·exact .inr (.inr k)
    ·rintro (⟨b',k⟩|k|k)
     ·by_cases hbb:b'=b
      ·subst hbb;exact .inl ⟨b',by simp only[bi,if_true];rw[hob]at k;exact .inl k⟩
      ·exact .inl ⟨b',by simpa only[bi,hbb,if_false]using k⟩
     ·exact .inl ⟨b,by simp only[bi,if_true];exact .inr k⟩
     ·exact .inr k
   have hsY: ∀g o,iO l j n g o→Y g o→False:=fun g o k1 k2=>hd g o ((hO' g o).2 (.inl k1)) k2
   have hfin:=hL.rel.part (X':=Y) hown hbr (fun b' hne g o k1 k2=>by
    rcases k2 with k2|k2
    ·exact hL.rel.db b' b hne g o k1 (hob▸k2)
    ·exact hL.rel.dx b' g o k1 (.inl k2)) (fun b' hne g o k1 k2=>hL.rel.dx b' g o k1 (.inr k2)) (fun g o k1 k2=>by
    rcases k1 with k1|k1
    ·exact hL.rel.dx b g o (hob▸k1) (.inr k2)
    ·exact hsY g o k1 k2)
   refine⟨_,loc',_,hK,hfin,?_,hL.ext⟩
   rw[←hL.own]
   funext g o
   exact propext (hown g o)
theorem PtrAt.ext{loc':bG}{x:AV}{v:Value}(h:PtrAt loc x v)(hl: ∀b l,loc b=some l→loc' b=some l):PtrAt loc' x v:=by
 cases x<;>first|trivial|(obtain⟨l,h1,h2⟩:=h;exact⟨l,hl _ _ h1,h2⟩)
def tH:List (Option Nat)→List AV→Prop
 |[],[]=>True
 |none::fs,_::as=>tH fs as
 |some _::fs,x::as=>(∀b i j,x=.ptr b i j→i=0)∧tH fs as
 |_,_=>False
theorem oi: ∀(fs:List (Option Nat))(as os:List AV)(vs:List Value)(b0:Nat)(st:St)(X O Y:Cells)(loc:bG)(ob:Nat→Cells)(K:St→Prop),RelC E st a w X loc ob→(∀g o,X g o↔O g o∨Y g o)→Disj O Y→
  Parts w (RS E w (al ob X)) aC os vs O→(∀(k:Nat) x v,as[k]? =some x→vs[k]? =some v→PtrAt loc x v)→tH fs as→kE fs as os b0 st K→ ∃st' loc' ob',K st'∧Landed E st a w X loc ob st' Y loc' ob'
 |[],[],[],[],b0,st,X,O,Y,loc,ob,K,h,hX,hd,hp,_,_,hk=>⟨st,loc,ob,hk,Landed.refl h fun g o=>(hX g o).trans ⟨fun k=>k.resolve_left (hp g o),.inr⟩⟩
 |[],[],[],_::_,_,_,_,_,_,_,_,_,_,_,_,hp,_,_,_=>hp.elim
 |[],_::_,_,_,_,_,_,_,_,_,_,_,_,_,_,_,_,_,hk=>by cases ‹List AV› <;>exact hk.elim
 |[],[],_::_,_,_,_,_,_,_,_,_,_,_,_,_,_,_,_,hk=>hk.elim
 |none::_,[],_,_,_,_,_,_,_,_,_,_,_,_,_,_,_,hz,_=>hz.elim
 |some _::_,[],_,_,_,_,_,_,_,_,_,_,_,_,_,_,_,hz,_=>hz.elim
 |none::_,_::_,[],_,_,_,_,_,_,_,_,_,_,_,_,_,_,_,hk=>hk.elim
 |some _::_,_::_,[],_,_,_,_,_,_,_,_,_,_,_,_,_,_,_,hk=>hk.elim
 |_::_,_::_,_::_,[],_,_,_,_,_,_,_,_,_,_,_,hp,_,_,_=>hp.elim
 |none::fs,x::as,o::os,v::vs,b0,st,X,O,Y,loc,ob,K,h,hX,hd,⟨O1,O2,h1,h2,h3,h4⟩,hpt,hz,⟨hu,hk⟩=>by
  subst hu
  have e1:Emp O1:=by cases h3 with|sc _ e=>exact e
  have e2:O2=O:=by funext g o;exact propext ⟨fun k=>(h1 g o).2 (.inr k),fun k=>((h1 g o).1 k).resolve_left (e1 g o)⟩
  subst e2
  exact oi fs as os vs b0 st X O2 Y loc ob K h hX hd h4 (fun k y u k1 k2=>hpt (k+1) y u (by simpa using k1) (by simpa using k2)) hz hk
 |some n::fs,x::as,o::os,v::vs,b0,st,X,O,Y,loc,ob,K,h,hX,hd,⟨O1,O2,h1,h2,h3,h4⟩,hpt,⟨hz0,hz⟩,hk=>by
  obtain⟨st1,loc1,ob1,hk1,hL1⟩:=BI (Y:=fun g o=>O2 g o∨Y g o) h (fun g o=>by rw[hX,h1,or_assoc]) (fun g o k1 k2=>k2.elim (fun k2=>h2 g o k1 k2) fun k2=>hd g o ((h1 g o).2 (.inl k1)) k2) h3 (hpt 0 x v rfl rfl) hz0 hk
  have hRS:RS E w (al ob1 fun g o=>O2 g o∨Y g o)=RS E w (al ob X):=by rw[hL1.own]
  obtain⟨st2,loc2,ob2,hk2,hL2⟩:=oi fs as os vs (b0+100) st1 _ O2 Y loc1 ob1 K hL1.rel (fun g o=>Iff.rfl) (fun g o k1 k2=>hd g o ((h1 g o).2 (.inr k1)) k2) (by rw[hRS];exact h4)
   (fun k y u k1 k2=>(hpt (k+1) y u (by simpa using k1) (by simpa using k2)).ext hL1.ext) hz hk1
  exact⟨st2,loc2,ob2,hk2,hL1.trans hL2⟩
theorem xc{x:AV}{n:Nat}{K:AV→St→Prop}(hk:jp x n st K): ∀b i j,x=.ptr b i j→i=0:=by
 rintro b i j rfl
 cases i with
 |zero=>rfl
 |succ i=>exact hk.elim
theorem kV: ∀(fs:List (Option Nat))(as:List AV)(st:St)(K:List AV→St→Prop),gU fs as st K→tH fs as
 |[],[],_,_,_=>trivial
 |[],_::_,_,_,hk=>hk.elim
 |none::_,[],_,_,hk=>hk.elim
 |some _::_,[],_,_,hk=>hk.elim
 |none::fs,x::as,st,K,hk=>kV fs as st _ hk
 |some n::fs,x::as,st,K,hk=>by
  refine⟨xc hk,?_⟩
  have ex: ∀(l:List AV)(st:St)(K:List AV→St→Prop),cD l st K→ ∃ys st',K ys st':=by
   intro l
   induction l with
   |nil=>intro st K h;exact⟨_,_,h⟩
   |cons y l ih=>intro st K h;obtain⟨p,_,h⟩:=cO h;obtain⟨ys,st',h⟩:=ih _ _ h;exact⟨_,_,h⟩
  have: ∃y st',gU fs as st' fun l st=>K (y::l) st:=by
   have hk:jp x n st fun y st=>gU fs as st fun l st=>K (y::l) st:=hk
   unfold jp at hk
   split at hk
   case h_2=>exact hk.elim
   split at hk
   case h_2=>exact hk.elim
   split at hk
   case h_2=>exact hk.elim
   split at hk
   case h_2=>exact hk.elim
   split at hk
   case h_2=>exact hk.elim
   obtain⟨_,hk⟩:=hk
   obtain⟨ys,st',_,hk⟩:=ex _ _ _ hk
   exact⟨_,_,hk⟩
  obtain⟨y,st',hk⟩:=this
  exact kV fs as st' _ hk
theorem AR.nrO_any{R R':Cells}{x:AV}{v:Value}{O:Cells}(h:AR w R aC x v O)(hx:x.nrO=true):AR w R' aC x v O:=by
 cases x with
 |obj cs=>
  cases h with
  |sc h e=>exact h.elim
  |obj vs os hb hk hc hxx hO hd hdd=>exact .obj vs os hb hk hc (fun k x h1=>(hxx k x h1).nr0_any (List.all_eq_true.1 hx x (List.mem_of_getElem? h1))) hO hd hdd
 |_=>exact h.nr0_any hx
theorem sr{R R':Cells}: ∀(l:List AV)(vs:List Value)(O:Cells),l.all AV.nrO=true→Parts w R aC l vs O→Parts w R' aC l vs O
 |[],[],O,_,h=>h
 |[],_::_,O,_,h=>h.elim
 |_::_,[],O,_,h=>h.elim
 |x::l,v::vs,O,hn,⟨O1,O2,h1,h2,h3,h4⟩=>by
  simp only[List.all_cons,Bool.and_eq_true]at hn
  exact⟨O1,O2,h1,h2,h3.nrO_any hn.1,sr l vs O2 hn.2 h4⟩
end
end Go.Abs

/- The abstract layer, 18: regions. -/
noncomputable section
namespace Go.Abs
open Go
def rc(c:Call)(fo:Operand):RP (AV × List AV × List AV):=(cK fo).bind fun fv=>(gk c.args.toList).bind fun as=>(ea as).bind fun ys=>.ret (fv,as,ys)
def fh(o:Oper)(st:St)(res:AV)(K:St→Prop):Prop:=match o.dst with
 |none=>K st
 |some d=>Rq (gm res) (Rq ((gP (EF d 0) res).2.all fun p=>match st.m p.1 with| .abs=>true|_=>false) (Rq (decide (d<st.n)) (K ((st.mws (gP (EF d 0) res).2).put (some d) (gP (EF d 0) res).1))))
def Aw(P:Program)(o:Oper)(st:St)(K:St→Prop)(f:FuncId)(as:List AV)(j:Nat):Prop:=
 ∃b lvl z rows ys lvl' z' rows' res,as[j]? =some (.ref b 0 rows.length)∧st.m b=.live ⟨true,lvl,z,rows⟩∧lvl≤1∧(ea (as.set j .undef)).run (st.mws [(b,.dead)])=some ys∧
  Con P f (ys.set j (.own lvl z rows)) ((aa as).set j (.own lvl' z' rows')) res∧rows'.length=rows.length∧z'.length=z.length∧lvl'≤1∧
  (!((as.set j .undef).any AV.hasRef)||(res.nr&&lvl'==0))=true∧fh o (st.mws [(b,.live ⟨true,lvl',z',rows'⟩)]) res K
structure HLf where
 b:Nat
 lvl:Nat
 z:List AV
 rows:List (List AV)
 lvl':Nat
 z':List AV
 rows':List (List AV)
def B3:Option HLf→AV→AV
 |none,x=>x
 |some h,_=>.own h.lvl h.z h.rows
def sB:Option HLf→AV
 |none=>.undef
 |some h=>.own h.lvl' h.z' h.rows'
def lZ:List (Option HLf)→List Nat
 |[]=>[]
 |some h::l=>h.b::lZ l
 |none::l=>lZ l
def zm:List (Option HLf)→List (Nat × MB)
 |[]=>[]
 |some h::l=>(h.b,.live ⟨true,h.lvl',h.z',h.rows'⟩)::zm l
 |none::l=>zm l
def DB(st:St):List (Option HLf)→List AV→Prop
 |[],[]=>True
 |none::ds,x::cs=>x.goes=true∧DB st ds cs
 |some h::ds,x::cs=>(x=.ref h.b 0 h.rows.length∧st.m h.b=.live ⟨true,h.lvl,h.z,h.rows⟩∧h.lvl≤1∧h.rows'.length=h.rows.length∧h.z'.length=h.z.length∧(lZ ds).contains h.b=false)∧DB st ds cs
 |_,_=>False
def iu:List (Option HLf)→List AV→List AV
 |d::ds,x::cs=>B3 d x::iu ds cs
 |_,_=>[]
def wB(P:Program)(o:Oper)(st:St)(K:St→Prop)(f:FuncId)(as:List AV):Prop:=
 ∃cs rest ds ys res,as=.agg cs::rest∧DB st ds cs∧rest.any AV.hasRef=false∧(ea rest).run ⟨0,fun _=>.undef,fun _=>.abs,[]⟩=some ys∧
  Con P f (.agg (iu ds cs)::ys) (.agg (ds.map sB)::aa rest) res∧fh o (st.mws (zm ds)) res K
def nq(P:Program)(o:Oper)(st:St)(K:St→Prop)(q:AV × List AV × List AV):Prop:=match q.1 with
 | .fn f caps=>match caps with
  |[]=>(∃res,Con P f q.2.2 (aa q.2.2) res∧(Rq (!(q.2.1.any AV.hasRef)||res.nr) (fh o st res K)∨fh o (st.mws (jy q.2.1)) res K))∨(∃j,Aw P o st K f q.2.1 j)∨wB P o st K f q.2.1
  |_=>False
 |_=>False
def kD(P:Program)(c:Call)(fo:Operand)(o:Oper)(st:St)(K:St→Prop):Prop:=(cK fo).runK st fun fv=>(gk c.args.toList).runK st fun as=>match fv with
 | .fn f caps=> ∃fs,gU fs (as++caps) st fun gs st1=>(oQ (eM fs (as++caps))).runK st1 fun ys=> ∃os res b0,Con P f (xg fs gs ys) os res∧
   (!((eM fs (as++caps)).any AV.leads)||(res.nr&&os.all AV.nrO))=true∧kE fs (as++caps) os b0 st1 fun st2=>fh o st2 res K
 |_=>False
def GZ(T:TT)(o:Oper)(st:St)(K:St→Prop):Prop:=Rq (st.dstOk o.dst) ((io T o).runK st fun r=>K (st.after o r))
def tT:Operand→Bool
 | .const (.slice none 0 0)=>true
 |_=>false
def qR(T:TT)(t:TypeId):Bool:=match T.get t with
 |some i=>match i.ut with
  | .slice _=>true
  |_=>false
 |none=>false
def Da:AV→Option Nat
 | .ref _ _ n=>some n
 | .ro _ r=>some r.length
 | .emp=>some 0
 |_=>none
def FW(T:TT)(o:Oper)(op:BinOp)(t:TypeId)(x y:Operand)(st:St)(K:St→Prop):Prop:=
 tT y=true∧qR T t=true∧st.dstOk o.dst=true∧ ∃v n,(cK x).run st=some v∧Da v=some n∧ ∀b:Bool,(b=true→n=0)→match op with
  | .eql=>K (st.put o.dst (.bool b))
  | .neq=>K (st.put o.dst (.bool (!b)))
  |_=>False
def tY(P:Program)(T:TT)(o:Oper)(st:St)(K:St→Prop):Prop:=match o.op with
 | .call c=>match c.callee with
  | .value f=>(rc c f).runK st (nq P o st K)∨kD P c f o st K
  |_=>GZ T o st K
 | .binOp op t x y _=>GZ T o st K∨FW T o op t x y st K
 |_=>GZ T o st K
def jE(ops:List Oper)(o:Oper):Option (Option (Nat × Bool)):=match o.guard with
 |none=>some none
 |some (j,want)=>match ops[j]? with
  |some g=>match g.dst with
   |some d=>some (some (d,want))
   |none=>none
  |none=>none
def tF(d:Nat)(want:Bool)(o:Oper)(st:St)(X:St→Prop)(K:St→Prop):AV→Prop
 | .bool b=>Br b
   (if want=true then X (st.put (some d) (.bool true))else K ((st.put (some d) (.bool true)).put o.dst (.tup [])))
   (if want=true then K ((st.put (some d) (.bool false)).put o.dst (.tup []))else X (st.put (some d) (.bool false)))
 | .tup []=>K (st.put o.dst (.tup []))
 |_=>False
def jU(P:Program)(T:TT)(ops:List Oper)(o:Oper)(st:St)(K:St→Prop):Prop:=match jE ops o with
 |some none=>tY P T o st K
 |some (some q)=>Rq (st.dstOk o.dst) (tF q.1 q.2 o st (fun st'=>tY P T o st' K) K (st.t q.1))
 |none=>False
def StL(st st':St):Prop:= ∀(E:Env)(a:Act)(w:World),Rel E st a w ae→Rel E st' a w ae
theorem StL.refl(st:St):StL st st:=fun _ _ _ h=>h
theorem StL.trans{x y z:St}(h1:StL x y)(h2:StL y z):StL x z:=fun E a w h=>h2 E a w (h1 E a w h)
def vg(P:Program)(T:TT)(ops:List Oper):List Oper→St→(St→Prop)→Prop
 |[],st,K=>K st
 |o::rest,st,K=>jU P T ops o st fun st'=> ∃st'',StL st' st''∧vg P T ops rest st'' K
section
variable{P:Program}{T:TT}{E:Env}{o:Oper}{st:St}{a:Act}{w:World}{X:Cells}{loc:bG}{ob:Nat→Cells}{r:di}
theorem Tabs.at(hb:Tabs P E.w0 E.O0)(h:RelC E st a w X loc ob):Tabs P w X:=fun x hx g hg=>by
 obtain⟨⟨e,fz,h1⟩,h2⟩:=hb x hx g hg
 have hlt:g<E.w0.heap.size:=(Array.getElem?_eq_some_iff.1 h1).1
 refine⟨⟨e,fz,(h.fr.same g hlt h2).trans h1⟩,fun o ho=> ?_⟩
 rcases h.sub g o (.inr ho)with k|k
 ·exact h2 o k
 ·omega
theorem wy(hT:T.ok P)(h:Rel E st a w ae){K:St→Prop}(hk:GZ T o st K){next:Act→World→Prop}{Q:Exit→Act→World→Prop}(hn: ∀st' a' w',K st'→Rel E st' a' w' ae→next a' w'):
  o.wp P a w next Q:=by
 obtain⟨loc,ob,h⟩:=h
 obtain⟨hd,hr⟩:=hk
 obtain⟨r,hr,hK⟩:=cO hr
 obtain⟨nx,a',w',h1,h2,h3⟩:=uo hd (DV hT h hr)
 unfold Oper.wp
 rw[h1]
 rcases h2 with⟨v,rfl,rfl⟩|⟨rfl,rfl⟩
 ·exact hn _ _ _ hK h3
 ·exact hn _ _ _ hK h3
theorem ic{res:AV}{K:St→Prop}(h:fh o st res K): ∃st',qv o st res st'∧K st':=by
 unfold fh at h
 split at h
 ·rename_i hd
  exact⟨st,by unfold qv;rw[hd],h⟩
 ·rename_i d hd
  obtain⟨h1,h2,h3,h4⟩:=h
  refine⟨_,?_,h4⟩
  unfold qv
  rw[hd]
  refine⟨h1,fun p hp=> ?_,of_decide_eq_true h3,rfl⟩
  have:=List.all_eq_true.1 h2 p hp
  cases hm:st.m p.1 with
  |abs=>rfl
  |_=>rw[hm]at this;cases this
theorem pI(h:RelC E st a w X loc ob){w':World}{O' Rc:Cells}{nr:Bool}(hRc: ∀g o,Rc g o→RS E w (al ob X) g o∨(nr=true∧ ∃b,ob b g o))(hn:nr=false)(hlt: ∀b g o,ob b g o→g<w.heap.size)(hdx: ∀b g o,ob b g o→ ¬RS E w (al ob X) g o)(hX: ∀g o,X g o→E.O0 g o∨E.w0.heap.size≤g)
  (hF:Frame w w' X): ∀g o,RS ⟨w,Rc,X,aC⟩ w' O' g o→RS E w' (al ob O') g o:=by
 intro g o ⟨h1,h2,h3⟩
 refine⟨?_,h2,?_⟩
 ·rcases h1 with h1|h1|h1
  ·rcases hRc g o h1 with h1|⟨hh,_⟩
   ·exact h1.1
   ·rw[hn]at hh;cases hh
  ·rcases hX g o h1 with h1|h1
   ·exact .inr (.inl h1)
   ·exact .inr (.inr h1)
  ·exact .inr (.inr (Nat.le_trans h.fr.size h1))
 ·rintro (⟨b,k⟩|k)
  ·rcases h1 with h1|h1|h1
   ·rcases hRc g o h1 with h1|⟨hh,_⟩
    ·exact h1.2.2 (.inl ⟨b,k⟩)
    ·rw[hn]at hh;cases hh
   ·exact h.dx b g o k h1
   ·have h4:g<w.heap.size:=hlt b g o k
    have h5:w.heap.size≤g:=h1
    omega
  ·exact h3 k
theorem AR.own_flat{R R':Cells}{loc loc':bG}{z:List AV}{rows:List (List AV)}{v:Value}{O:Cells}(h:AR w R loc (.own 0 z rows) v O):AR w R' loc' (.own 0 z rows) v O:=by
 cases h with
 |sc h e=>exact h.elim
 |own0 e=>exact .own0 e
 |own vs os hcap hb hw hc hx hO hd hdd h0 h1 hm=>exact .own vs os hcap hb hw hc (fun i j row x k1 k2=>(hx i j row x k1 k2).flat_any (h0 rfl row (List.mem_of_getElem? k1) x (List.mem_of_getElem? k2))) hO hd hdd h0 h1 hm
theorem rk{c:Call}{fo:Operand}(ho:o.op=.call c)(hc:c.callee=.value fo){f:FuncId}(hok:wE P f)(hf:AR w (RS E w (al ob X)) loc (.fn f []) (a.eval fo) ae):
  (execOp a.eval o).run P w=.ok (.enter f (c.args.toList.map a.eval).toArray) w:=by
 have hfv:a.eval fo=.func (.func f) #[] #[]:=by
  generalize a.eval fo=ev at hf
  cases hf with
  |sc hs _=>exact hs.elim
  | @fn _ _ _ vs _ os hvn hvx hu=>
   have:vs=#[]:=by apply Array.eq_empty_of_size_eq_zero;simpa using hvn
   rw[this]
 obtain⟨_,op,ty,_,_,_⟩:=o
 subst ho
 simp only[execOp]
 rw[rh hc hfv hok]
 congr 2
 apply Array.ext'
 simp
theorem CE(tb:Tabs P E.w0 E.O0){c:Call}{fo:Operand}(ho:o.op=.call c)(hc:c.callee=.value fo)(h:RelC E st a w ae loc ob){K:St→Prop}{f:FuncId}{as:List AV}{j:Nat}(hf:AR w (RS E w (al ob ae)) loc (.fn f []) (a.eval fo) ae)
  (has:(gk c.args.toList).run st=some as)(hk:Aw P o st K f as j){next:Act→World→Prop}{Q:Exit→Act→World→Prop}
  (hn: ∀st' a' w',K st'→Rel E st' a' w' ae→next a' w'):o.wp P a w next Q:=by
 obtain⟨b,lvl,z,rows,ys,lvl',z',rows',res,haj,hm,hlvl,hys,hcon,hrl,hzl,hlvl',hq,hl⟩:=hk
 obtain⟨st',htook,hK⟩:=ic hl
 obtain⟨hal,hax⟩:=dR h has
 have hjl:j<as.length:=(List.getElem?_eq_some_iff.1 haj).1
 have hvl:(c.args.toList.map a.eval).length=as.length:=by simpa using hal.symm
 let vals:=c.args.toList.map a.eval
 have hvj:vals[j]? =some (vals[j]'(by show j<(c.args.toList.map a.eval).length;omega)):=List.getElem?_eq_getElem _
 generalize hv:vals[j]'(by show j<(c.args.toList.map a.eval).length;omega)=v at hvj
 have hvals: ∀(k:Nat) x v,as[k]? =some x→vals[k]? =some v→AR w (RS E w (al ob ae)) loc x v ae:=fun k x v h1 h2=>by
  simp only[vals,List.getElem?_map,Option.map_eq_some_iff]at h2
  obtain⟨op,h3,rfl⟩:=h2
  exact hax k x op h1 h3
 have hx:=hvals j _ v haj hvj
 obtain⟨l,hll,hn0,ad,cap,hveq,hcap,hcase⟩:=hx.inv_ref
 -- the general step: what goes over, what comes back
 have step: ∀(st1:St)(X1:Cells)(ob1:Nat→Cells),RelC E st1 a w X1 loc ob1→(∀g o,al ob1 X1 g o→al ob ae g o)→(ea (as.set j .undef)).run st1=some ys→AR w (RS E w (al ob1 X1)) aC (.own lvl z rows) v X1→
   (∀(w':World)(O1 O2 O':Cells),RelC E st1 a w' O' loc ob1→(∀g o,O' g o↔O1 g o∨O2 g o)→Disj O1 O2→AR w' (RS E w' (al ob1 O')) aC (.own lvl' z' rows') v O2→Frame w w' X1→
    ∃ob2,RelC E (st.mws [(b,.live ⟨true,lvl',z',rows'⟩)]) a w' O1 loc ob2∧ ∀g o,al ob2 O1 g o→al ob1 O' g o)→o.wp P a w next Q:=by
  intro st1 X1 ob1 hr1 hsub hys1 hown hback
  let Rc:Cells:=fun g o=>RS E w (al ob1 X1) g o∨((as.set j .undef).any AV.hasRef=true∧ ∃b,ob1 b g o)
  have hRc: ∀g o,RS E w (al ob1 X1) g o→Rc g o:=fun g o k=>.inl k
  have hRSs: ∀g o,RS E w (al ob ae) g o→RS E w (al ob1 X1) g o:=fun g o k=>⟨k.1,k.2.1,fun n=>k.2.2 (hsub g o n)⟩
  have hp:=iC hr1 hRc (as.set j .undef) ys vals (by simp[vals,←hal]) hys1 (fun k x u h1 h2=>by
   by_cases hkj:k=j
   ·subst hkj
    rw[List.getElem?_set_self (by omega)]at h1
    injection h1 with h1
    subst h1
    exact .sc trivial ah
   ·rw[List.getElem?_set_ne (by omega)]at h1
    exact(hvals k x u h1 h2).weak hRSs fun _ _ k=>k) (fun hh b g o k=>.inr ⟨hh,b,k⟩)
  obtain⟨hyl,os0,hy0,hu0⟩:=aL _ _ _ hp
  have hos0: ∀k,k<ys.length→Emp (os0 k):=fun k hk g o m=>(hu0.iff g o).2 ⟨k,hk,m⟩
  have hjy:j<ys.length:=by rw[←hyl];show j<(c.args.toList.map a.eval).length;omega
  have hp1:Parts w Rc aC (ys.set j (.own lvl z rows)) vals X1:=by
   refine dh _ _ (fun k=>if k=j then X1 else ae) _ (by simpa using hyl) (fun k x u h1 h2=> ?_) ⟨fun g o=> ?_,fun k1 k2 hk1 hk2 hne=> ?_⟩
   ·by_cases hkj:k=j
    ·subst hkj
     rw[List.getElem?_set_self hjy]at h1
     injection h1 with h1
     subst h1
     rw[hvj]at h2
     injection h2 with h2
     subst h2
     rw[if_pos rfl]
     exact hown.weak hRc fun _ _ k=>k
    ·rw[List.getElem?_set_ne (by omega)]at h1
     rw[if_neg hkj]
     have hk:k<ys.length:=(List.getElem?_eq_some_iff.1 h1).1
     exact(hy0 k x u h1 h2).emp_weak (hos0 k hk) ah
   ·constructor
    ·intro k;exact⟨j,by simpa using hjy,by simpa using k⟩
    ·rintro ⟨k,_,m⟩
     by_cases hkj:k=j
     ·simpa[hkj]using m
     ·simp[hkj,ae]at m
   ·intro g o m1 m2
    by_cases h1:k1=j
    ·by_cases h2:k2=j
     ·exact hne (h1.trans h2.symm)
     ·simp[h2,ae]at m2
    ·simp[h1,ae]at m1
  have hcalls:=hcon.calls w Rc X1 vals hp1 (fun g o k=>⟨by
   rcases k with k|⟨_,b,k⟩
   ·exact k.2.1
   ·exact hr1.lt g o (.inl ⟨b,k⟩),fun m=>by
   rcases k with k|⟨_,b,k⟩
   ·exact k.2.2 (.inr m)
   ·exact hr1.dx b g o k m⟩) (fun g o k=>hr1.lt g o (.inr k)) (tb.at hr1)
  unfold Oper.wp
  rw[rk ho hc hcon.ok hf,Oper.upon_enter]
  refine hcalls.mono fun e w' hb=> ?_
  cases e with
  |returned u=>
   obtain⟨O',hF,hO',O1,O2,hOO,hdd,hres,hrest⟩:=hb
   have hrel:RelC E st1 a w' O' loc ob1:=hr1.back (Rc:=Rc) hF hO'
   obtain⟨hul,os2,hx2,hu2⟩:=aL _ _ _ hrest
   have hj2:j<((aa as).set j (.own lvl' z' rows')).length:=by simp[aa];omega
   have hO2:O2=os2 j:=by
    funext g o
    refine propext ⟨fun k=> ?_,fun k=>(hu2.iff g o).2 ⟨j,hj2,k⟩⟩
    obtain⟨k',hk',m⟩:=(hu2.iff g o).1 k
    by_cases hkj:k'=j
    ·subst hkj;exact m
    ·exfalso
     have h1:((aa as).set j (.own lvl' z' rows'))[k']? =some .undef:=by
      rw[List.getElem?_set_ne (by omega)]
      simp[aa]at hk'⊢
      exact⟨_,List.getElem?_eq_getElem hk'⟩
     have h2:vals[k']? =some (vals[k']'(by rw[hul];exact hk')):=List.getElem?_eq_getElem _
     cases hx2 k' _ _ h1 h2 with
     |sc _ e=>exact e g o m
   have hown':AR w' (RS ⟨w,Rc,X1,aC⟩ w' O') aC (.own lvl' z' rows') v O2:=by
    rw[hO2]
    exact hx2 j _ v (List.getElem?_set_self (by simpa[aa]using hjl)) hvj
   have conv:((as.set j .undef).any AV.hasRef)=false→ ∀g o,RS ⟨w,Rc,X1,aC⟩ w' O' g o→RS E w' (al ob1 O') g o:=fun hno=>
    pI hr1 (nr:=(as.set j .undef).any AV.hasRef) (fun g o k=>k) hno (fun b g o k=>hr1.lt g o (.inl ⟨b,k⟩)) (fun b g o k m=>m.2.2 (.inl ⟨b,k⟩)) (fun g o k=>hr1.sub g o (.inr k)) hF
   have hpair:AR w' (RS E w' (al ob1 O')) aC res u O1∧AR w' (RS E w' (al ob1 O')) aC (.own lvl' z' rows') v O2:=by
    rcases(Bool.or_eq_true _ _).mp hq with hno|hnr
    ·have hno:((as.set j .undef).any AV.hasRef)=false:=by simpa using hno
     exact⟨hres.weak (conv hno) fun _ _ k=>k,hown'.weak (conv hno) fun _ _ k=>k⟩
    ·simp only[Bool.and_eq_true,beq_iff_eq]at hnr
     obtain⟨hnr,hl0⟩:=hnr
     subst hl0
     exact⟨hres.nr_any hnr,hown'.own_flat⟩
   obtain⟨ob2,hrel2,hsub2⟩:=hback w' O1 O2 O' hrel hOO hdd hpair.2 hF
   have hRS2: ∀g o,RS E w' (al ob1 O') g o→RS E w' (al ob2 O1) g o:=fun g o k=>⟨k.1,k.2.1,fun n=>k.2.2 (hsub2 g o n)⟩
   exact hn st' _ w' hK (nN hrel2 (hpair.1.weak hRS2 fun _ _ k=>k) htook)
  |panicked ch=>exact hb.elim
  |outgrown=>exact hb.elim
 by_cases hz:rows.length=0∧cap=0
 · -- nothing goes over
  obtain⟨hr0,rfl⟩:=hz
  have hrows:rows=[]:=List.length_eq_zero_iff.1 hr0
  subst hrows
  have hrows':rows'=[]:=List.length_eq_zero_iff.1 hrl
  subst hrows'
  refine step st ae ob h (fun _ _ k=>k) (mi hys) (by rw[hveq];exact .own0 ah) fun w' O1 O2 O' hr hOO hdd hx2 hF=> ?_
  refine⟨ob,?_,fun g o k=>k.elim .inl fun k=>.inr ((hOO g o).2 (.inl k))⟩
  refine hr.go ae rfl rfl (Frame.refl w' _) (fun g o k=> ?_) (fun _ _ k=>k.elim) (fun _ _ k=>k) (fun b'=> ?_) hr.db (fun b' g o k1 k2=>hr.dx b' g o k1 ((hOO g o).2 (.inl k2)))
  ·have:al ob O' g o:=k.elim .inl fun k=>.inr ((hOO g o).2 (.inl k))
   exact⟨.inl this,hr.lt g o this⟩
  ·by_cases hbb:b'=b
   ·subst hbb
    right
    simp only[St.mws,bi,if_true,pf]
    have hat:=hr.lv b' _ hm
    cases hat with
    |arr0 l hl hn hs hbd e=>exact .arr0 l hl hn (by rw[hs,hzl]) hbd e
    |arr l vs os hl hbd hs hn hb hw hc hx hO hd hdd h0 h1 hm'=>
     refine .arr l vs os hl hbd (by rw[hs,hzl]) hn (by simpa using hb) ⟨fun row h=>by simp at h,fun row h=>by simp at h⟩ (fun i j hi=>by simp at hi) (fun i j row x h=>by simp at h) ?_ (fun i j hi=>by simp at hi) (fun i j i' j' hi=>by simp at hi) (fun _ row h=>by simp at h) (fun _ row h=>by simp at h) hm'
     intro g' o'
     rw[hO]
     constructor
     ·rintro (k|⟨i,j,hi,_⟩)
      ·exact .inl k
      ·simp at hi
     ·rintro (k|⟨i,j,hi,_⟩)
      ·exact .inl k
      ·simp at hi
   ·left
    exact⟨by simp[St.mws,bi,hbb],rfl,rfl,fun _ _ k=>k.elim⟩
 · -- the block goes over
  have hcase:=hcase.resolve_left hz
  obtain⟨hbd,rfl,hBF⟩:=hcase
  have hexp:(dr (.ref b 0 rows.length)).run st=some (.own lvl z (am rows 0 rows.length),[(b,.dead)]):=by
   simp only[dr,RP.run,hm,kC,gX,RP.bind,mE,if_true]
   simp[hlvl]
  obtain⟨X1,ob1,O,hL,hown⟩:=jv h hx hexp
  have hX1:X1=O:=by funext g o;exact propext ((hL.iff g o).trans ⟨fun k=>k.resolve_left id,.inr⟩)
  subst hX1
  have hsa:am rows 0 rows.length=rows:=by simp[am]
  simp only[hsa]at hown
  have hat0:=h.lv b _ hm
  have hs0:l.s=z.length∧l.n=rows.length:=by
   obtain⟨l',hl'⟩:=hat0.loc_some
   cases hat0 with
   |arr0 l2 hl2 hn2 hs2 hbd2 e=>rw[hll]at hl2;injection hl2 with hl2;subst hl2;exact⟨hs2,hn2⟩
   |arr l2 vs os hl2 hbd2 hs2 hn2 _ _ _ _ _ _ _ _ _ _=>rw[hll]at hl2;injection hl2 with hl2;subst hl2;exact⟨hs2,hn2⟩
  refine step _ X1 ob1 hL.rel hL.own hys hown fun w' O1 O2 O' hr hOO hdd hx2 hF=> ?_
  have hdead:(st.mws [(b,.dead)]).m b=.dead:=by simp[St.mws,bi]
  have hemp:=(hr.dd b hdead).2
  have hsub: ∀g o,al (bi ob1 b O2) O1 g o→al ob1 O' g o:=by
   rintro g o (⟨b',k⟩|k)
   ·by_cases hbb:b'=b
    ·subst hbb;simp only[bi,if_true]at k;exact .inr ((hOO g o).2 (.inr k))
    ·simp only[bi,hbb,if_false]at k;exact .inl ⟨b',k⟩
   ·exact .inr ((hOO g o).2 (.inl k))
  have hRS3: ∀g o,RS E w' (al ob1 O') g o→RS E w' (al (bi ob1 b O2) O1) g o:=fun g o k=>⟨k.1,k.2.1,fun n=>k.2.2 (hsub g o n)⟩
  refine⟨bi ob1 b O2,?_,hsub⟩
  refine hr.go ae rfl rfl (Frame.refl w' _) (fun g o k=>⟨.inl (hsub g o k),hr.lt g o (hsub g o k)⟩) (fun _ _ k=>k.elim) (fun _ _ k=>k) (fun b'=> ?_) (fun b1 b2 hne g o k1 k2=> ?_) (fun b1 g o k1 k2=> ?_)
  ·by_cases hbb:b'=b
   ·subst hbb
    right
    simp only[St.mws,bi,if_true,pf]
    rw[hveq]at hx2
    generalize hve:(Value.slice (some ⟨l.g,l.base+0*l.s,none⟩) rows.length cap:Value)=v2 at hx2
    cases hx2 with
    |sc h e=>exact h.elim
    |own0 e=>simp only[Value.slice.injEq]at hve;exact(hz ⟨hve.2.1,hve.2.2⟩).elim
    | @own _ _ _ _ g oo cap2 _ vs os hcap2 hb2 hw2 hc2 hxx2 hO2 hd2 hdd2 h02 h12 hm2=>
     simp only[Value.slice.injEq,Option.some.injEq,Addr.mk.injEq,Nat.zero_mul,Nat.add_zero]at hve
     obtain⟨⟨rfl,rfl,_⟩,_,rfl⟩:=hve
     exact .arr l vs os hll hbd (by rw[hs0.1,hzl]) (by rw[hs0.2,hrl]) (hb2.mono (Nat.add_le_add_left (Nat.mul_le_mul_right _ hcap2) _)) hw2 hc2 (fun i j row x k1 k2=>(hxx2 i j row x k1 k2).weak hRS3 fun _ _ k=>k) hO2 hd2 hdd2 h02 h12 hm2
   ·left
    exact⟨by simp[St.mws,bi,hbb],by simp[bi,hbb],rfl,fun _ _ k=>k.elim⟩
  ·by_cases h1:b1=b
   ·subst h1
    have h2: ¬b2=b1:=fun e=>hne e.symm
    simp only[bi,if_true,h2,if_false]at k1 k2
    exact hr.dx b2 g o k2 ((hOO g o).2 (.inr k1))
   ·by_cases h2:b2=b
    ·subst h2
     simp only[bi,if_true,h1,if_false]at k1 k2
     exact hr.dx b1 g o k1 ((hOO g o).2 (.inr k2))
    ·simp only[bi,h1,h2,if_false]at k1 k2
     exact hr.db b1 b2 hne g o k1 k2
  ·by_cases h1:b1=b
   ·subst h1
    simp only[bi,if_true]at k1
    exact hdd g o k2 k1
   ·simp only[bi,h1,if_false]at k1
    exact hr.dx b1 g o k1 ((hOO g o).2 (.inl k2))
def vn(st1:St)(loc:bG)(h:HLf)(v:Value):Prop:=
 (h.rows=[]∧(∃ad,v=.slice ad 0 0)∧st1.m h.b=.live ⟨true,h.lvl,h.z,[]⟩)∨
 ∃l cap,loc h.b=some l∧l.bound=true∧v=.slice (some ⟨l.g,l.base,none⟩) h.rows.length cap∧ ¬(h.rows.length=0∧cap=0)∧l.s=h.z.length∧l.n=h.rows.length∧st1.m h.b=.dead
def FactsH(st1:St)(loc:bG):List (Option HLf)→List Value→Prop
 |[],[]=>True
 |none::ds,_::vs=>FactsH st1 loc ds vs
 |some h::ds,v::vs=>vn st1 loc h v∧FactsH st1 loc ds vs
 |_,_=>False
theorem FactsH.keep{st1 st2:St}: ∀{ds:List (Option HLf)}{vs:List Value},(∀b∈lZ ds,st2.m b=st1.m b)→FactsH st1 loc ds vs→FactsH st2 loc ds vs
 |[],[],_,_=>trivial
 |[],_::_,_,h=>h.elim
 |none::ds,[],_,h=>h.elim
 |some _::ds,[],_,h=>h.elim
 |none::ds,v::vs,hb,h=>FactsH.keep (ds:=ds) (fun b k=>hb b k) h
 |some d::ds,v::vs,hb,⟨h1,h2⟩=>⟨by
   have e:=hb d.b (by simp[lZ])
   unfold vn at h1⊢
   rw[e]
   exact h1,FactsH.keep (ds:=ds) (fun b k=>hb b (by simp[lZ,k])) h2⟩
theorem G6(h:RelC E st a w X loc ob){b lvl:Nat}{z:List AV}{rows:List (List AV)}{v:Value}(hm:st.m b=.live ⟨true,lvl,z,rows⟩)(hl:lvl≤1)(hx:AR w (RS E w (al ob X)) loc (.ref b 0 rows.length) v ae):
  ∃st1 X1 ob1 O,RelC E st1 a w X1 loc ob1∧(∀g o,X1 g o↔X g o∨O g o)∧Disj X O∧(∀g o,al ob1 X1 g o→al ob X g o)∧AR w (RS E w (al ob1 X1)) aC (.own lvl z rows) v O∧
   st1.t=st.t∧st1.n=st.n∧st1.an=st.an∧(∀b',b'≠b→st1.m b'=st.m b')∧ ∀lvl' z' rows',vn st1 loc ⟨b,lvl,z,rows,lvl',z',rows'⟩ v:=by
 obtain⟨l,hll,hn0,ad,cap,hveq,hcap,hcase⟩:=hx.inv_ref
 by_cases hz:rows.length=0∧cap=0
 ·obtain⟨hr0,rfl⟩:=hz
  have hrows:rows=[]:=List.length_eq_zero_iff.1 hr0
  subst hrows
  exact⟨st,X,ob,ae,h,fun g o=>by simp[ae],ah.disj',fun _ _ k=>k,by rw[hveq];exact .own0 ah,rfl,rfl,rfl,fun _ _=>rfl,fun _ _ _=>.inl ⟨rfl,⟨ad,hveq⟩,hm⟩⟩
 ·have hcase:=hcase.resolve_left hz
  obtain⟨hbd,rfl,hBF⟩:=hcase
  have hexp:(dr (.ref b 0 rows.length)).run st=some (.own lvl z (am rows 0 rows.length),[(b,.dead)]):=by
   simp only[dr,RP.run,hm,kC,gX,RP.bind,mE,if_true]
   simp[hl]
  obtain⟨X1,ob1,O,hL,hown⟩:=jv h hx hexp
  have hsa:am rows 0 rows.length=rows:=by simp[am]
  simp only[hsa]at hown
  have hat0:=h.lv b _ hm
  have hs0:l.s=z.length∧l.n=rows.length:=by
   cases hat0 with
   |arr0 l2 hl2 hn2 hs2 hbd2 e=>rw[hll]at hl2;injection hl2 with hl2;subst hl2;exact⟨hs2,hn2⟩
   |arr l2 vs os hl2 hbd2 hs2 hn2 _ _ _ _ _ _ _ _ _ _=>rw[hll]at hl2;injection hl2 with hl2;subst hl2;exact⟨hs2,hn2⟩
  refine⟨_,X1,ob1,O,hL.rel,hL.iff,hL.dis,hL.own,hown,rfl,rfl,rfl,fun b' hne=>by simp[St.mws,bi,hne],fun _ _ _=>.inr ⟨l,cap,hll,hbd,by simpa using hveq,hz,hs0.1,hs0.2,by simp[St.mws,bi]⟩⟩
theorem HQ{st1:St}{w':World}{Y O2:Cells}{h:HLf}{v:Value}(hr:RelC E st1 a w' X loc ob)(hX: ∀g o,X g o↔Y g o∨O2 g o)(hd:Disj Y O2)(hx:AR w' (RS E w' (al ob X)) aC (.own h.lvl' h.z' h.rows') v O2)(hf:vn st1 loc h v)
  (hrl:h.rows'.length=h.rows.length)(hzl:h.z'.length=h.z.length): ∃ob2,RelC E (st1.mws [(h.b,.live ⟨true,h.lvl',h.z',h.rows'⟩)]) a w' Y loc ob2∧ ∀g o,al ob2 Y g o→al ob X g o:=by
 obtain⟨b,lvl,z,rows,lvl',z',rows'⟩:=h
 simp only at hx hrl hzl hf⊢
 have hYX: ∀g o,al ob Y g o→al ob X g o:=fun g o k=>k.elim .inl fun k=>.inr ((hX g o).2 (.inl k))
 rcases hf with⟨hr0,⟨ad,hv⟩,hm⟩|⟨l,cap,hll,hbd,hv,hz,hs0,hn0,hdead⟩
 ·simp only at hr0 hm
  subst hr0
  have hrows':rows'=[]:=List.length_eq_zero_iff.1 hrl
  subst hrows'
  refine⟨ob,?_,hYX⟩
  refine hr.go ae rfl rfl (Frame.refl w' _) (fun g o k=>⟨.inl (hYX g o k),hr.lt g o (hYX g o k)⟩) (fun _ _ k=>k.elim) (fun _ _ k=>k) (fun b'=> ?_) hr.db (fun b' g o k1 k2=>hr.dx b' g o k1 ((hX g o).2 (.inl k2)))
  by_cases hbb:b'=b
  ·subst hbb
   right
   simp only[St.mws,bi,if_true,pf]
   have hat:=hr.lv b' _ hm
   cases hat with
   |arr0 l hl hn hs hbd e=>exact .arr0 l hl hn (by rw[hs,hzl]) hbd e
   |arr l vs os hl hbd hs hn hb hw hc hx hO hd hdd h0 h1 hm'=>
    refine .arr l vs os hl hbd (by rw[hs,hzl]) hn (by simpa using hb) ⟨fun row h=>by simp at h,fun row h=>by simp at h⟩ (fun i j hi=>by simp at hi) (fun i j row x h=>by simp at h) ?_ (fun i j hi=>by simp at hi) (fun i j i' j' hi=>by simp at hi) (fun _ row h=>by simp at h) (fun _ row h=>by simp at h) hm'
    intro g' o'
    rw[hO]
    constructor
    ·rintro (k|⟨i,j,hi,_⟩)
     ·exact .inl k
     ·simp at hi
    ·rintro (k|⟨i,j,hi,_⟩)
     ·exact .inl k
     ·simp at hi
  ·left
   exact⟨by simp[St.mws,bi,hbb],rfl,rfl,fun _ _ k=>k.elim⟩
 ·simp only at hll hv hz hs0 hn0 hdead
  have hemp:=(hr.dd b hdead).2
  have hsub: ∀g o,al (bi ob b O2) Y g o→al ob X g o:=by
   rintro g o (⟨b',k⟩|k)
   ·by_cases hbb:b'=b
    ·subst hbb;simp only[bi,if_true]at k;exact .inr ((hX g o).2 (.inr k))
    ·simp only[bi,hbb,if_false]at k;exact .inl ⟨b',k⟩
   ·exact .inr ((hX g o).2 (.inl k))
  have hRS3: ∀g o,RS E w' (al ob X) g o→RS E w' (al (bi ob b O2) Y) g o:=fun g o k=>⟨k.1,k.2.1,fun n=>k.2.2 (hsub g o n)⟩
  refine⟨bi ob b O2,?_,hsub⟩
  refine hr.go ae rfl rfl (Frame.refl w' _) (fun g o k=>⟨.inl (hsub g o k),hr.lt g o (hsub g o k)⟩) (fun _ _ k=>k.elim) (fun _ _ k=>k) (fun b'=> ?_) (fun b1 b2 hne g o k1 k2=> ?_) (fun b1 g o k1 k2=> ?_)
  ·by_cases hbb:b'=b
   ·subst hbb
    right
    simp only[St.mws,bi,if_true,pf]
    rw[hv]at hx
    generalize hve:(Value.slice (some ⟨l.g,l.base,none⟩) rows.length cap:Value)=v2 at hx
    cases hx with
    |sc h e=>exact h.elim
    |own0 e=>simp only[Value.slice.injEq]at hve;exact(hz ⟨hve.2.1,hve.2.2⟩).elim
    | @own _ _ _ _ g oo cap2 _ vs os hcap2 hb2 hw2 hc2 hxx2 hO2 hd2 hdd2 h02 h12 hm2=>
     simp only[Value.slice.injEq,Option.some.injEq,Addr.mk.injEq]at hve
     obtain⟨⟨rfl,rfl,_⟩,_,rfl⟩:=hve
     exact .arr l vs os hll hbd (by rw[hs0,hzl]) (by rw[hn0,hrl]) (hb2.mono (Nat.add_le_add_left (Nat.mul_le_mul_right _ hcap2) _)) hw2 hc2 (fun i j row x k1 k2=>(hxx2 i j row x k1 k2).weak hRS3 fun _ _ k=>k) hO2 hd2 hdd2 h02 h12 hm2
   ·left
    exact⟨by simp[St.mws,bi,hbb],by simp[bi,hbb],rfl,fun _ _ k=>k.elim⟩
  ·by_cases h1:b1=b
   ·subst h1
    have h2: ¬b2=b1:=fun e=>hne e.symm
    simp only[bi,if_true,h2,if_false]at k1 k2
    exact hr.dx b2 g o k2 ((hX g o).2 (.inr k1))
   ·by_cases h2:b2=b
    ·subst h2
     simp only[bi,if_true,h1,if_false]at k1 k2
     exact hr.dx b1 g o k1 ((hX g o).2 (.inr k2))
    ·simp only[bi,h1,h2,if_false]at k1 k2
     exact hr.db b1 b2 hne g o k1 k2
  ·by_cases h1:b1=b
   ·subst h1
    simp only[bi,if_true]at k1
    exact hd g o k2 k1
   ·simp only[bi,h1,if_false]at k1
    exact hr.dx b1 g o k1 ((hX g o).2 (.inl k2))
theorem tj: ∀(ds:List (Option HLf))(cs:List AV)(vs:List Value)(st:St)(X:Cells)(ob:Nat→Cells),RelC E st a w X loc ob→vs.length=cs.length→DB st ds cs→
  (∀(k:Nat) x v,cs[k]? =some x→vs[k]? =some v→AR w (RS E w (al ob X)) loc x v ae)→
  ∃st1 X1 ob1 O,RelC E st1 a w X1 loc ob1∧(∀g o,X1 g o↔X g o∨O g o)∧Disj X O∧(∀g o,al ob1 X1 g o→al ob X g o)∧Parts w (RS E w (al ob1 X1)) aC (iu ds cs) vs O∧
   st1.t=st.t∧st1.n=st.n∧st1.an=st.an∧(∀b',b'∉lZ ds→st1.m b'=st.m b')∧FactsH st1 loc ds vs
 |[],[],[],st,X,ob,h,_,_,_=>⟨st,X,ob,ae,h,fun g o=>by simp[ae],ah.disj',fun _ _ k=>k,ah,rfl,rfl,rfl,fun _ _=>rfl,trivial⟩
 |[],[],_::_,_,_,_,_,hl,_,_=>by simp at hl
 |[],_::_,_,_,_,_,_,_,h,_=>h.elim
 |none::ds,[],_,_,_,_,_,_,h,_=>h.elim
 |some _::ds,[],_,_,_,_,_,_,h,_=>h.elim
 |_::ds,_::cs,[],_,_,_,_,hl,_,_=>by simp at hl
 |none::ds,x::cs,v::vs,st,X,ob,h,hl,⟨hg,hok⟩,hx=>by
  obtain⟨st1,X1,ob1,O,h1,h2,h3,h4,h5,h6,h7,h8,h9,h10⟩:=tj ds cs vs st X ob h (by simpa using hl) hok fun k y u k1 k2=>hx (k+1) y u (by simpa using k1) (by simpa using k2)
  have hRS: ∀g o,RS E w (al ob X) g o→RS E w (al ob1 X1) g o:=fun g o k=>⟨k.1,k.2.1,fun n=>k.2.2 (h4 g o n)⟩
  exact⟨st1,X1,ob1,O,h1,h2,h3,h4,⟨ae,O,fun g o=>by simp[ae],ah.disj,((hx 0 x v rfl rfl).goes_emp hg hRS).1,h5⟩,h6,h7,h8,h9,h10⟩
 |some d::ds,x::cs,v::vs,st,X,ob,h,hl,⟨⟨hxe,hm,hlv,hrl,hzl,hc⟩,hok⟩,hx=>by
  subst hxe
  obtain⟨st1,X1,ob1,O1,h1,h2,h3,h4,h5,h6,h7,h8,h9,h10⟩:=G6 h hm hlv (hx 0 _ v rfl rfl)
  have hRS: ∀g o,RS E w (al ob X) g o→RS E w (al ob1 X1) g o:=fun g o k=>⟨k.1,k.2.1,fun n=>k.2.2 (h4 g o n)⟩
  have hok1:DB st1 ds cs:=by
   have key: ∀(ds:List (Option HLf))(cs:List AV),(lZ ds).contains d.b=false→DB st ds cs→DB st1 ds cs:=by
    intro ds
    induction ds with
    |nil=>intro cs _ k;cases cs<;>exact k
    |cons e ds ih=>
     intro cs hb k
     cases cs with
     |nil=>cases e<;>exact k.elim
     |cons y cs=>
      cases e with
      |none=>exact⟨k.1,ih cs hb k.2⟩
      |some e=>
       simp only[lZ,List.contains_cons,Bool.or_eq_false_iff,beq_eq_false_iff_ne]at hb
       refine⟨⟨k.1.1,?_,k.1.2.2⟩,ih cs hb.2 k.2⟩
       rw[h9 e.b (fun e'=>hb.1 e'.symm)]
       exact k.1.2.1
   exact key ds cs hc hok
  obtain⟨st2,X2,ob2,O2,g1,g2,g3,g4,g5,g6,g7,g8,g9,g10⟩:=tj ds cs vs st1 X1 ob1 h1 (by simpa using hl) hok1 fun k y u k1 k2=>(hx (k+1) y u (by simpa using k1) (by simpa using k2)).weak hRS fun _ _ k=>k
  have hRS2: ∀g o,RS E w (al ob1 X1) g o→RS E w (al ob2 X2) g o:=fun g o k=>⟨k.1,k.2.1,fun n=>k.2.2 (g4 g o n)⟩
  refine⟨st2,X2,ob2,fun g o=>O1 g o∨O2 g o,g1,fun g o=>by rw[g2,h2,or_assoc],fun g o k1 k2=> ?_,fun g o k=>h4 g o (g4 g o k),⟨O1,O2,fun g o=>Iff.rfl,fun g o k1 k2=>g3 g o ((h2 g o).2 (.inr k1)) k2,h5.weak hRS2 fun _ _ k=>k,g5⟩,g6.trans h6,g7.trans h7,g8.trans h8,fun b' hb'=> ?_,?_,g10⟩
  ·rcases k2 with k2|k2
   ·exact h3 g o k1 k2
   ·exact g3 g o ((h2 g o).2 (.inl k1)) k2
  ·simp only[lZ,List.mem_cons,not_or]at hb'
   rw[g9 b' hb'.2,h9 b' hb'.1]
  ·have:=h10 d.lvl' d.z' d.rows'
   unfold vn at this⊢
   rw[g9 d.b (by simpa using hc)]
   exact this
theorem td{w':World}: ∀(ds:List (Option HLf))(cs:List AV)(vs:List Value)(st0 st1:St)(X Y O2:Cells)(ob:Nat→Cells),RelC E st1 a w' X loc ob→(∀g o,X g o↔Y g o∨O2 g o)→Disj Y O2→
  Parts w' (RS E w' (al ob X)) aC (ds.map sB) vs O2→FactsH st1 loc ds vs→DB st0 ds cs→ ∃ob2,RelC E (st1.mws (zm ds)) a w' Y loc ob2∧ ∀g o,al ob2 Y g o→al ob X g o
 |[],_,[],st0,st1,X,Y,O2,ob,h,hX,hd,hp,hf,hok=>by
  have:X=Y:=by funext g o;exact propext ((hX g o).trans ⟨fun k=>k.resolve_right (hp g o),.inl⟩)
  subst this
  exact⟨ob,h,fun _ _ k=>k⟩
 |[],_,_::_,_,_,_,_,_,_,_,_,_,_,hf,_=>hf.elim
 |none::ds,_,[],_,_,_,_,_,_,_,_,_,_,hf,_=>hf.elim
 |some _::ds,_,[],_,_,_,_,_,_,_,_,_,_,hf,_=>hf.elim
 |none::ds,[],_::_,_,_,_,_,_,_,_,_,_,_,_,hok=>hok.elim
 |some _::ds,[],_::_,_,_,_,_,_,_,_,_,_,_,_,hok=>hok.elim
 |none::ds,x::cs,v::vs,st0,st1,X,Y,O2,ob,h,hX,hd,⟨O3,O4,k1,k2,k3,k4⟩,hf,⟨_,hok⟩=>by
  have e3:Emp O3:=by
   cases k3 with
   |sc _ e=>exact e
  have:O4=O2:=by funext g o;exact propext ⟨fun k=>(k1 g o).2 (.inr k),fun k=>((k1 g o).1 k).resolve_left (e3 g o)⟩
  subst this
  exact td ds cs vs st0 st1 X Y _ ob h hX hd k4 hf hok
 |some d::ds,x::cs,v::vs,st0,st1,X,Y,O2,ob,h,hX,hd,⟨O3,O4,k1,k2,k3,k4⟩,⟨hf1,hf2⟩,⟨⟨_,_,_,hrl,hzl,hc⟩,hok⟩=>by
  obtain⟨ob1,h1,h2⟩:=HQ (Y:=fun g o=>Y g o∨O4 g o) (O2:=O3) h (fun g o=>by rw[hX,k1];exact⟨fun k=>k.elim (fun k=>.inl (.inl k)) (fun k=>k.elim .inr (fun k=>.inl (.inr k))),fun k=>k.elim (fun k=>k.elim .inl (fun k=>.inr (.inr k))) (fun k=>.inr (.inl k))⟩) (fun g o m1 m2=>m1.elim (fun m=>hd g o m ((k1 g o).2 (.inl m2))) fun m=>k2 g o m2 m) k3 hf1 hrl hzl
  have hRS: ∀g o,RS E w' (al ob X) g o→RS E w' (al ob1 fun g o=>Y g o∨O4 g o) g o:=fun g o k=>⟨k.1,k.2.1,fun n=>k.2.2 (h2 g o n)⟩
  have hf3:FactsH (st1.mws [(d.b,.live ⟨true,d.lvl',d.z',d.rows'⟩)]) loc ds vs:=FactsH.keep (fun b hb=>by
   have:b≠d.b:=fun e=>by subst e;simp at hc;exact hc hb
   simp[St.mws,bi,this]) hf2
  obtain⟨ob2,h3,h4⟩:=td ds cs vs st0 _ _ Y O4 ob1 h1 (fun g o=>Iff.rfl) (fun g o m1 m2=>hd g o m1 ((k1 g o).2 (.inr m2))) (Parts.mono hRS (fun _ _ k=>k) _ _ _ k4) hf3 hok
  exact⟨ob2,h3,fun g o k=>h2 g o (h4 g o k)⟩
theorem mq{st st':St}{x y:AV}(hx:x.hasRef0=false)(h:(ec x).run st=some y):(ec x).run st'=some y:=by
 cases x<;>first|exact h|simp[AV.hasRef0]at hx
theorem jV{st st':St}: ∀{l ys:List AV},l.any AV.hasRef0=false→(ef l).run st=some ys→(ef l).run st'=some ys
 |[],ys,_,h=>h
 |x::l,ys,hx,h=>by
  simp only[List.any_cons,Bool.or_eq_false_iff]at hx
  obtain⟨y,h1,h⟩:=bind_some h
  obtain⟨ys',h2,h⟩:=bind_some h
  obtain rfl:=au h
  exact ff (mq hx.1 h1) (ff (jV hx.2 h2) rfl)
theorem iP{st st':St}: ∀{l ys:List AV},l.any AV.hasRef=false→(ea l).run st=some ys→(ea l).run st'=some ys
 |[],ys,_,h=>h
 |x::l,ys,hx,h=>by
  simp only[List.any_cons,Bool.or_eq_false_iff]at hx
  obtain⟨y,h1,h⟩:=bind_some h
  obtain⟨ys',h2,h⟩:=bind_some h
  obtain rfl:=au h
  refine ff ?_ (ff (iP hx.2 h2) rfl)
  cases x with
  |agg cs=>
   obtain⟨ys',h2,h⟩:=bind_some h1
   obtain rfl:=au h
   exact ff (jV hx.1 h2) rfl
  |_=>unfold jM at h1⊢;exact mq hx.1 h1
theorem yZ(tb:Tabs P E.w0 E.O0){c:Call}{fo:Operand}(ho:o.op=.call c)(hc:c.callee=.value fo)(h:RelC E st a w ae loc ob){K:St→Prop}{f:FuncId}{as:List AV}(hf:AR w (RS E w (al ob ae)) loc (.fn f []) (a.eval fo) ae)
  (has:(gk c.args.toList).run st=some as)(hk:wB P o st K f as){next:Act→World→Prop}{Q:Exit→Act→World→Prop}
  (hn: ∀st' a' w',K st'→Rel E st' a' w' ae→next a' w'):o.wp P a w next Q:=by
 obtain⟨cs,rest,ds,ys,res,rfl,hok,hnr,hys,hcon,hl⟩:=hk
 obtain⟨st',htook,hK⟩:=ic hl
 obtain⟨hal,hax⟩:=dR h has
 have hvl:(c.args.toList.map a.eval).length=rest.length+1:=by simpa using hal.symm
 obtain⟨v0,vr,hvals⟩: ∃v0 vr,c.args.toList.map a.eval=v0::vr:=by
  match hh:c.args.toList.map a.eval with
  |[]=>rw[hh]at hvl;simp at hvl
  |v0::vr=>exact⟨v0,vr,rfl⟩
 have hx: ∀(k:Nat) x v,(AV.agg cs::rest)[k]? =some x→(v0::vr)[k]? =some v→AR w (RS E w (al ob ae)) loc x v ae:=fun k x v h1 h2=>by
  rw[←hvals]at h2
  simp only[List.getElem?_map,Option.map_eq_some_iff]at h2
  obtain⟨op,h3,rfl⟩:=h2
  exact hax k x op h1 h3
 obtain⟨vs,rfl,hvn,hvx⟩:=(hx 0 _ v0 rfl rfl).inv_agg
 obtain⟨st1,X1,ob1,O,g1,g2,g3,g4,g5,g6,g7,g8,g9,g10⟩:=tj ds cs vs.toList st ae ob h (by simpa using hvn) hok fun k x v k1 k2=>hvx k x v k1 (by simpa using k2)
 have hX1:X1=O:=by funext g o;exact propext ((g2 g o).trans ⟨fun k=>k.resolve_left id,.inr⟩)
 subst hX1
 have hRS: ∀g o,RS E w (al ob ae) g o→RS E w (al ob1 X1) g o:=fun g o k=>⟨k.1,k.2.1,fun n=>k.2.2 (g4 g o n)⟩
 have hrl:vr.length=rest.length:=by rw[hvals]at hvl;simpa using hvl
 have hp2:=iC g1 (Rc:=RS E w (al ob1 X1)) (fun _ _ k=>k) rest ys vr hrl (iP (st':=st1) hnr hys) (fun k x v k1 k2=>(hx (k+1) x v (by simpa using k1) (by simpa using k2)).weak hRS fun _ _ k=>k)
  (fun hh b g o _=>by
   have:rest.any AV.hasRef=true:=hh
   rw[hnr]at this;cases this)
 obtain⟨u1,os1,u2,u3⟩:=aL _ _ _ g5
 have hagg:AR w (RS E w (al ob1 X1)) aC (.agg (iu ds cs)) (.agg vs) X1:=.agg os1 (by simpa using u1) (fun k x v k1 k2=>u2 k x v k1 (by simpa using k2)) u3
 have hp:Parts w (RS E w (al ob1 X1)) aC (.agg (iu ds cs)::ys) (.agg vs::vr) X1:=⟨X1,ae,fun g o=>by simp[ae],ah.disj',hagg,hp2⟩
 have hcalls:=hcon.calls w (RS E w (al ob1 X1)) X1 (.agg vs::vr) hp (fun g o k=>⟨k.2.1,fun m=>k.2.2 (.inr m)⟩) (fun g o k=>g1.lt g o (.inr k)) (tb.at g1)
 unfold Oper.wp
 rw[rk ho hc hcon.ok hf,Oper.upon_enter,hvals]
 refine hcalls.mono fun e w' hb=> ?_
 cases e with
 |returned u=>
  obtain⟨O',hF,hO',O1,O2,hOO,hdd,hres,hrest⟩:=hb
  have hrel:RelC E st1 a w' O' loc ob1:=g1.back (Rc:=RS E w (al ob1 X1)) hF hO'
  have conv: ∀g o,RS ⟨w,RS E w (al ob1 X1),X1,aC⟩ w' O' g o→RS E w' (al ob1 O') g o:=
   pI g1 (nr:=false) (fun g o k=>.inl k) rfl (fun b g o k=>g1.lt g o (.inl ⟨b,k⟩)) (fun b g o k m=>m.2.2 (.inl ⟨b,k⟩)) (fun g o k=>g1.sub g o (.inr k)) hF
  obtain⟨O3,O4,r1,r2,r3,r4⟩:=hrest
  have he4:=gz _ _ _ r4
  have hO3:O3=O2:=by funext g o;exact propext ⟨fun k=>(r1 g o).2 (.inl k),fun k=>((r1 g o).1 k).resolve_right (he4 g o)⟩
  subst hO3
  have hp5:Parts w' (RS E w' (al ob1 O')) aC (ds.map sB) vs.toList O3:=by
   cases r3 with
   |sc h e=>exact h.elim
   |agg os hn2 hx2 hu2=>exact dh _ _ os _ (by simpa using hn2) (fun k x v k1 k2=>(hx2 k x v k1 (by simpa using k2)).weak conv fun _ _ k=>k) hu2
  obtain⟨ob2,h5,h6⟩:=td ds cs vs.toList st st1 O' O1 O3 ob1 hrel hOO hdd hp5 g10 hok
  have hst:st1.mws (zm ds)=st.mws (zm ds):=by
   have hm: ∀(ds:List (Option HLf))(s1 s2:St),s1.t=s2.t→s1.n=s2.n→s1.an=s2.an→(∀b,b∉lZ ds→s1.m b=s2.m b)→s1.mws (zm ds)=s2.mws (zm ds):=by
    intro ds
    induction ds with
    |nil=>
     intro s1 s2 e1 e2 e3 e4
     cases s1;cases s2
     simp only[zm,St.mws,St.mk.injEq]at e1 e2 e3⊢
     exact⟨e2,e1,funext fun b=>e4 b (by simp[lZ]),e3⟩
    |cons d ds ih=>
     intro s1 s2 e1 e2 e3 e4
     cases d with
     |none=>exact ih s1 s2 e1 e2 e3 fun b hb=>e4 b hb
     |some d=>
      refine ih _ _ e1 e2 e3 fun b hb=> ?_
      simp only[bi]
      split
      ·rfl
      ·rename_i hne
       exact e4 b (by simp[lZ,hne,hb])
   exact hm ds st1 st g6 g7 g8 g9
  rw[hst]at h5
  have hRS2: ∀g o,RS E w' (al ob1 O') g o→RS E w' (al ob2 O1) g o:=fun g o k=>⟨k.1,k.2.1,fun n=>k.2.2 (h6 g o n)⟩
  exact hn st' _ w' hK (nN h5 ((hres.weak conv fun _ _ k=>k).weak hRS2 fun _ _ k=>k) htook)
 |panicked ch=>exact hb.elim
 |outgrown=>exact hb.elim
theorem Co(tb:Tabs P E.w0 E.O0){c:Call}{fo:Operand}(ho:o.op=.call c)(hc:c.callee=.value fo)(h:Rel E st a w ae){K:St→Prop}(hk:(rc c fo).runK st (nq P o st K)){next:Act→World→Prop}{Q:Exit→Act→World→Prop}
  (hn: ∀st' a' w',K st'→Rel E st' a' w' ae→next a' w'):o.wp P a w next Q:=by
 obtain⟨loc,ob,h⟩:=h
 obtain⟨q,hq,hk⟩:=cO hk
 obtain⟨fv,hf0,hq1⟩:=bind_some hq
 obtain⟨as,has,hq2⟩:=bind_some hq1
 obtain⟨ys,hys,hq3⟩:=bind_some hq2
 obtain rfl:=au hq3
 have hf:=bp h hf0
 clear hf0 hq hq1 hq2 hq3
 unfold nq at hk
 simp only at hk
 split at hk
 case h_2=>exact hk.elim
 rename_i f caps
 split at hk
 case h_2=>exact hk.elim
 rcases hk with hk|⟨j,hk⟩|hk
 case inr.inl=>exact CE tb ho hc h hf has hk hn
 case inr.inr=>exact yZ tb ho hc h hf has hk hn
 obtain⟨res,hcon,hk⟩:=hk
 rcases hk with⟨hqq,hl⟩|hl
 case inr=>
  obtain⟨st',htook,hK⟩:=ic hl
  obtain⟨hal,hax⟩:=dR h has
  obtain⟨hp,hsome⟩:=qB (bs:=hN as) h as ys (c.args.toList.map a.eval) (by simpa using hal.symm) hys (fun k x v h1 h2=>by
   simp only[List.getElem?_map,Option.map_eq_some_iff]at h2
   obtain⟨op,h3,rfl⟩:=h2
   exact hax k x op h1 h3) (fun b k=>k)
  have h1:=h.kills (hN as) hsome
  have hcalls:=hcon.calls w (RS E w (al (fun b=>if b∈hN as then ae else ob b) ae)) ae (c.args.toList.map a.eval) hp (fun g o k=>⟨k.2.1,fun k=>k.elim⟩) (fun g o k=>k.elim) (tb.at h1)
  unfold Oper.wp
  rw[rk ho hc hcon.ok hf,Oper.upon_enter]
  refine hcalls.mono fun e w' hb=> ?_
  cases e with
  |returned v=>
   obtain⟨O',hF,hO',O1,O2,hOO,hdd,hres,hrest⟩:=hb
   have hemp2:=gz _ _ _ hrest
   have hO1:O1=O':=by
    funext g o
    exact propext ⟨fun k=>(hOO g o).2 (.inl k),fun k=>((hOO g o).1 k).resolve_right (hemp2 g o)⟩
   subst hO1
   have hrel:=h1.back (Rc:=fun _ _=>False) hF hO'
   have conv: ∀g o,RS ⟨w,RS E w (al (fun b=>if b∈hN as then ae else ob b) ae),ae,aC⟩ w' O1 g o→RS E w' (al (fun b=>if b∈hN as then ae else ob b) O1) g o:=
    pI h1 (nr:=false) (fun g o k=>.inl k) rfl (fun b g o k=>h1.lt g o (.inl ⟨b,k⟩)) (fun b g o k m=>m.2.2 (.inl ⟨b,k⟩)) (fun g o k=>k.elim) hF
   exact hn st' _ w' hK (nN hrel (hres.weak conv fun _ _ k=>k) htook)
  |panicked ch=>exact hb.elim
  |outgrown=>exact hb.elim
 obtain⟨st',htook,hK⟩:=ic hl
 have hfv:a.eval fo=.func (.func f) #[] #[]:=by
  generalize a.eval fo=ev at hf
  cases hf with
  |sc hs _=>exact hs.elim
  | @fn _ _ _ vs _ os hvn hvx hu=>
   have:vs=#[]:=by apply Array.eq_empty_of_size_eq_zero;simpa using hvn
   rw[this]
 obtain⟨hal,hax⟩:=dR h has
 let Rc:Cells:=fun g o=>RS E w (al ob ae) g o∨(as.any AV.hasRef=true∧ ∃b,ob b g o)
 have hRc: ∀g o,RS E w (al ob ae) g o→Rc g o:=fun g o k=>.inl k
 have hp:=iC h hRc as ys (c.args.toList.map a.eval) (by simpa using hal.symm) hys (fun k x v h1 h2=>by
  simp only[List.getElem?_map,Option.map_eq_some_iff]at h2
  obtain⟨op,h3,rfl⟩:=h2
  exact hax k x op h1 h3) (fun hh b g o k=>.inr ⟨hh,b,k⟩)
 have hcalls:=hcon.calls w Rc ae (c.args.toList.map a.eval) hp (fun g o k=>⟨by
  rcases k with k|⟨_,b,k⟩
  ·exact k.2.1
  ·exact h.lt g o (.inl ⟨b,k⟩),fun k=>k.elim⟩) (fun g o k=>k.elim) (tb.at h)
 unfold Oper.wp
 have hrun:(execOp a.eval o).run P w=.ok (.enter f (c.args.toList.map a.eval).toArray) w:=by
  obtain⟨_,op,ty,_,_,_⟩:=o
  subst ho
  simp only[execOp]
  rw[rh hc hfv hcon.ok]
  congr 2
  apply Array.ext'
  simp
 rw[hrun,Oper.upon_enter]
 refine hcalls.mono fun e w' hb=> ?_
 cases e with
 |returned v=>
  obtain⟨O',hF,hO',O1,O2,hOO,hdd,hres,hrest⟩:=hb
  have hemp2:=gz _ _ _ hrest
  have hO1:O1=O':=by
   funext g o
   exact propext ⟨fun k=>(hOO g o).2 (.inl k),fun k=>((hOO g o).1 k).resolve_right (hemp2 g o)⟩
  subst hO1
  have hrel:RelC E st a w' O1 loc ob:=h.back (Rc:=Rc) hF hO'
  have hres':AR w' (RS E w' (al ob O1)) aC res v O1:=by
   rcases(Bool.or_eq_true _ _).mp hqq with hno|hnr
   ·refine hres.weak (fun g o k=> ?_) (fun _ _ k=>k)
    obtain⟨h1,h2,h3⟩:=k
    have hno:as.any AV.hasRef=false:=by simpa using hno
    have hobn: ∀b,w.heap.size≤g→ ¬ob b g o:=fun b hle k=>by have:=h.lt g o (.inl ⟨b,k⟩);omega
    refine⟨?_,h2,?_⟩
    ·rcases h1 with(h1|⟨hh,_⟩)|h1|h1
     ·exact h1.1
     ·rw[hno]at hh;cases hh
     ·exact h1.elim
     ·exact .inr (.inr (Nat.le_trans h.fr.size h1))
    ·rintro (⟨b,k⟩|k)
     ·rcases h1 with(h1|⟨hh,_⟩)|h1|h1
      ·exact h1.2.2 (.inl ⟨b,k⟩)
      ·rw[hno]at hh;cases hh
      ·exact h1.elim
      ·exact hobn b h1 k
     ·exact h3 k
   ·exact hres.nr_any hnr
  exact hn st' _ w' hK (nN hrel hres' htook)
 |panicked ch=>exact hb.elim
 |outgrown=>exact hb.elim
theorem oe: ∀{fs:List (Option Nat)}{as:List AV}{k:Nat}{x:AV},(eM fs as)[k]? =some x→x=.undef∨as[k]? =some x
 |[],[],k,x,h=>by simp[eM]at h
 |[],_::_,k,x,h=>by simp[eM]at h
 |none::_,[],k,x,h=>by simp[eM]at h
 |some _::_,[],k,x,h=>by simp[eM]at h
 |none::fs,y::as,0,x,h=>.inr (by simpa[eM]using h)
 |some _::fs,y::as,0,x,h=>.inl (by simpa[eM]using h.symm)
 |none::fs,y::as,k+1,x,h=>by simpa using oe (fs:=fs) (as:=as) (k:=k) (by simpa[eM]using h)
 |some _::fs,y::as,k+1,x,h=>by simpa using oe (fs:=fs) (as:=as) (k:=k) (by simpa[eM]using h)
theorem ov: ∀{fs:List (Option Nat)}{as:List AV},fs.length=as.length→(eM fs as).length=as.length
 |[],[],_=>rfl
 |[],_::_,h=>by simp at h
 |_::_,[],h=>by simp at h
 |none::fs,y::as,h=>by simp[eM,ov (fs:=fs) (as:=as) (by simpa using h)]
 |some _::fs,y::as,h=>by simp[eM,ov (fs:=fs) (as:=as) (by simpa using h)]
theorem kM: ∀{fs:List (Option Nat)}{gs:List AV},nD fs gs→fs.length=gs.length
 |[],[],_=>rfl
 |[],_::_,h=>h.elim
 |none::_,[],h=>h.elim
 |some _::_,[],h=>h.elim
 |none::fs,y::as,h=>by simp[kM h.2]
 |some _::fs,y::as,h=>by simp[kM (fs:=fs) (gs:=as) h]
theorem ze(tb:Tabs P E.w0 E.O0){c:Call}{fo:Operand}(ho:o.op=.call c)(hc:c.callee=.value fo)(h:Rel E st a w ae){K:St→Prop}(hk:kD P c fo o st K){next:Act→World→Prop}{Q:Exit→Act→World→Prop}
  (hn: ∀st' a' w',K st'→Rel E st' a' w' ae→next a' w'):o.wp P a w next Q:=by
 obtain⟨loc,ob,h⟩:=h
 obtain⟨fv,hf0,hk⟩:=cO hk
 obtain⟨as,has,hk⟩:=cO hk
 have hf:=bp h hf0
 have hex: ∃f caps,fv=.fn f caps:=by cases fv<;>first|exact hk.elim|exact⟨_,_,rfl⟩
 obtain⟨f,caps,rfl⟩:=hex
 obtain⟨fs,hg⟩:=hk
 obtain⟨hal,hax⟩:=dR h has
 obtain⟨cvs,hfv,hcn,hcx⟩:=hf.inv_fn
 let vals:=c.args.toList.map a.eval++cvs.toList
 have hvlen:vals.length=(as++caps).length:=by simp[vals,hal,hcn]
 have hax':(c.args.toList.map a.eval).length=as.length:=by simpa using hal.symm
 have hvx: ∀(k:Nat) x v,(as++caps)[k]? =some x→vals[k]? =some v→AR w (RS E w (al ob ae)) loc x v ae:=by
  intro k x v h1 h2
  by_cases hk:k<as.length
  ·rw[List.getElem?_append_left hk]at h1
   simp only[vals]at h2
   rw[List.getElem?_append_left (by omega)]at h2
   simp only[List.getElem?_map,Option.map_eq_some_iff]at h2
   obtain⟨op,h3,rfl⟩:=h2
   exact hax k x op h1 h3
  ·rw[List.getElem?_append_right (by omega)]at h1
   simp only[vals]at h2
   rw[List.getElem?_append_right (by omega),hax']at h2
   exact hcx _ x v h1 (by simpa using h2)
 have hptrs:=kV _ _ _ _ hg
 obtain⟨gs,st1,X1,ob1,O,hk1,hL,hpg,hsh⟩:=oK fs (as++caps) vals st ae ob _ h hvlen hvx hg
 have hXO:X1=O:=by funext g o;exact propext ((hL.iff g o).trans ⟨fun k=>k.resolve_left id,.inr⟩)
 subst hXO
 obtain⟨ys,hys,os,res,b0,hcon,hq,htk⟩:=cO hk1
 let Rc:Cells:=fun g o=>RS E w (al ob1 X1) g o∨((eM fs (as++caps)).any AV.leads=true∧ ∃b,ob1 b g o)
 have hRc: ∀g o,RS E w (al ob1 X1) g o→Rc g o:=fun g o k=>.inl k
 have hgl:=(aL _ _ _ hpg).1
 have hfl:fs.length=(as++caps).length:=by rw[kM hsh,←hgl,hvlen]
 have hp2:=se hL.rel hRc (eM fs (as++caps)) ys vals (by rw[ov hfl,hvlen]) hys (fun k x v k1 k2=>by
  rcases oe k1 with rfl|k1
  ·exact .sc trivial ah
  ·exact(hvx k x v k1 k2).weak hL.RS fun _ _ k=>k) (fun hh b g o k=>.inr ⟨hh,b,k⟩)
 have hp:=og fs gs ys vals X1 hsh (Parts.mono hRc (fun _ _ k=>k) _ _ _ hpg) hp2
 have hcalls:=hcon.calls w Rc X1 vals hp (fun g o k=>⟨by
  rcases k with k|⟨_,b,k⟩
  ·exact k.2.1
  ·exact hL.rel.lt g o (.inl ⟨b,k⟩),fun m=>by
  rcases k with k|⟨_,b,k⟩
  ·exact k.2.2 (.inr m)
  ·exact hL.rel.dx b g o k m⟩) (fun g o k=>hL.rel.lt g o (.inr k)) (tb.at hL.rel)
 unfold Oper.wp
 have hrun:(execOp a.eval o).run P w=.ok (.enter f vals.toArray) w:=by
  obtain⟨_,op,ty,_,_,_⟩:=o
  subst ho
  simp only[execOp]
  rw[rh hc hfv hcon.ok]
  congr 2
  apply Array.ext'
  simp[vals]
 rw[hrun,Oper.upon_enter]
 refine hcalls.mono fun e w' hb=> ?_
 cases e with
 |returned v=>
  obtain⟨O',hF,hO',O1,O2,hOO,hdd,hres,hrest⟩:=hb
  have hrel:RelC E st1 a w' O' loc ob1:=hL.rel.back (Rc:=Rc) hF hO'
  have hboth:AR w' (RS E w' (al ob1 O')) aC res v O1∧Parts w' (RS E w' (al ob1 O')) aC os vals O2:=by
   rcases(Bool.or_eq_true _ _).mp hq with hno|hnr
   ·have conv: ∀g o,RS ⟨w,Rc,X1,aC⟩ w' O' g o→RS E w' (al ob1 O') g o:=
     pI hL.rel (nr:=(eM fs (as++caps)).any AV.leads) (fun g o k=>k) (by simpa using hno) (fun b g o k=>hL.rel.lt g o (.inl ⟨b,k⟩)) (fun b g o k m=>m.2.2 (.inl ⟨b,k⟩)) (fun g o k=>hL.rel.sub g o (.inr k)) hF
    exact⟨hres.weak conv fun _ _ k=>k,Parts.mono conv (fun _ _ k=>k) _ _ _ hrest⟩
   ·simp only[Bool.and_eq_true]at hnr
    exact⟨hres.nr_any hnr.1,sr _ _ _ hnr.2 hrest⟩
  obtain⟨st2,loc2,ob2,hk2,hL2⟩:=oi fs (as++caps) os vals b0 st1 O' O2 O1 loc ob1 _ hrel (fun g o=>by rw[hOO];exact Or.comm) hdd.symm hboth.2 (fun k x v k1 k2=>by
   have hxx:=hvx k x v k1 k2
   cases x<;>first|trivial|(obtain⟨l,e1,e2,_,e3⟩:=hxx.inv_ptr;exact⟨l,e1,e2,e3⟩)) hptrs htk
  obtain⟨st',htook,hK⟩:=ic hk2
  have hRS2:RS E w' (al ob2 O1)=RS E w' (al ob1 O'):=by rw[hL2.own]
  exact hn st' _ w' hK (nN hL2.rel (by rw[hRS2];exact hboth.1) htook)
 |panicked ch=>exact hb.elim
 |outgrown=>exact hb.elim
theorem AQ{x:AV}{v:Value}{n:Nat}{R:Cells}(h:AR w R loc x v ae)(hn:Da x=some n): ∃ad cap,v=.slice ad n cap∧(ad=none→n=0):=by
 cases x<;>simp only[Da]at hn<;>try cases hn
 ·cases h with
  |sc h e=>obtain⟨a,rfl⟩:=h;exact⟨a,0,rfl,fun _=>rfl⟩
 ·rename_i b off
  obtain⟨l,_,_,ad,cap,rfl,_,hc⟩:=h.inv_ref
  refine⟨ad,cap,rfl,fun e=> ?_⟩
  rcases hc with⟨h1,_⟩|⟨_,h1,_⟩
  ·exact h1
  ·rw[e]at h1;cases h1
 ·cases h with
  |sc h e=>exact h.elim
  |ro0 e=>exact⟨_,_,rfl,fun _=>rfl⟩
  |ro vs e h1 h2 h3 h4 h5 h6 h7 h8=>exact⟨_,_,rfl,fun e=>by cases e⟩
theorem Ec{t e:TypeId}(ht:P.underlying t=some (.slice e))(ad:Option Addr)(n cap:Nat):(Op.equal t (.slice ad n cap) (.slice none 0 0)).run P w=.ok ad.isNone w:=by
 have key: ∀d,(Op.equalIn (d+1) t (.slice ad n cap) (.slice none 0 0)).run P w=.ok ad.isNone w:=fun d=>by
  cases ad<;>simp[Op.equalIn,run_underlying ht]
 exact key 9999
theorem Dx(hT:T.ok P)(h:Rel E st a w ae){op:BinOp}{t ty:TypeId}{x y:Operand}(ho:o.op=.binOp op t x y ty){K:St→Prop}(hk:FW T o op t x y st K){next:Act→World→Prop}{Q:Exit→Act→World→Prop}
  (hn: ∀st' a' w',K st'→Rel E st' a' w' ae→next a' w'):o.wp P a w next Q:=by
 obtain⟨loc,ob,h⟩:=h
 obtain⟨hy,ht,hd,v,n,hx,hl,hk⟩:=hk
 have hy:y=.const (.slice none 0 0):=by
  unfold tT at hy
  split at hy
  ·rfl
  ·cases hy
 subst hy
 obtain⟨e,hu⟩: ∃e,P.underlying t=some (.slice e):=by
  unfold qR at ht
  split at ht
  ·rename_i i hi
   split at ht
   ·rename_i e hut
    obtain⟨d,hd,hut'⟩:=(hT.at hi).und
    have:=fC (hut'.symm.trans hut)
    subst this
    exact⟨e,hd⟩
   ·cases ht
  ·cases ht
 obtain⟨ad,cap,hv,hz⟩:=AQ (bp h hx) hl
 have hk:=hk ad.isNone (fun e=>hz (Option.isNone_iff_eq_none.1 e))
 have hey:a.eval (.const (.slice none 0 0))=.slice none 0 0:=rfl
 have run: ∀res:Bool,(binOp op t (a.eval x) (a.eval (.const (.slice none 0 0)))).run P w=.ok (.bool res) w→Did P E o st a w ae (.bool res,[]):=by
  intro res h2
  refine Did.pure h (v:=.bool res) ?_ (.sc rfl ah)
  obtain⟨_,op',_,_,_,_⟩:=o
  subst ho
  simp only[execOp]
  refine eF ?_
  have hg:(eqGuard op t x (.const (.slice none 0 0)) (a.eval x) (a.eval (.const (.slice none 0 0)))).run P w=.ok () w:=iA (by rw[hv];exact⟨fun _ h=>Value.noConfusion h,fun h=>Value.noConfusion h⟩)
  simp only[Sem.run_bind,hg,Result.andThen_ok,h2]
 have fin: ∀res:Bool,Did P E o st a w ae (.bool res,[])→K (st.put o.dst (.bool res))→o.wp P a w next Q:=by
  intro res hdid hK
  obtain⟨nx,a',w',h1,h2,h3⟩:=uo hd hdid
  unfold Oper.wp
  rw[h1]
  rcases h2 with⟨v,rfl,rfl⟩|⟨rfl,rfl⟩
  ·exact hn _ _ _ hK h3
  ·exact hn _ _ _ hK h3
 have heq:=Ec (w:=w) hu ad n cap
 cases op<;>simp only at hk<;>try exact hk.elim
 ·refine fin _ (run _ ?_) hk
  rw[hv,hey]
  simp only[binOp,Sem.run_bind,heq,Result.andThen_ok]
  rfl
 ·refine fin _ (run _ ?_) hk
  rw[hv,hey]
  simp only[binOp,Sem.run_bind,heq,Result.andThen_ok]
  rfl
theorem xh(hT:T.ok P)(tb:Tabs P E.w0 E.O0)(h:Rel E st a w ae){K:St→Prop}(hk:tY P T o st K){next:Act→World→Prop}{Q:Exit→Act→World→Prop}(hn: ∀st' a' w',K st'→Rel E st' a' w' ae→next a' w'):
  o.wp P a w next Q:=by
 unfold tY at hk
 split at hk
 ·rename_i c ho
  split at hk
  ·rename_i f hc
   rcases hk with hk|hk
   ·exact Co tb ho hc h hk hn
   ·exact ze tb ho hc h hk hn
  ·exact wy hT h hk hn
 ·rename_i op t x y ty ho
  rcases hk with hk|hk
  ·exact wy hT h hk hn
  ·exact Dx hT h ho hk hn
 ·exact wy hT h hk hn
theorem le{d:Nat}{v:AV}(h:st.t d=v):st.put (some d) v=st:=by
 unfold St.put bi
 have:(fun x=>if x=d then v else st.t x)=st.t:=by
  funext x
  by_cases hx:x=d
  ·subst hx;simp[h]
  ·simp[hx]
 simp only[this]
theorem ET{w:World}{R:Cells}{loc:bG}:AR w R loc (.tup []) undef ae:=
 .tup (fun _=>ae) rfl (fun k x v h=>by simp at h) ⟨fun g o=>⟨fun h=>h.elim,fun⟨j,hj,_⟩=>by simp at hj⟩,fun j k hj=>by simp at hj⟩
theorem Rel.put_nul(h:Rel E st a w X){d:Option Nat}(hd:st.dstOk d=true):Rel E (st.put d (.tup [])) (a.put d undef) w X:=by
 obtain⟨loc,ob,h⟩:=h
 exact⟨loc,ob,h.put d (.tup []) undef hd fun _=>ET⟩
theorem AD(h:Rel E st a w X){d:Nat}(hb:st.t d=.tup [])(b:Bool):a.tmps[d]? ≠some (.bool b):=by
 obtain⟨loc,ob,h⟩:=h
 have:=h.tm d
 rw[hb]at this
 intro e
 rw[show a.tmps.getD d undef=.bool b by simp[e]]at this
 cases this with
 |sc h _=>exact h.elim
theorem zE(h:Rel E st a w X){d:Nat}{b:Bool}(hb:st.t d=.bool b):a.tmps[d]? =some (.bool b):=by
 obtain⟨loc,ob,h⟩:=h
 have:=h.tm d
 rw[hb]at this
 have:=this.inv_bool
 cases hd:a.tmps[d]? with
 |none=>
  simp[hd]at this
  cases this
 |some v=>
  simp[hd]at this
  rw[this]
theorem uI(hT:T.ok P)(tb:Tabs P E.w0 E.O0){ops:Array Oper}(h:Rel E st a w ae){K:St→Prop}(hk:jU P T ops.toList o st K){next:Act→World→Prop}{Q:Exit→Act→World→Prop}(hn: ∀st' a' w',K st'→Rel E st' a' w' ae→next a' w'):
  if Region.wanted o (yielded ops a.tmps)then o.wp P a w next Q∨(o.asks P a w∧LetsOut Q)else next (a.put o.dst undef) w:=by
 unfold jU at hk
 split at hk
 ·rename_i hg
  have:Region.wanted o (yielded ops a.tmps)=true:=by
   unfold jE at hg
   unfold Region.wanted
   split at hg
   ·rename_i h1;rw[h1]
   ·split at hg
    ·split at hg<;>simp at hg
    ·simp at hg
  rw[if_pos this]
  exact .inl (xh hT tb h hk hn)
 ·rename_i q hg
  obtain⟨hd,hk⟩:=hk
  have hwant: ∀b,st.t q.1=.bool b→Region.wanted o (yielded ops a.tmps)=(b==q.2):=by
   intro b hb
   unfold jE at hg
   unfold Region.wanted
   split at hg
   ·simp at hg
   ·rename_i j want hgd
    rw[hgd]
    simp only
    split at hg
    ·rename_i g hj
     split at hg
     ·rename_i d hdd
      simp only[Option.some.injEq]at hg
      subst hg
      have hj':ops[j]? =some g:=by simpa using hj
      have:=zE h hb
      simp only at this
      simp[yielded,hj',hdd,this]
     ·simp at hg
    ·simp at hg
  generalize hv:st.t q.1=v at hk
  cases v<;>try exact hk.elim
  case tup vs=>
   cases vs with
   |cons x l=>exact hk.elim
   |nil=>
    have hw:Region.wanted o (yielded ops a.tmps)=false:=by
     unfold jE at hg
     unfold Region.wanted
     split at hg
     ·simp at hg
     ·rename_i j want hgd
      rw[hgd]
      simp only
      split at hg
      ·rename_i g hj
       split at hg
       ·rename_i d hdd
        simp only[Option.some.injEq]at hg
        subst hg
        have hj':ops[j]? =some g:=by simpa using hj
        have hs:=AD h hv
        simp only at hs
        have hy:yielded ops a.tmps j=none:=by
         unfold yielded
         rw[hj']
         simp only[Option.bind_some,hdd]
         all_goals (cases hh:a.tmps[d]? with
         |none=>rfl
         |some v=>
          cases v with
          |bool b=>exact absurd hh (hs b)
          |_=>rfl)
        rw[hy]
        first|done|rfl
       ·simp at hg
      ·simp at hg
    rw[if_neg (by rw[hw];simp)]
    exact hn _ _ _ hk (h.put_nul hd)
  rename_i b
  have hw:=hwant b hv
  unfold tF at hk
  obtain⟨hk1,hk2⟩:=hk
  obtain⟨d,want⟩:=q
  simp only at hk1 hk2 hv hw
  cases b with
  |true=>
   have hk:=hk1 rfl
   rw[le hv]at hk
   cases want with
   |true=>
    rw[if_pos rfl]at hk
    rw[if_pos (by rw[hw];rfl)]
    exact .inl (xh hT tb h hk hn)
   |false=>
    rw[if_neg (by simp)]at hk
    rw[if_neg (by rw[hw];simp)]
    exact hn _ _ _ hk (h.put_nul hd)
  |false=>
   have hk:=hk2 rfl
   rw[le hv]at hk
   cases want with
   |true=>
    rw[if_pos rfl]at hk
    rw[if_neg (by rw[hw];simp)]
    exact hn _ _ _ hk (h.put_nul hd)
   |false=>
    rw[if_neg (by simp)]at hk
    rw[if_pos (by rw[hw];rfl)]
    exact .inl (xh hT tb h hk hn)
 ·exact hk.elim
theorem xN(hT:T.ok P)(tb:Tabs P E.w0 E.O0){ops:Array Oper}{Q:Exit→Act→World→Prop}: ∀(l:List Oper)(k:Nat)(st:St)(a:Act)(w:World)(K:St→Prop),(∀j,l[j]? =ops[k+j]?)→Rel E st a w ae→vg P T ops.toList l st K→
  (∀st' a' w',K st'→Rel E st' a' w' ae→Q .normal a' w')→wpOps P ops Q (List.range' k l.length) a w
 |[],k,st,a,w,K,hl,h,hk,hn=>hn _ _ _ hk h
 |o::l,k,st,a,w,K,hl,h,hk,hn=>by
  have h0:ops[k]? =some o:=by simpa using(hl 0).symm
  simp only[List.length_cons,List.range'_succ,wpOps,h0]
  exact uI hT tb h hk fun st' a' w' ⟨st'',hs,hk'⟩ h'=>xN hT tb l (k+1) st'' a' w' K (fun j=>by have:=hl (j+1);simpa[Nat.add_assoc,Nat.add_comm 1 j]using this) (hs _ _ _ h') hk' hn
end
end Go.Abs
