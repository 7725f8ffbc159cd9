/- The abstract layer: pointers that are handed over or lent. -/
import Derived.Test.YtiadohfbemjfkaaDoorAbsF
set_option linter.unusedVariables false
set_option linter.unusedSimpArgs false
noncomputable section
namespace Go.Abs
open Go
def expLeavesK:List AV→St→(List AV→St→Prop)→Prop
 |[],st,K=>K [] st
 |x::l,st,K=>(expLeaf x).runK st fun p=>expLeavesK l (st.mws p.2) fun ys st'=>K (p.1::ys) st'
def AV.leads0:AV→Bool
 | .ref _ _ _=>true
 | .ptr _ _ _=>true
 |_=>false
def AV.leads:AV→Bool
 | .agg cs=>cs.any AV.hasRef0
 | .fn _ caps=>caps.any AV.leads0
 |v=>v.leads0
def lendRow:List AV→RP (List AV)
 |[]=>.ret []
 |x::l=>.req (!x.isUndef&&x.light) ((lendLeaf x).bind fun y=>(lendRow l).bind fun ys=>.ret (y::ys))
def lendP(x:AV):RP AV:=match x with
 | .ptr b i j=>match i with
  |0=>.mem b fun m=>match m with
   | .live ⟨arr,_,_,rows⟩=>match arr with
    |false=>match rows with
     |[row]=>(lendRow row).bind fun ys=>.ret (.rp ys j)
     |_=>.fail
    |true=>.fail
   |_=>.fail
  |_=>.fail
 |v=>lendLeaf v
def lendPs:List AV→RP (List AV)
 |[]=>.ret []
 |x::l=>(lendP x).bind fun y=>(lendPs l).bind fun ys=>.ret (y::ys)
def lendX(x:AV):RP AV:=match x with
 | .agg cs=>(lendLeaves cs).bind fun ys=>.ret (.agg ys)
 | .fn f caps=>(lendPs caps).bind fun cs=>.ret (.fn f cs)
 |v=>lendP v
def lendXs:List AV→RP (List AV)
 |[]=>.ret []
 |x::l=>(lendX x).bind fun y=>(lendXs l).bind fun ys=>.ret (y::ys)
def giveP(x:AV)(n:Nat)(st:St)(K:AV→St→Prop):Prop:=match x with
 | .ptr b i j=>match i with
  |0=>match st.m b with
   | .live ⟨arr,lvl,z,rows⟩=>match arr with
    |false=>match rows with
     |[row]=>Rq (decide (j+n≤row.length)&&((row.drop j).take n).all fun c=>c.light&& !c.isUndef)
       (expLeavesK ((row.drop j).take n) (st.mws [(b,.live ⟨false,lvl,z,[setCells row j (List.replicate n .undef)]⟩)]) fun ys st=>Rq (ys.all fun c=> !c.isUndef) (K (.obj ys) st))
     |_=>False
    |true=>False
   |_=>False
  |_=>False
 |_=>False
def givePs:List (Option Nat)→List AV→St→(List AV→St→Prop)→Prop
 |[],[],st,K=>K [] st
 |none::fs,_::as,st,K=>givePs fs as st fun l st=>K (.undef::l) st
 |some n::fs,x::as,st,K=>giveP x n st fun y st=>givePs fs as st fun l st=>K (y::l) st
 |_,_,_,_=>False
def mixP:List (Option Nat)→List AV→List AV→List AV
 |none::fs,_::gs,y::ys=>y::mixP fs gs ys
 |some _::fs,g::gs,_::ys=>g::mixP fs gs ys
 |_,_,_=>[]
def undefAt:List (Option Nat)→List AV→Prop
 |[],[]=>True
 |none::fs,g::gs=>g=.undef∧undefAt fs gs
 |some _::fs,_::gs=>undefAt fs gs
 |_,_=>False
def restP:List (Option Nat)→List AV→List AV
 |none::fs,x::as=>x::restP fs as
 |some _::fs,_::as=>.undef::restP fs as
 |_,_=>[]
def takeP(x o:AV)(b0:Nat)(st:St)(K:St→Prop):Prop:=match x with
 | .ptr b _ j=>match o with
  | .obj cs=>match st.m b with
   | .live ⟨arr,lvl,z,rows⟩=>match arr with
    |false=>match rows with
     |[row]=>Rq (cs.all impLeafOk&&decide (j+cs.length≤row.length)&&((row.drop j).take cs.length).all AV.isUndef)
      (Rq ((impLeaves b0 cs).2.all fun p=>match st.m p.1 with| .abs=>true|_=>false)
       (K ((st.mws (impLeaves b0 cs).2).mws [(b,.live ⟨false,lvl,z,[setCells row j (impLeaves b0 cs).1]⟩)])))
     |_=>False
    |true=>False
   |_=>False
  |_=>False
 |_=>False
def takePs:List (Option Nat)→List AV→List AV→Nat→St→(St→Prop)→Prop
 |[],[],[],_,st,K=>K st
 |none::fs,_::as,o::os,b0,st,K=>o=.undef∧takePs fs as os b0 st K
 |some _::fs,x::as,o::os,b0,st,K=>takeP x o b0 st fun st=>takePs fs as os (b0+100) st K
 |_,_,_,_,_,_=>False
def AV.nrO:AV→Bool
 | .obj cs=>cs.all AV.nr0
 |v=>v.nr0
section
variable{P:Program}{T:TT}{E:Env}{o:Oper}{st:St}{a:Act}{w:World}{X:Cells}{loc:Locs}{ob:Nat→Cells}{r:Res}
theorem expLeavesK_ok: ∀(l:List AV)(vs:List Value)(st:St)(X:Cells)(ob:Nat→Cells)(K:List AV→St→Prop),RelC E st a w X loc ob→vs.length=l.length→
  (∀(k:Nat) x v,l[k]? =some x→vs[k]? =some v→AR w (RS E w (Owned ob X)) loc x v none2)→expLeavesK l st K→
  ∃ys st' X' ob' O,K ys st'∧Left E a w X loc ob st' X' ob' O∧Parts w (RS E w (Owned ob' X')) noLoc ys vs O
 |[],[],st,X,ob,K,h,_,_,hk=>⟨[],st,X,ob,none2,hk,Left.refl h,emp_none2⟩
 |[],_::_,_,_,_,_,_,hl,_,_=>by simp at hl
 |_::_,[],_,_,_,_,_,hl,_,_=>by simp at hl
 |x::l,v::vs,st,X,ob,K,h,hl,hx,hk=>by
  obtain⟨p,hp,hk⟩:=runK_run hk
  obtain⟨X1,ob1,O1,hL1,hy⟩:=expLeaf_ok h (hx 0 x v (by simp) (by simp)) hp
  obtain⟨ys,st',X2,ob2,O2,hK,hL2,hp2⟩:=expLeavesK_ok l vs _ X1 ob1 _ hL1.rel (by simpa using hl) (fun k y u h1 h2=>(hx (k+1) y u (by simpa using h1) (by simpa using h2)).weak hL1.RS fun _ _ k=>k) hk
  obtain⟨hL,hd⟩:=hL1.trans hL2
  exact⟨p.1::ys,st',X2,ob2,_,hK,hL,O1,O2,fun g o=>Iff.rfl,hd,hy.weak hL2.RS fun _ _ k=>k,hp2⟩
theorem RelC.part(h:RelC E st a w X loc ob){b:Nat}{m:MB}{Ob X':Cells}(hown: ∀g o,Owned (upd ob b Ob) X' g o↔Owned ob X g o)(hbr:BF1 E w (Owned ob X) loc b m Ob)
  (hd: ∀b',b'≠b→Disj (ob b') Ob)(hx: ∀b',b'≠b→Disj (ob b') X')(hbx:Disj Ob X'):RelC E (st.mws [(b,m)]) a w X' loc (upd ob b Ob):=by
 have he:Owned (upd ob b Ob) X'=Owned ob X:=by funext g o;exact propext (hown g o)
 refine h.go none2 rfl rfl (Frame.refl w _) (fun g o k=>⟨.inl (he▸k),h.lt g o (he▸k)⟩) (fun _ _ k=>k.elim) (fun _ _ k=>k) (fun b'=> ?_) (fun b1 b2 hne g o k1 k2=> ?_) (fun b1 g o k1 k2=> ?_)
 ·by_cases hb:b'=b
  ·subst hb
   right
   have e1:(st.mws [(b',m)]).m b'=m:=by simp[St.mws,upd]
   have e2:upd ob b' Ob b'=Ob:=by simp[upd]
   rw[e1,e2,he]
   exact hbr
  ·left
   exact⟨by simp[St.mws,upd,hb],by simp[upd,hb],rfl,fun _ _ k=>k.elim⟩
 ·by_cases h1:b1=b
  ·subst h1
   have h2: ¬b2=b1:=fun e=>hne e.symm
   simp only[upd,if_true,h2,if_false]at k1 k2
   exact hd b2 h2 g o k2 k1
  ·by_cases h2:b2=b
   ·subst h2
    simp only[upd,if_true,h1,if_false]at k1 k2
    exact hd b1 h1 g o k1 k2
   ·simp only[upd,h1,h2,if_false]at k1 k2
    exact h.db b1 b2 hne g o k1 k2
 ·by_cases h1:b1=b
  ·subst h1
   simp only[upd,if_true]at k1
   exact hbx g o k1 k2
  ·simp only[upd,h1,if_false]at k1
   exact hx b1 h1 g o k1 k2
theorem set_get{row vs:List AV}{j k:Nat}(hj:j+vs.length≤row.length):(setCells row j vs)[k]? =if k<j then row[k]? else if k<j+vs.length then vs[k-j]? else row[k]? :=by
 unfold setCells
 have h1:(row.take j).length=j:=by simp;omega
 by_cases hk:k<j
 ·rw[List.append_assoc,List.getElem?_append_left (by rw[h1];exact hk),if_pos hk,List.getElem?_take_of_lt hk]
 ·rw[if_neg hk,List.append_assoc,List.getElem?_append_right (by rw[h1];omega),h1]
  by_cases hk2:k<j+vs.length
  ·rw[if_pos hk2,List.getElem?_append_left (by omega)]
  ·rw[if_neg hk2,List.getElem?_append_right (by omega),List.getElem?_drop]
   congr 1
   omega
theorem set_len{row vs:List AV}{j:Nat}(hj:j+vs.length≤row.length):(setCells row j vs).length=row.length:=by
 simp[setCells];omega
def span(l:Loc)(j n:Nat):Cells:=fun g o=>g=l.g∧l.base+j≤o∧o<l.base+j+n
theorem giveP_ok(h:RelC E st a w X loc ob){x:AV}{v:Value}(hx:AR w (RS E w (Owned ob X)) loc x v none2){n:Nat}{K:AV→St→Prop}(hk:giveP x n st K):
  ∃y st' X' ob' O,K y st'∧Left E a w X loc ob st' X' ob' O∧AR w (RS E w (Owned ob' X')) noLoc y v O:=by
 unfold giveP at hk
 split at hk
 case h_2=>exact hk.elim
 rename_i b i j
 split at hk
 case h_2=>exact hk.elim
 split at hk
 case h_2=>exact hk.elim
 rename_i arr lvl z rows hm
 split at hk
 case h_2=>exact hk.elim
 split at hk
 case h_2=>exact hk.elim
 rename_i row
 obtain⟨hq,hk⟩:=hk
 simp only[Bool.and_eq_true,decide_eq_true_eq]at hq
 obtain⟨hjn,hall⟩:=hq
 obtain⟨l,hll,hbd,hln,rfl⟩:=hx.inv_ptr
 have hat:=h.lv b _ hm
 generalize hob:ob b=Ob at hat
 cases hat with
 |var l' vs os hl' hbd' hs hn hz hb hc hxx hO hd hdd=>
  rw[hll]at hl';injection hl' with hl';subst hl'
  have hrep:(List.replicate n AV.undef).length=n:=by simp
  have hin: ∀k,j≤k→k<j+n→ ∃c,row[k]? =some c∧c.light=true∧c.isUndef=false:=by
   intro k h1 h2
   have hlt:k<row.length:=by omega
   refine⟨row[k],List.getElem?_eq_getElem _,?_⟩
   have hmem:row[k]∈(row.drop j).take n:=by
    rw[List.mem_iff_getElem?]
    exact⟨k-j,by rw[List.getElem?_take_of_lt (by omega),List.getElem?_drop];rw[show j+(k-j)=k by omega];exact List.getElem?_eq_getElem _⟩
   have:=List.all_eq_true.1 hall _ hmem
   simpa using this
  have hemp: ∀k c,row[k]? =some c→c.isUndef=false→c.light=true→Emp (os k):=fun k c h1 h2 h3=>(hxx k c h1 h2).light_emp h3
  have hCO: ∀g o,span l j n g o→Ob g o:=by
   rintro g o ⟨rfl,h1,h2⟩
   obtain⟨c,k1,k2,k3⟩:=hin (o-l.base) (by omega) (by omega)
   exact(hO _ _).2 ⟨o-l.base,c,k1,k3,.inl ⟨rfl,by omega⟩⟩
  have hown: ∀g o,Owned (upd ob b fun g o=>Ob g o∧ ¬span l j n g o) (fun g o=>X g o∨span l j n g o) g o↔Owned ob X g o:=by
   intro g o
   constructor
   ·rintro (⟨b',k⟩|k|k)
    ·by_cases hbb:b'=b
     ·subst hbb;simp only[upd,if_true]at k;exact .inl ⟨b',by rw[hob];exact k.1⟩
     ·simp only[upd,hbb,if_false]at k;exact .inl ⟨b',k⟩
    ·exact .inr k
    ·exact .inl ⟨b,by rw[hob];exact hCO g o k⟩
   ·rintro (⟨b',k⟩|k)
    ·by_cases hbb:b'=b
     ·subst hbb
      rw[hob]at k
      by_cases hc:span l j n g o
      ·exact .inr (.inr hc)
      ·exact .inl ⟨b',by simp only[upd,if_true];exact⟨k,hc⟩⟩
     ·exact .inl ⟨b',by simpa only[upd,hbb,if_false]using k⟩
    ·exact .inr (.inl k)
  have hget: ∀k c,(setCells row j (List.replicate n AV.undef))[k]? =some c→c.isUndef=false→(k<j∨j+n≤k)∧row[k]? =some c:=by
   intro k c h1 h2
   rw[set_get (by rw[hrep];exact hjn),hrep]at h1
   split at h1
   ·rename_i hk;exact⟨.inl hk,h1⟩
   ·split at h1
    ·rename_i hk1 hk2
     rw[List.getElem?_replicate]at h1
     split at h1
     ·injection h1 with h1;subst h1;simp[AV.isUndef]at h2
     ·cases h1
    ·rename_i hk1 hk2;exact⟨.inr (by omega),h1⟩
  have hput: ∀k c,row[k]? =some c→(k<j∨j+n≤k)→(setCells row j (List.replicate n AV.undef))[k]? =some c:=by
   intro k c h1 h2
   rw[set_get (by rw[hrep];exact hjn),hrep]
   by_cases hk:k<j
   ·rw[if_pos hk];exact h1
   ·rw[if_neg hk,if_neg (by omega)];exact h1
  have hbr:BF1 E w (Owned ob X) loc b (.live ⟨false,lvl,z,[setCells row j (List.replicate n AV.undef)]⟩) (fun g o=>Ob g o∧ ¬span l j n g o):=by
   refine BR.var l vs os hll hbd hs hn ((set_len (by rw[hrep];exact hjn)).trans hz) hb (fun k c h1 h2=>hc k c (hget k c h1 h2).2 h2) (fun k c h1 h2=>hxx k c (hget k c h1 h2).2 h2) (fun g o=> ?_)
    (fun k c k' c' h1 h2 h3 h4=>hd k c k' c' (hget k c h1 h2).2 h2 (hget k' c' h3 h4).2 h4) (fun k c k' c' h1 h2 h3 h4=>hdd k c k' c' (hget k c h1 h2).2 h2 (hget k' c' h3 h4).2 h4)
   constructor
   ·rintro ⟨k1,k2⟩
    obtain⟨k,c,h1,h2,h3⟩:=(hO _ _).1 k1
    have hout:k<j∨j+n≤k:=by
     by_cases hr:j≤k∧k<j+n
     ·exfalso
      obtain⟨c',e1,e2,e3⟩:=hin k hr.1 hr.2
      rw[h1]at e1;injection e1 with e1;subst e1
      rcases h3 with⟨rfl,rfl⟩|h3
      ·exact k2 ⟨rfl,by omega,by omega⟩
      ·exact hemp k c h1 h2 e2 g o h3
     ·omega
    exact⟨k,c,hput k c h1 hout,h2,h3⟩
   ·rintro ⟨k,c,h1,h2,h3⟩
    obtain⟨hout,h4⟩:=hget k c h1 h2
    refine⟨(hO _ _).2 ⟨k,c,h4,h2,h3⟩,fun⟨e1,e2,e3⟩=> ?_⟩
    rcases h3 with⟨_,rfl⟩|h3
    ·omega
    ·subst e1
     obtain⟨c',k1,k2,k3⟩:=hin (o-l.base) (by omega) (by omega)
     refine hd k c (o-l.base) c' h4 h2 k1 k3 ?_
     rw[show l.base+(o-l.base)=o by omega]
     exact h3
  have hrel1:=h.part (X':=fun g o=>X g o∨span l j n g o) hown hbr (fun b' hne g o k1 k2=>h.db b' b hne g o k1 (hob▸k2.1)) (fun b' hne g o k1 k2=>by
   rcases k2 with k2|k2
   ·exact h.dx b' g o k1 k2
   ·exact h.db b' b hne g o k1 (hob▸hCO g o k2)) (fun g o k1 k2=>by
   rcases k2 with k2|k2
   ·exact h.dx b g o (hob▸k1.1) k2
   ·exact k1.2 k2)
  have hRS: ∀g o,RS E w (Owned ob X) g o→RS E w (Owned (upd ob b fun g o=>Ob g o∧ ¬span l j n g o) (fun g o=>X g o∨span l j n g o)) g o:=fun g o k=>⟨k.1,k.2.1,fun m=>k.2.2 ((hown g o).1 m)⟩
  have hL1:Left E a w X loc ob _ (fun g o=>X g o∨span l j n g o) _ (span l j n):=⟨hrel1,fun g o=>Iff.rfl,fun g o k1 k2=>h.dx b g o (hob▸hCO g o k2) k1,fun g o k=>(hown g o).1 k⟩
  let vl:List Value:=(List.range n).map fun k=>vs (j+k)
  obtain⟨ys,st',X2,ob2,O2,⟨hkn,hK⟩,hL2,hp⟩:=expLeavesK_ok ((row.drop j).take n) vl _ _ _ _ hrel1 (by simp[vl];omega) (fun k c u h1 h2=>by
   have hkn:k<n:=by
    have:=(List.getElem?_eq_some_iff.1 h2).1
    simpa[vl]using this
   rw[List.getElem?_take_of_lt hkn,List.getElem?_drop]at h1
   obtain⟨c',e1,e2,e3⟩:=hin (j+k) (by omega) (by omega)
   rw[h1]at e1;injection e1 with e1;subst e1
   have:u=vs (j+k):=by simpa[vl,hkn]using h2.symm
   subst this
   exact((hxx (j+k) c h1 e3).emp_weak (hemp _ c h1 e3 e2) emp_none2).weak hRS fun _ _ k=>k) hk
  obtain⟨hL,hdis⟩:=hL1.trans hL2
  obtain⟨hyl,os2,hy,hu⟩:=uni_of_parts _ _ _ hp
  have hyn:ys.length=n:=by rw[←hyl];simp[vl]
  refine⟨_,st',X2,ob2,_,hK,hL,?_⟩
  refine AR.obj (fun k=>vs (j+k)) os2 ?_ (fun c hc=>by simpa using List.all_eq_true.1 hkn c hc) (fun k hk=> ?_) (fun k c h1=> ?_) (fun g o=> ?_) (fun k hk o h1 h2 h3=> ?_) (fun k k' hk hk' hne=>hu.dis k k' hk hk' hne)
  ·rw[hyn]
   refine hb.mono ?_
   rw[←hz]
   simp
   omega
  ·rw[hyn]at hk
   obtain⟨c,e1,e2,e3⟩:=hin (j+k) (by omega) (by omega)
   have:=hc (j+k) c e1 e3
   simp only[Nat.zero_mul,Nat.add_zero,←Nat.add_assoc]at this⊢
   exact this
  ·have hk:k<n:=by rw[←hyn];exact(List.getElem?_eq_some_iff.1 h1).1
   exact hy k c _ h1 (by simp[vl,hk])
  ·simp only[span,Nat.zero_mul,Nat.add_zero]
   rw[hu.iff]
   rw[hyn]
  ·refine hL2.dis l.g o (.inr ⟨rfl,?_,?_⟩) ((hu.iff _ _).2 ⟨k,hk,h3⟩)
   ·simpa using h1
   ·rw[←hyn];simpa using h2
theorem givePs_ok: ∀(fs:List (Option Nat))(as:List AV)(vs:List Value)(st:St)(X:Cells)(ob:Nat→Cells)(K:List AV→St→Prop),RelC E st a w X loc ob→vs.length=as.length→
  (∀(k:Nat) x v,as[k]? =some x→vs[k]? =some v→AR w (RS E w (Owned ob X)) loc x v none2)→givePs fs as st K→
  ∃ys st' X' ob' O,K ys st'∧Left E a w X loc ob st' X' ob' O∧Parts w (RS E w (Owned ob' X')) noLoc ys vs O∧undefAt fs ys
 |[],[],[],st,X,ob,K,h,_,_,hk=>⟨[],st,X,ob,none2,hk,Left.refl h,emp_none2,trivial⟩
 |[],[],_::_,_,_,_,_,_,hl,_,_=>by simp at hl
 |[],_::_,_,_,_,_,_,_,_,_,hk=>hk.elim
 |none::_,[],_,_,_,_,_,_,_,_,hk=>hk.elim
 |some _::_,[],_,_,_,_,_,_,_,_,hk=>hk.elim
 |_::_,_::_,[],_,_,_,_,_,hl,_,_=>by simp at hl
 |none::fs,x::as,v::vs,st,X,ob,K,h,hl,hx,hk=>by
  obtain⟨ys,st',X2,ob2,O2,hK,hL2,hp2,hfl⟩:=givePs_ok fs as vs st X ob _ h (by simpa using hl) (fun k y u h1 h2=>hx (k+1) y u (by simpa using h1) (by simpa using h2)) hk
  exact⟨.undef::ys,st',X2,ob2,O2,hK,hL2,⟨none2,O2,fun g o=>by simp[none2],emp_none2.disj,.sc trivial emp_none2,hp2⟩,⟨rfl,hfl⟩⟩
 |some n::fs,x::as,v::vs,st,X,ob,K,h,hl,hx,hk=>by
  obtain⟨y,st1,X1,ob1,O1,hk,hL1,hy⟩:=giveP_ok h (hx 0 x v (by simp) (by simp)) hk
  obtain⟨ys,st',X2,ob2,O2,hK,hL2,hp2,hfl⟩:=givePs_ok fs as vs st1 X1 ob1 _ hL1.rel (by simpa using hl) (fun k y u h1 h2=>(hx (k+1) y u (by simpa using h1) (by simpa using h2)).weak hL1.RS fun _ _ k=>k) hk
  obtain⟨hL,hd⟩:=hL1.trans hL2
  exact⟨y::ys,st',X2,ob2,_,hK,hL,⟨O1,O2,fun g o=>Iff.rfl,hd,hy.weak hL2.RS fun _ _ k=>k,hp2⟩,hfl⟩
theorem lendRow_ok(h:RelC E st a w X loc ob){Rc:Cells}(hR: ∀g o,RS E w (Owned ob X) g o→Rc g o)(hb: ∀b g o,ob b g o→Rc g o): ∀(l ys:List AV)(vs:Nat→Value),(lendRow l).run st=some ys→
  (∀(k:Nat) x,l[k]? =some x→x.isUndef=false→x.light=true→AR w (RS E w (Owned ob X)) loc x (vs k) none2)→
  ys.length=l.length∧(∀x∈l,x.isUndef=false)∧(∀y∈ys,y.isUndef=false)∧ ∀(k:Nat) y,ys[k]? =some y→AR w Rc noLoc y (vs k) none2
 |[],ys,vs,hr,hx=>by
  obtain rfl:=ret_some (st:=st) hr
  exact⟨rfl,fun x hx=>by simp at hx,fun x hx=>by simp at hx,fun k y h1=>by simp at h1⟩
 |x::l,ys,vs,hr,hx=>by
  obtain⟨hq,hr⟩:=req_some hr
  simp only[Bool.and_eq_true,Bool.not_eq_true']at hq
  obtain⟨y,h1,hr⟩:=bind_some hr
  obtain⟨ys',h2,hr⟩:=bind_some hr
  obtain rfl:=ret_some hr
  have hy:=lendLeaf_ok h (hx 0 x rfl hq.1 hq.2) h1 hR (fun _=>hb)
  obtain⟨h3,h4,h5,h6⟩:=lendRow_ok h hR hb l ys' (fun k=>vs (k+1)) h2 (fun k y k1=>hx (k+1) y (by simpa using k1))
  refine⟨by simp[h3],fun z hz=> ?_,fun z hz=> ?_,fun k y' u=> ?_⟩
  ·rcases List.mem_cons.1 hz with rfl|hz
   ·exact hq.1
   ·exact h4 z hz
  ·rcases List.mem_cons.1 hz with rfl|hz
   ·cases x with
    |undef=>simp[AV.isUndef]at hq
    |ref b off n=>
     have h1:=mem_some h1
     obtain⟨blk,_,h1⟩:=bind_some h1
     obtain⟨_,h1⟩:=req_some h1
     obtain rfl:=ret_some h1
     rfl
    |_=>obtain⟨_,h1⟩:=req_some h1;obtain rfl:=ret_some h1;rfl
   ·exact h5 z hz
  ·cases k with
   |zero=>simp only[List.getElem?_cons_zero,Option.some.injEq]at u;subst u;exact hy
   |succ k=>exact h6 k y' (by simpa using u)
theorem lendP_ok(h:RelC E st a w X loc ob){x y:AV}{v:Value}(hx:AR w (RS E w (Owned ob X)) loc x v none2)(hr:(lendP x).run st=some y){Rc:Cells}(hR: ∀g o,RS E w (Owned ob X) g o→Rc g o)
  (hb:x.leads0=true→ ∀b g o,ob b g o→Rc g o):AR w Rc noLoc y v none2:=by
 have lf: ∀x:AV,x.hasRef0=x.leads0→AR w (RS E w (Owned ob X)) loc x v none2→(lendLeaf x).run st=some y→(x.leads0=true→ ∀b g o,ob b g o→Rc g o)→AR w Rc noLoc y v none2:=fun x e hx hr hb=>lendLeaf_ok h hx hr hR (by rw[e];exact hb)
 cases x with
 |ptr b i j=>
  cases i with
  |succ i=>cases hr
  |zero=>
   have hr:=mem_some hr
   split at hr
   case h_2=>cases hr
   rename_i arr lvl z rows hm
   split at hr
   case h_2=>cases hr
   split at hr
   case h_2=>cases hr
   rename_i row
   obtain⟨ys,h1,hr⟩:=bind_some hr
   obtain rfl:=ret_some hr
   obtain⟨l,hll,hbd,hln,rfl⟩:=hx.inv_ptr
   have hat:=h.lv b _ hm
   have hbb:=hb rfl
   generalize hob:ob b=Ob at hat
   cases hat with
   |var l' vs os hl' hbd' hs hn hz hbf hc hxx hO hd hdd=>
    rw[hll]at hl';injection hl' with hl';subst hl'
    obtain⟨h2,h3,h4,h5⟩:=lendRow_ok h hR hbb row ys vs h1 (fun k c k1 k2 k3=>(hxx k c k1 k2).emp_weak ((hxx k c k1 k2).light_emp k3) emp_none2)
    have:=AR.rp (w:=w) (R:=Rc) (loc:=noLoc) (row:=ys) (j:=j) (g:=l.g) (o:=l.base) (O:=none2) vs emp_none2 hbf.lt h4 (fun k hk=>by
     have hlt:k<row.length:=by omega
     have e1:row[k]? =some row[k]:=List.getElem?_eq_getElem _
     have e2:=h3 row[k] (List.getElem_mem _)
     exact⟨hc k _ e1 e2,hbb b _ _ (by rw[hob];exact(hO _ _).2 ⟨k,_,e1,e2,.inl ⟨rfl,rfl⟩⟩)⟩) h5
    simpa using this
 |_=>exact lf _ rfl hx hr hb
theorem lendPs_ok(h:RelC E st a w X loc ob){Rc:Cells}(hR: ∀g o,RS E w (Owned ob X) g o→Rc g o): ∀(l ys:List AV)(vs:List Value),vs.length=l.length→(lendPs l).run st=some ys→
  (∀(k:Nat) x v,l[k]? =some x→vs[k]? =some v→AR w (RS E w (Owned ob X)) loc x v none2)→(l.any AV.leads0=true→ ∀b g o,ob b g o→Rc g o)→
  ys.length=l.length∧ ∀(k:Nat) y v,ys[k]? =some y→vs[k]? =some v→AR w Rc noLoc y v none2
 |[],ys,vs,hl,hr,hx,hb=>by
  obtain rfl:=ret_some (st:=st) hr
  exact⟨rfl,fun k y v h1=>by simp at h1⟩
 |x::l,ys,[],hl,_,_,_=>by simp at hl
 |x::l,ys,v::vs,hl,hr,hx,hb=>by
  obtain⟨y,h1,hr⟩:=bind_some hr
  obtain⟨ys',h2,hr⟩:=bind_some hr
  obtain rfl:=ret_some hr
  have hy:=lendP_ok h (hx 0 x v (by simp) (by simp)) h1 hR (fun hh=>hb (by simp[hh]))
  obtain⟨h3,h4⟩:=lendPs_ok h hR l ys' vs (by simpa using hl) h2 (fun k y u k1 k2=>hx (k+1) y u (by simpa using k1) (by simpa using k2)) (fun hh=>hb (by simp only[List.any_cons,hh,Bool.or_true]))
  refine⟨by simp[h3],fun k y' u k1 k2=> ?_⟩
  cases k with
  |zero=>
   simp only[List.getElem?_cons_zero,Option.some.injEq]at k1 k2
   subst k1;subst k2
   exact hy
  |succ k=>exact h4 k y' u (by simpa using k1) (by simpa using k2)
theorem AR.inv_fn{f:FuncId}{caps:List AV}{v:Value}{R:Cells}(h:AR w R loc (.fn f caps) v none2): ∃vs:Array Value,v=.func (.func f) #[] vs∧vs.size=caps.length∧ ∀(k:Nat) x c,caps[k]? =some x→vs[k]? =some c→AR w R loc x c none2:=by
 cases h with
 |sc h _=>exact h.elim
 | @fn _ _ _ vs _ os hn hx hu=>exact⟨vs,rfl,hn,fun k x c h1 h2=>(hx k x c h1 h2).emp_weak (fun g o m=>(hu.iff g o).2 ⟨k,(List.getElem?_eq_some_iff.1 h1).1,m⟩) emp_none2⟩
theorem lendX_ok(h:RelC E st a w X loc ob){x y:AV}{v:Value}(hx:AR w (RS E w (Owned ob X)) loc x v none2)(hr:(lendX x).run st=some y){Rc:Cells}(hR: ∀g o,RS E w (Owned ob X) g o→Rc g o)
  (hb:x.leads=true→ ∀b g o,ob b g o→Rc g o):AR w Rc noLoc y v none2:=by
 cases x with
 |agg cs=>
  obtain⟨ys,h1,hr⟩:=bind_some hr
  obtain rfl:=ret_some hr
  obtain⟨vs,rfl,hvl,hvx⟩:=hx.inv_agg
  obtain⟨h3,h4⟩:=lendLeaves_ok h hR cs ys vs.toList (by simpa using hvl) h1 (fun k x v h5 h6=>hvx k x v h5 (by simpa using h6)) hb
  exact .agg (fun _=>none2) (by omega) (fun k x v h5 h6=>h4 k x v h5 (by simpa using h6)) (uni_none _)
 |fn f caps=>
  obtain⟨ys,h1,hr⟩:=bind_some hr
  obtain rfl:=ret_some hr
  obtain⟨vs,rfl,hvl,hvx⟩:=hx.inv_fn
  obtain⟨h3,h4⟩:=lendPs_ok h hR caps ys vs.toList (by simpa using hvl) h1 (fun k x v h5 h6=>hvx k x v h5 (by simpa using h6)) hb
  exact .fn (fun _=>none2) (by omega) (fun k x v h5 h6=>h4 k x v h5 (by simpa using h6)) (uni_none _)
 |_=>exact lendP_ok h hx hr hR hb
theorem lendXs_ok(h:RelC E st a w X loc ob){Rc:Cells}(hR: ∀g o,RS E w (Owned ob X) g o→Rc g o): ∀(l ys:List AV)(vs:List Value),vs.length=l.length→(lendXs l).run st=some ys→
  (∀(k:Nat) x v,l[k]? =some x→vs[k]? =some v→AR w (RS E w (Owned ob X)) loc x v none2)→(l.any AV.leads=true→ ∀b g o,ob b g o→Rc g o)→Parts w Rc noLoc ys vs none2
 |[],ys,[],hl,hr,hx,hb=>by
  obtain rfl:=ret_some (st:=st) hr
  exact emp_none2
 |[],ys,_::_,hl,_,_,_=>by simp at hl
 |x::l,ys,[],hl,_,_,_=>by simp at hl
 |x::l,ys,v::vs,hl,hr,hx,hb=>by
  obtain⟨y,h1,hr⟩:=bind_some hr
  obtain⟨ys',h2,hr⟩:=bind_some hr
  obtain rfl:=ret_some hr
  exact⟨none2,none2,fun g o=>by simp[none2],emp_none2.disj,lendX_ok h (hx 0 x v (by simp) (by simp)) h1 hR (fun hh=>hb (by simp[hh])),
   lendXs_ok h hR l ys' vs (by simpa using hl) h2 (fun k y u k1 k2=>hx (k+1) y u (by simpa using k1) (by simpa using k2)) (fun hh=>hb (by simp only[List.any_cons,hh,Bool.or_true]))⟩
theorem emp_is{O:Cells}(h:Emp O):O=none2:=by funext g o;exact propext ⟨fun k=>h g o k,fun k=>k.elim⟩
theorem mix_parts{R:Cells}: ∀(fs:List (Option Nat))(gs ys:List AV)(vs:List Value)(O:Cells),undefAt fs gs→Parts w R loc gs vs O→Parts w R loc ys vs none2→Parts w R loc (mixP fs gs ys) vs O
 |[],[],ys,[],O,_,h,_=>h
 |[],[],ys,_::_,O,_,h,_=>h.elim
 |[],_::_,_,_,_,hl,_,_=>hl.elim
 |none::_,[],_,_,_,hl,_,_=>hl.elim
 |some _::_,[],_,_,_,hl,_,_=>hl.elim
 |_::_,_::_,[],[],_,_,h,_=>h.elim
 |_::_,_::_,[],_::_,_,_,_,h=>h.elim
 |_::_,_::_,_::_,[],_,_,h,_=>h.elim
 |none::fs,g::gs,y::ys,v::vs,O,⟨hg,hl⟩,⟨O1,O2,h1,h2,h3,h4⟩,⟨U1,U2,k1,k2,k3,k4⟩=>by
  subst hg
  have e0:Emp O1:=by cases h3 with|sc _ e=>exact e
  have e1:=emp_is (O:=U1) fun g o k=>(k1 g o).2 (.inl k)
  have e2:=emp_is (O:=U2) fun g o k=>(k1 g o).2 (.inr k)
  subst e1 e2
  exact⟨none2,O2,fun g o=>by rw[h1];exact⟨fun k=>.inr (k.resolve_left (e0 g o)),fun k=>.inr (k.resolve_left id)⟩,emp_none2.disj,k3,mix_parts fs gs ys vs O2 hl h4 k4⟩
 |some _::fs,g::gs,y::ys,v::vs,O,hl,⟨O1,O2,h1,h2,h3,h4⟩,⟨U1,U2,k1,k2,k3,k4⟩=>by
  have e2:=emp_is (O:=U2) fun g o k=>(k1 g o).2 (.inr k)
  subst e2
  exact⟨O1,O2,h1,h2,h3,mix_parts fs gs ys vs O2 hl h4 k4⟩
def PtrAt(loc:Locs)(x:AV)(v:Value):Prop:=match x with
 | .ptr b i j=> ∃l,loc b=some l∧l.bound=true∧v=.pointer (some ⟨l.g,l.base+i*l.s+j,none⟩)
 |_=>True
theorem takeP_ok(h:RelC E st a w X loc ob){x o:AV}{v:Value}{O Y:Cells}(hX: ∀g o,X g o↔O g o∨Y g o)(hd:Disj O Y)(ho:AR w (RS E w (Owned ob X)) noLoc o v O)(hp:PtrAt loc x v)(hx0: ∀b i j,x=.ptr b i j→i=0){b0:Nat}{K:St→Prop}
  (hk:takeP x o b0 st K): ∃st' loc' ob',K st'∧Landed E st a w X loc ob st' Y loc' ob':=by
 unfold takeP at hk
 split at hk
 case h_2=>exact hk.elim
 rename_i b i j
 obtain rfl:=hx0 b i j rfl
 split at hk
 case h_2=>exact hk.elim
 rename_i cs
 split at hk
 case h_2=>exact hk.elim
 rename_i arr lvl z rows hm
 split at hk
 case h_2=>exact hk.elim
 split at hk
 case h_2=>exact hk.elim
 rename_i row
 obtain⟨hq,hab,hK⟩:=hk
 simp only[Bool.and_eq_true,decide_eq_true_eq]at hq
 obtain⟨⟨hok,hjn⟩,hun⟩:=hq
 obtain⟨l,hll,hbd,rfl⟩:=hp
 have hab': ∀p∈(impLeaves b0 cs).2,st.m p.1=.abs:=fun p hp=>by
  have:=List.all_eq_true.1 hab p hp
  cases hm':st.m p.1 with
  |abs=>rfl
  |_=>rw[hm']at this;cases this
 generalize hv:Value.pointer (some ⟨l.g,l.base+0*l.s+j,none⟩)=v at ho
 cases ho with
 |sc h _=>exact h.elim
 | @obj _ _ g oo _ vs os hbf hkn hc hxx hO hdo hdd=>
  simp only[Value.pointer.injEq,Option.some.injEq,Addr.mk.injEq,Nat.zero_mul,Nat.add_zero,and_true]at hv
  obtain⟨rfl,rfl⟩:=hv
  let n:=cs.length
  let O2:Cells:=fun g o=> ∃k,k<cs.length∧os k g o
  have hO': ∀g o,O g o↔span l j n g o∨O2 g o:=fun g o=>by rw[hO];rfl
  have hsO2:Disj (span l j n) O2:=fun g o ⟨e1,e2,e3⟩⟨k,k1,k2⟩=>by subst e1;exact hdo k k1 o e2 e3 k2
  let vl:List Value:=(List.range n).map vs
  have hpl:Parts w (RS E w (Owned ob X)) noLoc cs vl O2:=parts_of_uni cs vl os O2 (by simp[vl,n]) (fun k x v h1 h2=>by
   have hk:k<n:=by have:=(List.getElem?_eq_some_iff.1 h1).1;exact this
   have:v=vs k:=by simpa[vl,hk]using h2.symm
   subst this
   exact hxx k x h1) ⟨fun g o=>Iff.rfl,hdd⟩
  let Y1:Cells:=fun g o=>span l j n g o∨Y g o
  obtain⟨loc',ob',hL,hpi⟩:=imp_leaves cs vl st X O2 Y1 loc ob b0 h (fun g o=>by
   rw[hX,hO']
   exact⟨fun k=>k.elim (fun k=>k.elim (fun k=>.inr (.inl k)) .inl) fun k=>.inr (.inr k),fun k=>k.elim (fun k=>.inl (.inr k)) fun k=>k.elim (fun k=>.inl (.inl k)) .inr⟩)
   (fun g o k1 k2=>k2.elim (fun k2=>hsO2 g o k2 k1) fun k2=>hd g o ((hO' g o).2 (.inr k1)) k2) hpl hok hab'
  have hmb:(st.mws (impLeaves b0 cs).2).m b=.live ⟨false,lvl,z,[row]⟩:=by
   rw[mws_other _ _ fun p hp e=>by have:=hab' p hp;rw[e,hm]at this;cases this]
   exact hm
  have hat:=hL.rel.lv b _ hmb
  obtain⟨hil,os1,hi1,hi2⟩:=uni_of_parts _ _ _ hpi
  have hin:(impLeaves b0 cs).1.length=n:=by rw[←hil];simp[vl]
  have hlk: ∀(l:List AV)(b:Nat),l.all impLeafOk=true→ ∀x∈(impLeaves b l).1,x.isUndef=false:=by
   intro l
   induction l with
   |nil=>intro b _ x hx;simp[impLeaves]at hx
   |cons y l ih=>
    intro b hk x hx
    simp only[List.all_cons,Bool.and_eq_true]at hk
    simp only[impLeaves,List.mem_cons]at hx
    rcases hx with rfl|hx
    ·cases y<;>first|rfl|(simp[impLeafOk,AV.light]at hk)
    ·exact ih _ hk.2 x hx
  have hjn':j+(impLeaves b0 cs).1.length≤row.length:=by rw[hin];exact hjn
  generalize hob:ob' b=Ob at hat
  cases hat with
  | @var _ _ _ _ l' vs0 os0 hl' hbd' hs hn hz hb0 hc0 hx0' hO0 hd0 hdd0=>
   have hl2:=hL.ext _ _ hll
   rw[hl2]at hl';injection hl' with hl';subst hl'
   have hund: ∀k c,j≤k→k<j+n→row[k]? =some c→c.isUndef=true:=by
    intro k c h1 h2 h3
    have hmem:c∈(row.drop j).take cs.length:=by
     rw[List.mem_iff_getElem?]
     exact⟨k-j,by rw[List.getElem?_take_of_lt (by show k-j<n;omega),List.getElem?_drop,show j+(k-j)=k by omega];exact h3⟩
    exact List.all_eq_true.1 hun _ hmem
   have hget: ∀k c,(setCells row j (impLeaves b0 cs).1)[k]? =some c→(j≤k∧k<j+n∧(impLeaves b0 cs).1[k-j]? =some c)∨((k<j∨j+n≤k)∧row[k]? =some c):=by
    intro k c h1
    rw[set_get hjn',hin]at h1
    split at h1
    ·rename_i hk;exact .inr ⟨.inl hk,h1⟩
    ·split at h1
     ·exact .inl ⟨by omega,by omega,h1⟩
     ·exact .inr ⟨.inr (by omega),h1⟩
   let vs':Nat→Value:=fun k=>if j≤k∧k<j+n then vs (k-j)else vs0 k
   let os':Nat→Cells:=fun k=>if j≤k∧k<j+n then none2 else os0 k
   have hout: ∀k,(k<j∨j+n≤k)→ ¬(j≤k∧k<j+n):=fun k h=>by omega
   have hspan: ∀g o,span l j n g o→Y1 g o:=fun g o k=>.inl k
   have hob0: ∀g o,Ob g o→ ¬span l j n g o:=fun g o k1 k2=>hL.rel.dx b g o (hob▸k1) (hspan g o k2)
   have hbr:BF1 E w (Owned ob' Y1) loc' b (.live ⟨false,lvl,z,[setCells row j (impLeaves b0 cs).1]⟩) (fun g o=>Ob g o∨span l j n g o):=by
    refine BR.var l vs' os' hl2 hbd hs hn ((set_len hjn').trans hz) hb0 (fun k c h1 h2=> ?_) (fun k c h1 h2=> ?_) (fun g o=> ?_) (fun k c k' c' h1 h2 h3 h4=> ?_) (fun k c k' c' h1 h2 h3 h4 hne=> ?_)
    ·rcases hget k c h1 with⟨e1,e2,e3⟩|⟨e1,e2⟩
     ·simp only[vs',if_pos (And.intro e1 e2)]
      have:=hc (k-j) (by show k-j<n;omega)
      rw[show l.base+j+(k-j)=l.base+k by omega]at this
      exact this
     ·simp only[vs',if_neg (hout k e1)]
      exact hc0 k c e2 h2
    ·rcases hget k c h1 with⟨e1,e2,e3⟩|⟨e1,e2⟩
     ·simp only[vs',os',if_pos (And.intro e1 e2)]
      have hkl:k-j<(impLeaves b0 cs).1.length:=by omega
      exact(hi1 (k-j) c (vs (k-j)) e3 (by simp only[vl,List.getElem?_map];rw[List.getElem?_range (by omega)];rfl)).emp_weak (fun g o m=>(hi2.iff g o).2 ⟨k-j,hkl,m⟩) emp_none2
     ·simp only[vs',os',if_neg (hout k e1)]
      exact hx0' k c e2 h2
    ·constructor
     ·rintro (k1|⟨rfl,k1,k2⟩)
      ·obtain⟨k,c,e1,e2,e3⟩:=(hO0 g o).1 k1
       have ho:k<j∨j+n≤k:=by
        by_cases hr:j≤k∧k<j+n
        ·have:=hund k c hr.1 hr.2 e1;rw[e2]at this;cases this
        ·omega
       refine⟨k,c,?_,e2,by simp only[os',if_neg (hout k ho)];exact e3⟩
       rw[set_get hjn',hin]
       by_cases hk:k<j
       ·rw[if_pos hk];exact e1
       ·rw[if_neg hk,if_neg (by omega)];exact e1
      ·have hkl:o-l.base-j<(impLeaves b0 cs).1.length:=by omega
       refine⟨o-l.base,(impLeaves b0 cs).1[o-l.base-j],?_,hlk cs b0 hok _ (List.getElem_mem _),.inl ⟨rfl,by omega⟩⟩
       rw[set_get hjn',hin,if_neg (by omega),if_pos (by omega)]
       exact List.getElem?_eq_getElem _
     ·rintro ⟨k,c,e1,e2,e3⟩
      rcases hget k c e1 with⟨f1,f2,f3⟩|⟨f1,f2⟩
      ·simp only[os',if_pos (And.intro f1 f2)]at e3
       rcases e3 with⟨rfl,rfl⟩|e3
       ·exact .inr ⟨rfl,by omega,by omega⟩
       ·exact e3.elim
      ·simp only[os',if_neg (hout k f1)]at e3
       exact .inl ((hO0 g o).2 ⟨k,c,f2,e2,e3⟩)
    ·intro hmm
     rcases hget k c h1 with⟨f1,f2,f3⟩|⟨f1,f2⟩
     ·simp only[os',if_pos (And.intro f1 f2)]at hmm;exact hmm
     ·simp only[os',if_neg (hout k f1)]at hmm
      rcases hget k' c' h3 with⟨g1,g2,g3⟩|⟨g1,g2⟩
      ·exact hob0 _ _ ((hO0 _ _).2 ⟨k,c,f2,h2,.inr hmm⟩) ⟨rfl,by omega,by omega⟩
      ·exact hd0 k c k' c' f2 h2 g2 h4 hmm
    ·intro g o m1 m2
     rcases hget k c h1 with⟨f1,f2,f3⟩|⟨f1,f2⟩
     ·simp only[os',if_pos (And.intro f1 f2)]at m1;exact m1
     ·simp only[os',if_neg (hout k f1)]at m1
      rcases hget k' c' h3 with⟨g1,g2,g3⟩|⟨g1,g2⟩
      ·simp only[os',if_pos (And.intro g1 g2)]at m2;exact m2
      ·simp only[os',if_neg (hout k' g1)]at m2
       exact hdd0 k c k' c' f2 h2 g2 h4 hne g o m1 m2
   have hown: ∀g o,Owned (upd ob' b fun g o=>Ob g o∨span l j n g o) Y g o↔Owned ob' Y1 g o:=by
    intro g o
    constructor
    ·rintro (⟨b',k⟩|k)
     ·by_cases hbb:b'=b
      ·subst hbb
       simp only[upd,if_true]at k
       rcases k with k|k
       ·exact .inl ⟨b',by rw[hob];exact k⟩
       ·exact .inr (.inl k)
      ·simp only[upd,hbb,if_false]at k;exact .inl ⟨b',k⟩
     ·exact .inr (.inr k)
    ·rintro (⟨b',k⟩|k|k)
     ·by_cases hbb:b'=b
      ·subst hbb;exact .inl ⟨b',by simp only[upd,if_true];rw[hob]at k;exact .inl k⟩
      ·exact .inl ⟨b',by simpa only[upd,hbb,if_false]using k⟩
     ·exact .inl ⟨b,by simp only[upd,if_true];exact .inr k⟩
     ·exact .inr k
   have hsY: ∀g o,span l j n g o→Y g o→False:=fun g o k1 k2=>hd g o ((hO' g o).2 (.inl k1)) k2
   have hfin:=hL.rel.part (X':=Y) hown hbr (fun b' hne g o k1 k2=>by
    rcases k2 with k2|k2
    ·exact hL.rel.db b' b hne g o k1 (hob▸k2)
    ·exact hL.rel.dx b' g o k1 (.inl k2)) (fun b' hne g o k1 k2=>hL.rel.dx b' g o k1 (.inr k2)) (fun g o k1 k2=>by
    rcases k1 with k1|k1
    ·exact hL.rel.dx b g o (hob▸k1) (.inr k2)
    ·exact hsY g o k1 k2)
   refine⟨_,loc',_,hK,hfin,?_,hL.ext⟩
   rw[←hL.own]
   funext g o
   exact propext (hown g o)
theorem PtrAt.ext{loc':Locs}{x:AV}{v:Value}(h:PtrAt loc x v)(hl: ∀b l,loc b=some l→loc' b=some l):PtrAt loc' x v:=by
 cases x<;>first|trivial|(obtain⟨l,h1,h2⟩:=h;exact⟨l,hl _ _ h1,h2⟩)
def ptrsOk:List (Option Nat)→List AV→Prop
 |[],[]=>True
 |none::fs,_::as=>ptrsOk fs as
 |some _::fs,x::as=>(∀b i j,x=.ptr b i j→i=0)∧ptrsOk fs as
 |_,_=>False
theorem takePs_ok: ∀(fs:List (Option Nat))(as os:List AV)(vs:List Value)(b0:Nat)(st:St)(X O Y:Cells)(loc:Locs)(ob:Nat→Cells)(K:St→Prop),RelC E st a w X loc ob→(∀g o,X g o↔O g o∨Y g o)→Disj O Y→
  Parts w (RS E w (Owned ob X)) noLoc os vs O→(∀(k:Nat) x v,as[k]? =some x→vs[k]? =some v→PtrAt loc x v)→ptrsOk fs as→takePs fs as os b0 st K→ ∃st' loc' ob',K st'∧Landed E st a w X loc ob st' Y loc' ob'
 |[],[],[],[],b0,st,X,O,Y,loc,ob,K,h,hX,hd,hp,_,_,hk=>⟨st,loc,ob,hk,Landed.refl h fun g o=>(hX g o).trans ⟨fun k=>k.resolve_left (hp g o),.inr⟩⟩
 |[],[],[],_::_,_,_,_,_,_,_,_,_,_,_,_,hp,_,_,_=>hp.elim
 |[],_::_,_,_,_,_,_,_,_,_,_,_,_,_,_,_,_,_,hk=>by cases ‹List AV› <;>exact hk.elim
 |[],[],_::_,_,_,_,_,_,_,_,_,_,_,_,_,_,_,_,hk=>hk.elim
 |none::_,[],_,_,_,_,_,_,_,_,_,_,_,_,_,_,_,hz,_=>hz.elim
 |some _::_,[],_,_,_,_,_,_,_,_,_,_,_,_,_,_,_,hz,_=>hz.elim
 |none::_,_::_,[],_,_,_,_,_,_,_,_,_,_,_,_,_,_,_,hk=>hk.elim
 |some _::_,_::_,[],_,_,_,_,_,_,_,_,_,_,_,_,_,_,_,hk=>hk.elim
 |_::_,_::_,_::_,[],_,_,_,_,_,_,_,_,_,_,_,hp,_,_,_=>hp.elim
 |none::fs,x::as,o::os,v::vs,b0,st,X,O,Y,loc,ob,K,h,hX,hd,⟨O1,O2,h1,h2,h3,h4⟩,hpt,hz,⟨hu,hk⟩=>by
  subst hu
  have e1:Emp O1:=by cases h3 with|sc _ e=>exact e
  have e2:O2=O:=by funext g o;exact propext ⟨fun k=>(h1 g o).2 (.inr k),fun k=>((h1 g o).1 k).resolve_left (e1 g o)⟩
  subst e2
  exact takePs_ok fs as os vs b0 st X O2 Y loc ob K h hX hd h4 (fun k y u k1 k2=>hpt (k+1) y u (by simpa using k1) (by simpa using k2)) hz hk
 |some n::fs,x::as,o::os,v::vs,b0,st,X,O,Y,loc,ob,K,h,hX,hd,⟨O1,O2,h1,h2,h3,h4⟩,hpt,⟨hz0,hz⟩,hk=>by
  obtain⟨st1,loc1,ob1,hk1,hL1⟩:=takeP_ok (Y:=fun g o=>O2 g o∨Y g o) h (fun g o=>by rw[hX,h1,or_assoc]) (fun g o k1 k2=>k2.elim (fun k2=>h2 g o k1 k2) fun k2=>hd g o ((h1 g o).2 (.inl k1)) k2) h3 (hpt 0 x v rfl rfl) hz0 hk
  have hRS:RS E w (Owned ob1 fun g o=>O2 g o∨Y g o)=RS E w (Owned ob X):=by rw[hL1.own]
  obtain⟨st2,loc2,ob2,hk2,hL2⟩:=takePs_ok fs as os vs (b0+100) st1 _ O2 Y loc1 ob1 K hL1.rel (fun g o=>Iff.rfl) (fun g o k1 k2=>hd g o ((h1 g o).2 (.inr k1)) k2) (by rw[hRS];exact h4)
   (fun k y u k1 k2=>(hpt (k+1) y u (by simpa using k1) (by simpa using k2)).ext hL1.ext) hz hk1
  exact⟨st2,loc2,ob2,hk2,hL1.trans hL2⟩
theorem giveP_zero{x:AV}{n:Nat}{K:AV→St→Prop}(hk:giveP x n st K): ∀b i j,x=.ptr b i j→i=0:=by
 rintro b i j rfl
 cases i with
 |zero=>rfl
 |succ i=>exact hk.elim
theorem givePs_ptrs: ∀(fs:List (Option Nat))(as:List AV)(st:St)(K:List AV→St→Prop),givePs fs as st K→ptrsOk fs as
 |[],[],_,_,_=>trivial
 |[],_::_,_,_,hk=>hk.elim
 |none::_,[],_,_,hk=>hk.elim
 |some _::_,[],_,_,hk=>hk.elim
 |none::fs,x::as,st,K,hk=>givePs_ptrs fs as st _ hk
 |some n::fs,x::as,st,K,hk=>by
  refine⟨giveP_zero hk,?_⟩
  have ex: ∀(l:List AV)(st:St)(K:List AV→St→Prop),expLeavesK l st K→ ∃ys st',K ys st':=by
   intro l
   induction l with
   |nil=>intro st K h;exact⟨_,_,h⟩
   |cons y l ih=>intro st K h;obtain⟨p,_,h⟩:=runK_run h;obtain⟨ys,st',h⟩:=ih _ _ h;exact⟨_,_,h⟩
  have: ∃y st',givePs fs as st' fun l st=>K (y::l) st:=by
   have hk:giveP x n st fun y st=>givePs fs as st fun l st=>K (y::l) st:=hk
   unfold giveP at hk
   split at hk
   case h_2=>exact hk.elim
   split at hk
   case h_2=>exact hk.elim
   split at hk
   case h_2=>exact hk.elim
   split at hk
   case h_2=>exact hk.elim
   split at hk
   case h_2=>exact hk.elim
   obtain⟨_,hk⟩:=hk
   obtain⟨ys,st',_,hk⟩:=ex _ _ _ hk
   exact⟨_,_,hk⟩
  obtain⟨y,st',hk⟩:=this
  exact givePs_ptrs fs as st' _ hk
theorem AR.nrO_any{R R':Cells}{x:AV}{v:Value}{O:Cells}(h:AR w R noLoc x v O)(hx:x.nrO=true):AR w R' noLoc x v O:=by
 cases x with
 |obj cs=>
  cases h with
  |sc h e=>exact h.elim
  |obj vs os hb hk hc hxx hO hd hdd=>exact .obj vs os hb hk hc (fun k x h1=>(hxx k x h1).nr0_any (List.all_eq_true.1 hx x (List.mem_of_getElem? h1))) hO hd hdd
 |_=>exact h.nr0_any hx
theorem parts_nrO{R R':Cells}: ∀(l:List AV)(vs:List Value)(O:Cells),l.all AV.nrO=true→Parts w R noLoc l vs O→Parts w R' noLoc l vs O
 |[],[],O,_,h=>h
 |[],_::_,O,_,h=>h.elim
 |_::_,[],O,_,h=>h.elim
 |x::l,v::vs,O,hn,⟨O1,O2,h1,h2,h3,h4⟩=>by
  simp only[List.all_cons,Bool.and_eq_true]at hn
  exact⟨O1,O2,h1,h2,h3.nrO_any hn.1,parts_nrO l vs O2 hn.2 h4⟩
end
end Go.Abs
