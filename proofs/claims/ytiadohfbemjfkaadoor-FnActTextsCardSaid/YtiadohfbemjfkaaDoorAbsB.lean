/- The abstract layer, 26: blocks under other names; loops. -/
import Derived.Test.YtiadohfbemjfkaaDoorAbsg
set_option linter.unusedVariables false
set_option linter.unusedSimpArgs false
noncomputable section
namespace Go.Abs
open Go
def nameOf:List (Nat × Nat)→Nat→Nat
 |[],b=>b
 |p::l,b=>if b=p.2 then p.1 else nameOf l b
def AV.ren0(f:Nat→Nat):AV→AV
 | .ref b o n=>.ref (f b) o n
 | .ptr b i j=>.ptr (f b) i j
 |v=>v
def AV.ren1(f:Nat→Nat):AV→AV
 | .fn g caps=>.fn g (caps.map (AV.ren0 f))
 | .ref b o n=>.ref (f b) o n
 | .ptr b i j=>.ptr (f b) i j
 |v=>v
def AV.renB(f:Nat→Nat):AV→AV
 | .agg cs=>.agg (cs.map (AV.ren1 f))
 | .tup cs=>.tup (cs.map (AV.ren1 f))
 |v=>v.ren1 f
def renM(f:Nat→Nat):MB→MB
 | .live b=>if b.arr then .live b else .live {b with rows:=b.rows.map (List.map (AV.ren1 f))}
 |m=>m
def St.keepR(st:St)(ks:List Nat)(bs:List (Nat × Nat)):St:={St.of st.n (ks.map fun k=>(k,(st.t k).renB (nameOf bs))) (bs.map fun p=>(p.1,renM (nameOf bs) (st.m p.2)))with an:=st.an}
def distinctB:List Nat→Bool
 |[]=>true
 |a::l=> !(l.contains a)&&distinctB l
def keepOk(st:St)(ks:List Nat)(bs:List (Nat × Nat)):Bool:=
 distinctB (bs.map (·.1))&&distinctB (bs.map (·.2))&&ks.all (fun k=>(st.t k).inB (bs.map (·.2)))&&(bs.all fun p=>inBlk (bs.map (·.2)) (st.m p.2))&&st.an.all fun b=>bs.contains (b,b)
section
variable{P:Program}{T:TT}{E:Env}{st st':St}{a:Act}{w:World}{X:Cells}{loc:Locs}{ob:Nat→Cells}{R:Cells}
theorem nameOf_mem: ∀(bs:List (Nat × Nat))(p:Nat × Nat),distinctB (bs.map (·.2))=true→p∈bs→nameOf bs p.2=p.1
 |[],p,_,h=>by simp at h
 |q::bs,p,hd,h=>by
  simp only[List.map_cons,distinctB,Bool.and_eq_true,Bool.not_eq_true',List.contains_eq_mem,decide_eq_false_iff_not]at hd
  simp only[nameOf]
  simp only[List.mem_cons]at h
  rcases h with rfl|h
  ·simp
  ·rw[if_neg fun(e:p.2=q.2)=>hd.1 (List.mem_map.2 ⟨p,h,e⟩)]
   exact nameOf_mem bs p hd.2 h
def locR(loc:Locs)(bs:List (Nat × Nat)):Locs:=fun b=>match bs.find? (fun p=>p.1==b)with
 |some p=>loc p.2
 |none=>none
theorem find_mem: ∀(bs:List (Nat × Nat))(p:Nat × Nat),distinctB (bs.map (·.1))=true→p∈bs→bs.find? (fun q=>q.1==p.1)=some p
 |[],p,_,h=>by simp at h
 |q::bs,p,hd,h=>by
  simp only[List.map_cons,distinctB,Bool.and_eq_true,Bool.not_eq_true',List.contains_eq_mem,decide_eq_false_iff_not]at hd
  simp only[List.mem_cons]at h
  rcases h with rfl|h
  ·simp
  ·have hne: ¬q.1=p.1:=fun e=>hd.1 (e▸List.mem_map.2 ⟨p,h,rfl⟩)
   simp only[List.find?_cons]
   have:(q.1==p.1)=false:=by simpa using hne
   rw[this]
   exact find_mem bs p hd.2 h
theorem locR_mem{bs:List (Nat × Nat)}(h1:distinctB (bs.map (·.1))=true){p:Nat × Nat}(hp:p∈bs):locR loc bs p.1=loc p.2:=by
 unfold locR
 rw[find_mem bs p h1 hp]
theorem locR_name{bs:List (Nat × Nat)}(h1:distinctB (bs.map (·.1))=true)(h2:distinctB (bs.map (·.2))=true){b:Nat}(hb:(bs.map (·.2)).contains b=true):locR loc bs (nameOf bs b)=loc b:=by
 have:b∈bs.map (·.2):=by simpa using hb
 obtain⟨p,hp,rfl⟩:=List.mem_map.1 this
 rw[nameOf_mem bs p h2 hp,locR_mem h1 hp]
theorem AR.ren0{bs:List (Nat × Nat)}(h1:distinctB (bs.map (·.1))=true)(h2:distinctB (bs.map (·.2))=true){x:AV}{v:Value}{O:Cells}(h:AR w R loc x v O)(hx:x.isPtr=true)(hb:x.in0 (bs.map (·.2))=true):
  AR w R (locR loc bs) (x.ren0 (nameOf bs)) v O:=by
 cases h with
 |ptr l e hl hbd hi=>exact .ptr l e ((locR_name h1 h2 hb).trans hl) hbd hi
 |rp vs e k1 k2 k3 k4=>exact .rp vs e k1 k2 k3 k4
 |sc h e=>cases x<;>first|exact h.elim|simp[AV.isPtr]at hx
 |_=>simp[AV.isPtr]at hx
theorem AR.ren1{bs:List (Nat × Nat)}(h1:distinctB (bs.map (·.1))=true)(h2:distinctB (bs.map (·.2))=true){x:AV}{v:Value}{O:Cells}(h:AR w R loc x v O)(hb:x.in1 (bs.map (·.2))=true):
  AR w R (locR loc bs) (x.ren1 (nameOf bs)) v O:=by
 cases h with
 |sc h e=>cases x<;>first|exact h.elim|exact .sc h e
 |ro0 e=>exact .ro0 e
 |ro vs e k1 k2 k3 k4 k5 k6 k7 hm=>exact .ro vs e k1 k2 k3 k4 k5 k6 k7 hm
 |own0 e=>exact .own0 e
 |own vs os k1 k2 k3 k4 k5 k6 k7 k8 k9 k10 hm=>exact .own vs os k1 k2 k3 k4 k5 k6 k7 k8 k9 k10 hm
 |ref0 l e hl hn=>exact .ref0 l e ((locR_name h1 h2 hb).trans hl) hn
 |ref l e hl hbd hn hcap hbf hm=>exact .ref l e ((locR_name h1 h2 hb).trans hl) hbd hn hcap hbf hm
 |ptr l e hl hbd hi=>exact .ptr l e ((locR_name h1 h2 hb).trans hl) hbd hi
 |rp vs e k1 k2 k3 k4=>exact .rp vs e k1 k2 k3 k4
 | @fn _ f caps vs _ os hn hxx hu=>
  simp only[AV.in1,List.all_eq_true,Bool.and_eq_true]at hb
  refine .fn os (by simpa using hn) (fun k x v k1 k2=> ?_) (by simpa using hu)
  simp only[List.getElem?_map,Option.map_eq_some_iff]at k1
  obtain⟨y,k1,rfl⟩:=k1
  exact(hxx k y v k1 k2).ren0 h1 h2 (hb y (List.mem_of_getElem? k1)).1 (hb y (List.mem_of_getElem? k1)).2
 |obj _ _ _ _ _ _ _ _ _=>simp[AV.in1]at hb
 |agg _ _ _ _=>simp[AV.in1]at hb
 |tup _ _ _ _=>simp[AV.in1]at hb
theorem AR.renB{bs:List (Nat × Nat)}(h1:distinctB (bs.map (·.1))=true)(h2:distinctB (bs.map (·.2))=true){x:AV}{v:Value}{O:Cells}(h:AR w R loc x v O)(hb:x.inB (bs.map (·.2))=true):
  AR w R (locR loc bs) (x.renB (nameOf bs)) v O:=by
 cases x with
 |agg cs=>
  cases h with
  |sc h e=>exact h.elim
  |agg os hn hxx hu=>
   simp only[AV.inB,List.all_eq_true]at hb
   refine .agg os (by simpa using hn) (fun k x v k1 k2=> ?_) (by simpa using hu)
   simp only[List.getElem?_map,Option.map_eq_some_iff]at k1
   obtain⟨y,k1,rfl⟩:=k1
   exact(hxx k y v k1 k2).ren1 h1 h2 (hb y (List.mem_of_getElem? k1))
 |tup cs=>
  cases h with
  |sc h e=>exact h.elim
  |tup os hn hxx hu=>
   simp only[AV.inB,List.all_eq_true]at hb
   refine .tup os (by simpa using hn) (fun k x v k1 k2=> ?_) (by simpa using hu)
   simp only[List.getElem?_map,Option.map_eq_some_iff]at k1
   obtain⟨y,k1,rfl⟩:=k1
   exact(hxx k y v k1 k2).ren1 h1 h2 (hb y (List.mem_of_getElem? k1))
 |_=>exact h.ren1 h1 h2 hb
theorem ren1_undef(f:Nat→Nat)(x:AV):(x.ren1 f).isUndef=x.isUndef:=by cases x<;>rfl
theorem look_bs(g:Nat→MB): ∀(bs:List (Nat × Nat))(d:MB)(b:Nat),distinctB (bs.map (·.1))=true→
  lookM (bs.map fun p=>(p.1,g p.2)) d b=match bs.find? (fun p=>p.1==b)with|some p=>g p.2|none=>d
 |[],d,b,_=>rfl
 |q::bs,d,b,hd=>by
  simp only[List.map_cons,distinctB,Bool.and_eq_true,Bool.not_eq_true',List.contains_eq_mem,decide_eq_false_iff_not]at hd
  simp only[List.map_cons,lookM,List.find?_cons]
  rw[look_bs g bs _ b hd.2]
  by_cases h:q.1=b
  ·subst h
   have:bs.find? (fun p=>p.1==q.1)=none:=by
    rw[List.find?_eq_none]
    intro p hp
    simp only[beq_iff_eq]
    exact fun e=>hd.1 (e▸List.mem_map.2 ⟨p,hp,rfl⟩)
   simp[this]
  ·have h':(q.1==b)=false:=by simpa using h
   rw[h',if_neg fun e=>h e.symm]
theorem look_ks(g:Nat→AV): ∀(ks:List Nat)(k:Nat),lookT (ks.map fun k=>(k,g k)) k=if ks.contains k=true then g k else .undef
 |[],k=>by simp[lookT]
 |j::ks,k=>by
  simp only[List.map_cons,lookT,look_ks g ks k]
  by_cases h:k=j
  ·subst h;simp
  ·simp[h]
def obR(ob:Nat→Cells)(bs:List (Nat × Nat)):Nat→Cells:=fun b=>match bs.find? (fun p=>p.1==b)with
 |some p=>ob p.2
 |none=>none2
theorem RelC.keepR(h:RelC E st a w X loc ob)(ks:List Nat)(bs:List (Nat × Nat))(hk:keepOk st ks bs=true):Rel E (st.keepR ks bs) a w X:=by
 simp only[keepOk,Bool.and_eq_true]at hk
 obtain⟨⟨⟨⟨d1,d2⟩,hks⟩,hbs⟩,hans⟩:=hk
 have hobe: ∀b,obR ob bs b=match bs.find? (fun p=>p.1==b)with|some p=>ob p.2|none=>none2:=fun _=>rfl
 generalize obR ob bs=ob' at hobe
 have fnd: ∀b p,bs.find? (fun p=>p.1==b)=some p→p∈bs∧p.1=b:=fun b p hf=>⟨List.mem_of_find?_eq_some hf,by simpa using List.find?_some hf⟩
 have hob': ∀b g o,ob' b g o→ ∃p∈bs,p.1=b∧ob p.2 g o:=by
  intro b g o k
  rw[hobe]at k
  cases hf:bs.find? (fun p=>p.1==b)with
  |none=>rw[hf]at k;exact k.elim
  |some p=>
   rw[hf]at k
   obtain⟨m1,m2⟩:=fnd b p hf
   exact⟨p,m1,m2,k⟩
 have hown: ∀g o,Owned ob' X g o→Owned ob X g o:=by
  rintro g o (⟨b,k⟩|k)
  ·obtain⟨p,_,_,k⟩:=hob' b g o k
   exact .inl ⟨p.2,k⟩
  ·exact .inr k
 have hRS: ∀g o,RS E w (Owned ob X) g o→RS E w (Owned ob' X) g o:=fun g o k=>⟨k.1,k.2.1,fun n=>k.2.2 (hown g o n)⟩
 have hm: ∀b,(st.keepR ks bs).m b=match bs.find? (fun p=>p.1==b)with|some p=>renM (nameOf bs) (st.m p.2)|none=>.abs:=
  fun b=>look_bs (fun b=>renM (nameOf bs) (st.m b)) bs .abs b d1
 have inj: ∀p q,p∈bs→q∈bs→p.1≠q.1→p.2≠q.2:=by
  intro p q hp hq hne e
  have:=nameOf_mem bs p d2 hp
  rw[e,nameOf_mem bs q d2 hq]at this
  exact hne this.symm
 have dd: ∀b b',b≠b'→Disj (ob' b) (ob' b'):=by
  intro b b' hne g o k1 k2
  obtain⟨p,hp,e1,k3⟩:=hob' b g o k1
  obtain⟨q,hq,e2,k4⟩:=hob' b' g o k2
  exact h.db p.2 q.2 (inj p q hp hq fun e=>hne (e1.symm.trans (e.trans e2))) g o k3 k4
 refine⟨locR loc bs,ob',fun k=> ?_,h.sz,h.df,fun b hb'=> ?_,fun b hb'=> ?_,fun b blk hb'=> ?_,dd,fun b g o k1 k2=> ?_,fun g o k=>h.lt g o (hown g o k),fun g o k=>h.sub g o (hown g o k),h.fr,fun b hb=> ?_⟩
 ·have:(st.keepR ks bs).t k=if ks.contains k=true then(st.t k).renB (nameOf bs)else .undef:=look_ks (fun k=>(st.t k).renB (nameOf bs)) ks k
  rw[this]
  split
  ·rename_i hc
   exact((h.tm k).renB d1 d2 (List.all_eq_true.1 hks k (by simpa using hc))).weak hRS fun _ _ k=>k
  ·exact .sc trivial emp_none2
 ·rw[hm]at hb'
  cases hf:bs.find? (fun p=>p.1==b)with
  |none=>exact⟨by unfold locR;rw[hf],fun g o k=>by rw[hobe,hf]at k;exact k⟩
  |some p=>
   rw[hf]at hb'
   simp only at hb'
   obtain⟨m1,rfl⟩:=fnd b p hf
   have hab:st.m p.2=.abs:=by
    cases hm2:st.m p.2 with
    |abs=>rfl
    |dead=>rw[hm2]at hb';cases hb'
    |live blk=>rw[hm2]at hb';simp only[renM]at hb';split at hb'<;>cases hb'
   have:=h.ab p.2 hab
   exact⟨by rw[locR_mem d1 m1];exact this.1,fun g o k=>this.2 g o (by rw[hobe,hf]at k;exact k)⟩
 ·rw[hm]at hb'
  cases hf:bs.find? (fun p=>p.1==b)with
  |none=>rw[hf]at hb';cases hb'
  |some p=>
   rw[hf]at hb'
   simp only at hb'
   obtain⟨m1,rfl⟩:=fnd b p hf
   have hab:st.m p.2=.dead:=by
    cases hm2:st.m p.2 with
    |abs=>rw[hm2]at hb';cases hb'
    |dead=>rfl
    |live blk=>rw[hm2]at hb';simp only[renM]at hb';split at hb'<;>cases hb'
   have:=h.dd p.2 hab
   exact⟨by rw[locR_mem d1 m1];exact this.1,fun g o k=>this.2 g o (by rw[hobe,hf]at k;exact k)⟩
 ·rw[hm]at hb'
  cases hf:bs.find? (fun p=>p.1==b)with
  |none=>rw[hf]at hb';cases hb'
  |some p=>
   rw[hf]at hb'
   simp only at hb'
   obtain⟨m1,rfl⟩:=fnd b p hf
   cases hm2:st.m p.2 with
   |abs=>rw[hm2]at hb';cases hb'
   |dead=>rw[hm2]at hb';cases hb'
   |live blk0=>
    rw[hm2]at hb'
    have hat:=h.lv p.2 blk0 hm2
    have hin:=List.all_eq_true.1 hbs p m1
    rw[hm2]at hin
    have hobp:ob' p.1=ob p.2:=by rw[hobe,hf]
    rw[hobp]
    have hlm:=locR_mem (loc:=loc) d1 m1
    generalize ob p.2=O at hat
    cases hat with
    |arr0 l hl hn hs hbd e=>
     simp only[renM,if_true]at hb'
     injection hb' with hb'
     subst hb'
     exact .arr0 l (hlm.trans hl) hn hs hbd e
    |arr l vs os hl hbd hs hn hbf hw hcc hx hO hd hdd h0 h1 hm=>
     simp only[renM,if_true]at hb'
     injection hb' with hb'
     subst hb'
     exact .arr l vs os (hlm.trans hl) hbd hs hn hbf hw hcc (fun i j row x k1 k2=>(hx i j row x k1 k2).weak hRS fun _ _ k=>k) hO hd hdd h0 h1 hm
    | @var _ _ row _ l vs os hl hbd hs hn hz hbf hcc hx hO hd hdd=>
     simp only[renM,Bool.false_eq_true,if_false,List.map_cons,List.map_nil]at hb'
     injection hb' with hb'
     subst hb'
     simp only[inBlk,Bool.false_or,List.all_cons,List.all_nil,Bool.and_true]at hin
     have back: ∀(k:Nat)(x:AV),(row.map (AV.ren1 (nameOf bs)))[k]? =some x→x.isUndef=false→ ∃y:AV,row[k]? =some y∧y.isUndef=false∧x=y.ren1 (nameOf bs):=by
      intro k x k1 k2
      simp only[List.getElem?_map,Option.map_eq_some_iff]at k1
      obtain⟨y,k1,rfl⟩:=k1
      exact⟨y,k1,by rw[←ren1_undef (nameOf bs) y];exact k2,rfl⟩
     refine .var l vs os (hlm.trans hl) hbd hs hn (by simpa using hz) hbf (fun k x k1 k2=> ?_) (fun k x k1 k2=> ?_) (fun g o=> ?_) (fun k x k' x' k1 k2 k3 k4=> ?_) (fun k x k' x' k1 k2 k3 k4=> ?_)
     ·obtain⟨y,k5,k6,rfl⟩:=back k x k1 k2
      exact hcc k y k5 k6
     ·obtain⟨y,k5,k6,rfl⟩:=back k x k1 k2
      exact((hx k y k5 k6).ren1 d1 d2 (List.all_eq_true.1 hin y (List.mem_of_getElem? k5))).weak hRS fun _ _ k=>k
     ·rw[hO]
      constructor
      ·rintro ⟨k,x,k1,k2,k3⟩
       exact⟨k,x.ren1 (nameOf bs),by simp[k1],by rw[ren1_undef];exact k2,k3⟩
      ·rintro ⟨k,x,k1,k2,k3⟩
       obtain⟨y,k5,k6,rfl⟩:=back k x k1 k2
       exact⟨k,y,k5,k6,k3⟩
     ·obtain⟨y,k5,k6,rfl⟩:=back k x k1 k2
      obtain⟨y',k7,k8,rfl⟩:=back k' x' k3 k4
      exact hd k y k' y' k5 k6 k7 k8
     ·obtain⟨y,k5,k6,rfl⟩:=back k x k1 k2
      obtain⟨y',k7,k8,rfl⟩:=back k' x' k3 k4
      exact hdd k y k' y' k5 k6 k7 k8
 ·obtain⟨p,_,_,k3⟩:=hob' b g o k1
  exact h.dx p.2 g o k3 k2
 ·obtain⟨k1,k2⟩:=h.an b hb
  have hmem:(b,b)∈bs:=by simpa using List.all_eq_true.1 hans b hb
  rw[locR_mem d1 (p:=(b,b)) hmem]
  exact⟨k1,k2⟩
theorem WP.keepR{c:Code}{Q:Ex→St→Prop}(ks:List Nat)(bs:List (Nat × Nat))(hk:Rq (keepOk st ks bs) (WP P c Q (st.keepR ks bs))):WP P c Q st:=
 WP.weak (fun E a w ⟨loc,ob,h⟩=>h.keepR ks bs hk.1) hk.2
def roundK(ks:List Nat)(bs:List (Nat × Nat))(n:Nat)(I:Nat→St→Prop)(Q:Ex→St→Prop):Ex→St→Prop
 | .normal,st=>Rq (keepOk st ks bs) (∃m,m<n∧I m (st.keepR ks bs))
 |e,st=>Q e st
theorem WP.rounds{c:Code}{Q:Ex→St→Prop}(ks:List Nat)(bs:List (Nat × Nat))(I:Nat→St→Prop)(n:Nat)(h0:I n st)(hs: ∀n st,I n st→WP P c (roundK ks bs n I Q) st):WP P (.loop c) Q st:=fun E tb a w hr=>
 wp_loop_ghost (fun n a w=> ∃st,I n st∧Rel E st a w none2) n ⟨st,h0,hr⟩ fun n a w ⟨s,h1,h2⟩=>wp_mono (hs n s h1 E tb a w h2) fun e a' w' hl=>by
  cases e with
  |normal=>
   obtain⟨s',⟨hk,m,h3,h4⟩,loc,ob,h5⟩:=hl
   exact⟨m,h3,_,h4,h5.keepR ks bs hk⟩
  |exit id=>exact hl
  |ret=>exact hl
  |_=>exact hl.elim
end
end Go.Abs
