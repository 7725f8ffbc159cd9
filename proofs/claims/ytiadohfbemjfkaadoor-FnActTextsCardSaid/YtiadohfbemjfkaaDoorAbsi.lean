/- The abstract layer: at a loop's head an array is given up, and read in place from there on. -/
import Derived.Test.YtiadohfbemjfkaaDoorAbs5
set_option linter.unusedVariables false
set_option linter.unusedSimpArgs false
noncomputable section
namespace Go.Abs
open Go
section
variable{P:Program}{n:Fx}
theorem LoopG.frz{c:Code}{Q:Ex→St→Prop}{ts:Ts}{ms:Ms}(k:Nat)(h:freezeV k ts ms fun ts ms=>LoopG P c Q (St.ls n ts ms)):LoopG P c Q (St.ls n ts ms):=by
 refine⟨WP.frz k ?_⟩
 unfold freezeV at h⊢
 split at h
 case h_2=>exact h.elim
 split at h
 case h_2=>exact h.elim
 split at h
 case h_2=>exact h.elim
 obtain⟨hl,h⟩:=okK_mk h
 simp only
 unfold okK
 rw[hl]
 exact h.wp
theorem WP.emp{c:Code}{Q:Ex→St→Prop}{ts:Ts}{ms:Ms}(k:Nat)(z:List AV)(hk:getT ts k=.emp)(h:WP P c Q (St.ls n ((k,.ro z [])::ts) ms)):WP P c Q (St.ls n ts ms):=by
 refine WP.weak (fun E a w hr=> ?_) h
 obtain⟨loc,ob,r⟩:=hr
 refine⟨loc,ob,⟨fun j=> ?_,r.sz,r.df,r.ab,r.dd,r.lv,r.db,r.dx,r.lt,r.sub,r.fr,r.an⟩⟩
 show AR w _ loc (getT ((k,.ro z [])::ts) j) _ none2
 unfold getT
 split
 ·rename_i hj
  obtain rfl:=Nat.eq_of_beq_eq_true hj
  have hx:=r.tm j
  have e:(St.ls n ts ms).t j=.emp:=hk
  rw[e]at hx
  cases hx with
  |sc hs he=>
   obtain⟨ad,hv⟩:=hs
   rw[hv]
   exact .ro0 he
 ·exact r.tm j
theorem LoopG.emp{c:Code}{Q:Ex→St→Prop}{ts:Ts}{ms:Ms}(k:Nat)(z:List AV)(hk:getT ts k=.emp)(h:LoopG P c Q (St.ls n ((k,.ro z [])::ts) ms)):LoopG P c Q (St.ls n ts ms):=
 ⟨WP.emp k z hk h.wp⟩
theorem RelC.bear{E:Env}{st:St}{a:Act}{w:World}{loc:Locs}{ob:Nat→Cells}(h:RelC E st a w none2 loc ob){b:Nat}(hb:st.m b=.abs)(z:List AV)(lvl:Nat:=0):
  RelC E (st.mws [(b,.live ⟨true,lvl,z,[]⟩)]) a w none2 (upd loc b (some ⟨0,0,z.length,0,false⟩)) (upd ob b none2):=by
 have hab:=h.ab b hb
 refine h.birth hb (l:=⟨0,0,z.length,0,false⟩) (Ob:=none2) (fun g o=> ?_) (.arr0 ⟨0,0,z.length,0,false⟩ (by simp[upd]) rfl rfl rfl emp_none2) (fun _ _ _ _ _ k=>k.elim) (fun _ _ _ _ _ k=>k.elim) (fun _ _ k _=>k.elim)
 constructor
 ·rintro (⟨b',k⟩|k)
  ·by_cases hbb:b'=b
   ·subst hbb;simp only[upd,if_true]at k;exact k.elim
   ·simp only[upd,hbb,if_false]at k;exact .inl ⟨b',k⟩
  ·exact k.elim
 ·rintro (⟨b',k⟩|k)
  ·by_cases hbb:b'=b
   ·subst hbb;exact(hab.2 g o k).elim
   ·exact .inl ⟨b',by simpa only[upd,hbb,if_false]using k⟩
  ·exact k.elim
theorem WP.bearL(lvl:Nat){c:Code}{Q:Ex→St→Prop}{ts:Ts}{ms:Ms}(k b:Nat)(z:List AV)(hk:getT ts k=.emp)(hb:getM ms b=.abs)(h:WP P c Q (St.ls n ((k,.ref b 0 0)::ts) ((b,.live ⟨true,lvl,z,[]⟩)::ms))):WP P c Q (St.ls n ts ms):=by
 refine WP.weak (fun E a w hr=> ?_) h
 obtain⟨loc,ob,r⟩:=hr
 have r1:=r.bear (b:=b) hb z lvl
 have e1:(St.ls n ts ms).mws [(b,.live ⟨true,lvl,z,[]⟩)]=St.ls n ts ((b,.live ⟨true,lvl,z,[]⟩)::ms):=ls_mw ts ms b _
 rw[e1]at r1
 refine⟨_,_,⟨fun j=> ?_,r1.sz,r1.df,r1.ab,r1.dd,r1.lv,r1.db,r1.dx,r1.lt,r1.sub,r1.fr,r1.an⟩⟩
 show AR w _ _ (getT ((k,.ref b 0 0)::ts) j) _ none2
 unfold getT
 split
 ·rename_i hj
  obtain rfl:=Nat.eq_of_beq_eq_true hj
  have hx:=r.tm j
  have e:(St.ls n ts ms).t j=.emp:=hk
  rw[e]at hx
  cases hx with
  |sc hs he=>
   obtain⟨ad,hv⟩:=hs
   rw[hv]
   exact .ref0 ⟨0,0,z.length,0,false⟩ he (by simp[upd]) (Nat.le_refl 0)
 ·exact r1.tm j
theorem WP.bearT{c:Code}{Q:Ex→St→Prop}{ts:Ts}{ms:Ms}(k b:Nat)(z:List AV)(hk:getT ts k=.emp)(hb:getM ms b=.abs)(h:WP P c Q (St.ls n ((k,.ref b 0 0)::ts) ((b,.live ⟨true,0,z,[]⟩)::ms))):WP P c Q (St.ls n ts ms):=
 WP.bearL 0 k b z hk hb h
theorem LoopG.bearT{c:Code}{Q:Ex→St→Prop}{ts:Ts}{ms:Ms}(k b:Nat)(z:List AV)(hk:getT ts k=.emp)(hb:getM ms b=.abs)(h:LoopG P c Q (St.ls n ((k,.ref b 0 0)::ts) ((b,.live ⟨true,0,z,[]⟩)::ms))):LoopG P c Q (St.ls n ts ms):=
 ⟨WP.bearT k b z hk hb h.wp⟩
theorem LoopG.bearL(lvl:Nat){c:Code}{Q:Ex→St→Prop}{ts:Ts}{ms:Ms}(k b:Nat)(z:List AV)(hk:getT ts k=.emp)(hb:getM ms b=.abs)(h:LoopG P c Q (St.ls n ((k,.ref b 0 0)::ts) ((b,.live ⟨true,lvl,z,[]⟩)::ms))):LoopG P c Q (St.ls n ts ms):=
 ⟨WP.bearL lvl k b z hk hb h.wp⟩
theorem WP.bearM{c:Code}{Q:Ex→St→Prop}{ts:Ts}{ms:Ms}(d j b:Nat)(z:List AV){lvl:Nat}{z0 row:List AV}(hd:getM ms d=.live ⟨false,lvl,z0,[row]⟩)(hj:row[j]? =some .emp)(hb:getM ms b=.abs)
  (h:WP P c Q (St.ls n ts ((d,.live ⟨false,lvl,z0,[row.set j (.ref b 0 0)]⟩)::(b,.live ⟨true,0,z,[]⟩)::ms))):WP P c Q (St.ls n ts ms):=by
 refine WP.weak (fun E a w hr=> ?_) h
 obtain⟨loc,ob,r⟩:=hr
 have r1:=r.bear (b:=b) hb z
 have e1:(St.ls n ts ms).mws [(b,.live ⟨true,0,z,[]⟩)]=St.ls n ts ((b,.live ⟨true,0,z,[]⟩)::ms):=ls_mw ts ms b _
 rw[e1]at r1
 have hne:d≠b:=fun e=>by rw[e,hb]at hd;cases hd
 have hd1:(St.ls n ts ((b,.live ⟨true,0,z,[]⟩)::ms)).m d=.live ⟨false,lvl,z0,[row]⟩:=by
  show getM ((b,.live ⟨true,0,z,[]⟩)::ms) d=_
  unfold getM
  split
  ·rename_i hh;exact absurd (Nat.eq_of_beq_eq_true hh) hne
  ·exact hd
 have hm: ∀x,(St.ls n ts ((d,.live ⟨false,lvl,z0,[row.set j (.ref b 0 0)]⟩)::(b,.live ⟨true,0,z,[]⟩)::ms)).m x=if x=d then .live ⟨false,lvl,z0,[row.set j (.ref b 0 0)]⟩else(St.ls n ts ((b,.live ⟨true,0,z,[]⟩)::ms)).m x:=by
  intro x
  show getM ((d,.live ⟨false,lvl,z0,[row.set j (.ref b 0 0)]⟩)::(b,.live ⟨true,0,z,[]⟩)::ms) x=_
  unfold getM
  split
  ·rename_i hh;rw[if_pos (Nat.eq_of_beq_eq_true hh)]
  ·rename_i hh;rw[if_neg (Nat.ne_of_beq_eq_false hh)];rfl
 have hjl:j<row.length:=(List.getElem?_eq_some_iff.1 hj).1
 have hget: ∀(k:Nat)(x:AV),(row.set j (.ref b 0 0))[k]? =some x→x.isUndef=false→ ∃y,row[k]? =some y∧y.isUndef=false∧(k=j∧x=.ref b 0 0∧y=.emp∨x=y):=by
  intro k x h1 h2
  rw[List.getElem?_set]at h1
  by_cases hkj:j=k
  ·subst hkj
   rw[if_pos rfl,if_pos hjl]at h1
   injection h1 with h1
   exact⟨.emp,hj,rfl,.inl ⟨rfl,h1.symm,rfl⟩⟩
  ·rw[if_neg hkj]at h1
   exact⟨x,h1,h2,.inr rfl⟩
 have hback: ∀(k:Nat)(y:AV),row[k]? =some y→y.isUndef=false→ ∃x,(row.set j (.ref b 0 0))[k]? =some x∧x.isUndef=false:=by
  intro k y h1 h2
  rw[List.getElem?_set]
  by_cases hkj:j=k
  ·subst hkj
   rw[if_pos rfl,if_pos hjl]
   exact⟨_,rfl,rfl⟩
  ·rw[if_neg hkj]
   exact⟨y,h1,h2⟩
 refine⟨_,_,⟨r1.tm,r1.sz,r1.df,fun x hx=> ?_,fun x hx=> ?_,fun x blk hx=> ?_,r1.db,r1.dx,r1.lt,r1.sub,r1.fr,r1.an⟩⟩
 ·rw[hm]at hx
  split at hx
  ·cases hx
  ·exact r1.ab x hx
 ·rw[hm]at hx
  split at hx
  ·cases hx
  ·exact r1.dd x hx
 ·rw[hm]at hx
  split at hx
  ·rename_i hxd
   subst hxd
   injection hx with hx
   subst hx
   have hbr:=r1.lv x _ hd1
   cases hbr with
   | @var _ _ _ _ l vs os hl hbd hs hn hz hbf hc hx2 hO hdo hdd=>
    refine .var l vs os hl hbd hs hn (by simpa using hz) hbf (fun k y h1 h2=> ?_) (fun k y h1 h2=> ?_) (fun g' o'=> ?_) (fun k y k' y' h1 h2 h3 h4=> ?_) (fun k y k' y' h1 h2 h3 h4=> ?_)
    ·obtain⟨y0,q1,q2,_⟩:=hget k y h1 h2
     exact hc k y0 q1 q2
    ·obtain⟨y0,q1,q2,q3⟩:=hget k y h1 h2
     have hh:=hx2 k y0 q1 q2
     rcases q3 with⟨rfl,rfl,rfl⟩|rfl
     ·cases hh with
      |sc hs he=>
       obtain⟨ad,hv⟩:=hs
       rw[hv]
       exact .ref0 ⟨0,0,z.length,0,false⟩ he (by simp[upd]) (Nat.le_refl 0)
     ·exact hh
    ·rw[hO]
     constructor
     ·rintro ⟨k,y0,q1,q2,q3⟩
      obtain⟨y,p1,p2⟩:=hback k y0 q1 q2
      exact⟨k,y,p1,p2,q3⟩
     ·rintro ⟨k,y,p1,p2,q3⟩
      obtain⟨y0,q1,q2,_⟩:=hget k y p1 p2
      exact⟨k,y0,q1,q2,q3⟩
    ·obtain⟨y0,q1,q2,_⟩:=hget k y h1 h2
     obtain⟨y1,q3,q4,_⟩:=hget k' y' h3 h4
     exact hdo k y0 k' y1 q1 q2 q3 q4
    ·obtain⟨y0,q1,q2,_⟩:=hget k y h1 h2
     obtain⟨y1,q3,q4,_⟩:=hget k' y' h3 h4
     exact hdd k y0 k' y1 q1 q2 q3 q4
  ·exact r1.lv x blk hx
theorem LoopG.bearM{c:Code}{Q:Ex→St→Prop}{ts:Ts}{ms:Ms}(d j b:Nat)(z:List AV){lvl:Nat}{z0 row:List AV}(hd:getM ms d=.live ⟨false,lvl,z0,[row]⟩)(hj:row[j]? =some .emp)(hb:getM ms b=.abs)
  (h:LoopG P c Q (St.ls n ts ((d,.live ⟨false,lvl,z0,[row.set j (.ref b 0 0)]⟩)::(b,.live ⟨true,0,z,[]⟩)::ms))):LoopG P c Q (St.ls n ts ms):=
 ⟨WP.bearM d j b z hd hj hb h.wp⟩
end
section
variable{K:Nat→List (List AV)→Nat→Prop}{lvl l:Nat}
end
end Go.Abs
