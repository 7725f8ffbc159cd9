/- The abstract layer, 10: writes. -/
import Derived.Test.YtiadohfbemjfkaaDoorAbsV
import Derived.Laws.IdiomCopy
set_option linter.unusedVariables false
set_option linter.unusedSimpArgs false
noncomputable section
namespace Go.Abs
open Go
section
variable{P:Program}{T:TT}{E:Env}{o:Oper}{st:St}{a:Act}{w:World}{X:Cells}{loc:Locs}{ob:Nat→Cells}{r:Res}
theorem Frame.setCells(g:Nat)(O:Cells): ∀(vs:List Value)(o:Nat)(w:World),(∀j,j<vs.length→O g (o+j))→Frame w (w.setCells g o vs) O
 |[],o,w,_=>Frame.refl w O
 |v::r,o,w,h=>by
  refine(Frame.set w g o v O (by simpa using h 0 (by simp))).trans (Frame.setCells g O r (o+1) _ fun j hj=> ?_) (fun _ _ k=>.inl k)
  have:=h (j+1) (by simp;omega)
  rwa [show o+(j+1)=o+1+j by omega]at this
theorem AR.plain_emp{R:Cells}{loc:Locs}{x:AV}{v:Value}{O:Cells}(h:AR w R loc x v O)(hl:x.plain=true):Emp O:=by
 cases h with
 |sc h e=>exact e
 |ro0 e=>exact e
 |ro vs e h1 h2 h3 h4 h5 h6 h7=>exact e
 |_=>simp[AV.plain]at hl
theorem BR.plainArr{R:Cells}{loc:Locs}{b lvl:Nat}{z:List AV}{rows:List (List AV)}{O:Cells}(h:BR w R loc b ⟨true,lvl,z,rows⟩ O)(h1:lvl≤1){l:Loc}(h0:0<rows.length∨l.bound=true)(hl:loc b=some l):
  l.bound=true∧l.s=z.length∧l.n=rows.length∧BF w l.g (l.base+rows.length*z.length)∧Wide z rows∧(∀g' o',O g' o'↔g'=l.g)∧
  ∃vs:Nat→Nat→Value,(∀i j,i<rows.length→j<z.length→w.cell? ⟨l.g,l.base+i*z.length+j,none⟩=some (vs i j))∧
   (∀i j row x,rows[i]? =some row→row[j]? =some x→AR w R noLoc x (vs i j) none2)∧
   (lvl=0→ ∀row∈rows,∀x∈row,x.flat=true)∧(∀row∈rows,∀x∈row,x.plain=true):=by
 cases h with
 |arr0 l' hl' _ _ hbd _=>
  rw[hl]at hl'
  injection hl' with hl'
  subst hl'
  simp[hbd]at h0
 |arr l' vs os hl' hbd hs hn hb hw hc hx hO hd hdd h2 h3=>
  rw[hl]at hl'
  injection hl' with hl'
  subst hl'
  have hp:=h3 h1
  have hemp: ∀i j,i<rows.length→j<z.length→Emp (os i j):=by
   intro i j hi hj
   have hr:rows[i]? =some rows[i]:=by simp[hi]
   have hlen:=hw.len rows[i] (List.getElem_mem hi)
   have hj':j<rows[i].length:=by omega
   have hx':rows[i][j]? =some rows[i][j]:=by simp[hj']
   exact(hx i j _ _ hr hx').plain_emp (hp _ (List.getElem_mem hi) _ (List.getElem_mem hj'))
  refine⟨hbd,hs,hn,hb,hw,fun g' o'=>⟨fun k=> ?_,fun k=>(hO _ _).2 (.inl k)⟩,vs,hc,fun i j row x h4 h5=> ?_,h2,hp⟩
  ·rcases(hO _ _).1 k with k|⟨i,j,hi,hj,k⟩
   ·exact k
   ·exact(hemp i j hi hj _ _ k).elim
  ·have hi:i<rows.length:=(List.getElem?_eq_some_iff.1 h4).1
   have hj:j<z.length:=by
    have:=(List.getElem?_eq_some_iff.1 h5).1
    rw[hw.len row (List.mem_of_getElem? h4)]at this
    exact this
   exact(hx i j row x h4 h5).emp_weak (hemp i j hi hj) emp_none2
theorem RelC.setArr(h:RelC E st a w X loc ob){b lvl:Nat}{z:List AV}{rows:List (List AV)}(hm:st.m b=.live ⟨true,lvl,z,rows⟩)(h1:lvl≤1)(h0:0<rows.length){l:Loc}(hl:loc b=some l)
  {lvl':Nat}{rows':List (List AV)}(hlen:rows'.length=rows.length)(hw:Wide z rows'){w':World}(hF:Frame w w' (fun g _=>g=l.g))
  (hc: ∀i j row x,rows'[i]? =some row→row[j]? =some x→ ∃v,w'.cell? ⟨l.g,l.base+i*z.length+j,none⟩=some v∧AR w (RS E w (Owned ob X)) noLoc x v none2)
  (h2:lvl'=0→ ∀row∈rows',∀x∈row,x.flat=true)(h3: ∀row∈rows',∀x∈row,x.plain=true):
  RelC E (st.mws [(b,.live ⟨true,lvl',z,rows'⟩)]) a w' X loc ob∧ ∀g o,RS E w (Owned ob X) g o→RS E w' (Owned ob X) g o:=by
 obtain⟨hbd,hs,hn,hb,hW,hO,vs,hcc,hx,_,_⟩:=(h.lv b _ hm).plainArr h1 (.inl h0) hl
 have hD: ∀g o,Owned ob X g o→(Owned ob X g o∨w.heap.size≤g)∧g<w'.heap.size:=fun g o k=>⟨.inl k,Nat.lt_of_lt_of_le (h.lt g o k) hF.size⟩
 have hWt: ∀g o,g=l.g→Owned ob X g o:=fun g o k=>.inl ⟨b,(hO g o).2 k⟩
 refine⟨h.go _ rfl rfl hF hD hWt (fun _ _ k=>k) (fun b'=> ?_) h.db h.dx,RS.sub hF.size fun g o k=>(hD g o k).1⟩
 by_cases hbb:b'=b
 ·subst hbb
  right
  simp only[St.mws,upd,if_true,BF1]
  have hsome: ∀i j,i<rows'.length→j<z.length→ ∃row x,rows'[i]? =some row∧row[j]? =some x:=by
   intro i j hi hj
   have hlr:=hw.len rows'[i] (List.getElem_mem hi)
   have hj':j<rows'[i].length:=by omega
   exact⟨rows'[i],rows'[i][j],by simp[hi],by simp[hj']⟩
  refine .arr l (fun i j=>(w'.cell? ⟨l.g,l.base+i*z.length+j,none⟩).getD undef) (fun _ _=>none2) hl hbd hs (by rw[hn,hlen]) (by rw[hlen];exact hF.bf _ _ hb) hw
   (fun i j hi hj=> ?_) (fun i j row x h4 h5=> ?_) (fun g o=> ?_) (fun _ _ _ _ _ k=>k.elim) (fun _ _ _ _ _ _ _ _ _ _ _ k=>k.elim) h2 (fun _=>h3) (by rw[hlen];exact(h.lv b' _ hm).arr_len rfl)
  ·obtain⟨row,x,h4,h5⟩:=hsome i j hi hj
   obtain⟨v,h6,_⟩:=hc i j row x h4 h5
   rw[h6]
   rfl
  ·obtain⟨v,h6,h7⟩:=hc i j row x h4 h5
   rw[h6]
   exact h7.over hF hWt (fun g o k=>.inl k) (fun _ _ k=>k)
  ·rw[hO]
   constructor
   ·intro k;exact .inl k
   ·rintro (k|⟨_,_,_,_,k⟩)
    ·exact k
    ·exact k.elim
 ·left
  refine⟨by simp[St.mws,upd,hbb],rfl,rfl,fun g o k1 k2=> ?_⟩
  exact h.db b b' (Ne.symm hbb) g o ((hO g o).2 k1) k2
theorem RelC.setVar(h:RelC E st a w X loc ob){b lvl:Nat}{z:List AV}{rows:List (List AV)}(hm:st.m b=.live ⟨false,lvl,z,rows⟩){l:Loc}(hl:loc b=some l)
  {j:Nat}{vs:List AV}{cs:List Value}(hlen:cs.length=vs.length)(hj:j+vs.length≤z.length)(hlt: ∀x∈vs,x.light=true)
  (hx: ∀(k:Nat) x v,vs[k]? =some x→cs[k]? =some v→AR w (RS E w (Owned ob X)) loc x v none2)
  (hk: ∀x∈((rowA rows 0 z).drop j).take vs.length,x.isUndef=false):
  ∃ob',RelC E (st.mws [(b,.live ⟨false,lvl,z,setRow rows 0 j z vs⟩)]) a (w.setCells l.g (l.base+j) cs) X loc ob'∧ ∀g o,RS E w (Owned ob X) g o→RS E (w.setCells l.g (l.base+j) cs) (Owned ob' X) g o:=by
 have hat:=h.lv b _ hm
 generalize hob:ob b=O at hat
 generalize hR:RS E w (Owned ob X)=R at hat hx
 cases hat with
 | @var _ _ row _ l' vals os hl' hbd hs hn hz hb hc hxx hO hd hdd=>
 rw[hl]at hl'
 injection hl' with hl'
 subst hl'
 have hrow:rowA [row] 0 z=row:=rfl
 rw[hrow]at hk
 have hkn: ∀k,j≤k→k<j+vs.length→ ∃x,row[k]? =some x∧x.isUndef=false:=by
  intro k h1 h2
  have hkl:k<row.length:=by omega
  refine⟨row[k],by simp[hkl],hk _ ?_⟩
  have:((row.drop j).take vs.length)[k-j]? =some row[k]:=by
   rw[List.getElem?_take,if_pos (by omega),List.getElem?_drop,show j+(k-j)=k by omega]
   simp[hkl]
  exact List.mem_of_getElem? this
 let Wt:Cells:=fun g o=>g=l.g∧l.base+j≤o∧o<l.base+j+vs.length
 have hF:Frame w (w.setCells l.g (l.base+j) cs) Wt:=Frame.setCells _ _ cs _ w fun i hi=>⟨rfl,by omega,by omega⟩
 have hWO: ∀g o,Wt g o→O g o:=by
  rintro g o ⟨rfl,h1,h2⟩
  obtain⟨x,h3,h4⟩:=hkn (o-l.base) (by omega) (by omega)
  exact(hO _ _).2 ⟨o-l.base,x,h3,h4,.inl ⟨rfl,by omega⟩⟩
 have hWt: ∀g o,Wt g o→Owned ob X g o:=fun g o k=>.inl ⟨b,by rw[hob];exact hWO g o k⟩
 let row':=setCells row j vs
 have hrl:row'.length=z.length:=by
  simp only[row',setCells,List.length_append,List.length_take,List.length_drop]
  omega
 have hr1: ∀k,j≤k→k<j+vs.length→row'[k]? =vs[k-j]? :=by
  intro k h1 h2
  exact(setCells_get row j vs (by omega) k).trans (if_pos ⟨h1,h2⟩)
 have hr2: ∀k,¬(j≤k∧k<j+vs.length)→row'[k]? =row[k]? :=by
  intro k h1
  exact(setCells_get row j vs (by omega) k).trans (if_neg h1)
 let os':Nat→Cells:=fun k=>if j≤k∧k<j+vs.length then none2 else os k
 let O':Cells:=fun g' o'=> ∃k x,row'[k]? =some x∧x.isUndef=false∧((g'=l.g∧o'=l.base+k)∨os' k g' o')
 have hOO: ∀g o,O' g o→O g o:=by
  rintro g o ⟨k,x,h1,h2,h3⟩
  by_cases hin:j≤k∧k<j+vs.length
  ·rcases h3 with h3|h3
   ·obtain⟨y,h4,h5⟩:=hkn k hin.1 hin.2
    exact(hO _ _).2 ⟨k,y,h4,h5,.inl h3⟩
   ·simp only[os',if_pos hin]at h3
    exact h3.elim
  ·rw[hr2 k hin]at h1
   simp only[os',if_neg hin]at h3
   exact(hO _ _).2 ⟨k,x,h1,h2,h3⟩
 let ob':Nat→Cells:=upd ob b O'
 have hsub: ∀g o,Owned ob' X g o→Owned ob X g o:=by
  rintro g o (⟨b',k⟩|k)
  ·by_cases hbb:b'=b
   ·subst hbb
    simp only[ob',upd,if_true]at k
    exact .inl ⟨b',by rw[hob];exact hOO _ _ k⟩
   ·simp only[ob',upd,hbb,if_false]at k
    exact .inl ⟨b',k⟩
  ·exact .inr k
 have hD: ∀g o,Owned ob' X g o→(Owned ob X g o∨w.heap.size≤g)∧g<(w.setCells l.g (l.base+j) cs).heap.size:=fun g o k=>⟨.inl (hsub g o k),Nat.lt_of_lt_of_le (h.lt g o (hsub g o k)) hF.size⟩
 have hob': ∀b' g o,ob' b' g o→ob b' g o:=by
  intro b' g o k
  by_cases hbb:b'=b
  ·subst hbb
   simp only[ob',upd,if_true]at k
   rw[hob]
   exact hOO _ _ k
  ·simpa only[ob',upd,hbb,if_false]using k
 subst hR
 refine⟨ob',h.go Wt rfl rfl hF hD hWt (fun _ _ k=>k) (fun b'=> ?_) (fun b1 b2 hne g o k1 k2=>h.db b1 b2 hne g o (hob' _ _ _ k1) (hob' _ _ _ k2)) (fun b1 g o k1 k2=>h.dx b1 g o (hob' _ _ _ k1) k2),RS.sub hF.size fun g o k=>(hD g o k).1⟩
 by_cases hbb:b'=b
 ·subst hbb
  right
  simp only[St.mws,upd,if_true,BF1,ob']
  have hset:setRow [row] 0 j z vs=[row']:=rfl
  rw[hset]
  have hcell: ∀i,i<cs.length→(w.cell? ⟨l.g,l.base+j+i,none⟩).isSome=true:=by
   intro i hi
   obtain⟨v,hv⟩:=hb.cell (o:=l.base+j+i) (by omega)
   simp[hv]
  have hin: ∀k,j≤k→k<j+vs.length→(w.setCells l.g (l.base+j) cs).cell? ⟨l.g,l.base+k,none⟩=some (cs.getD (k-j) undef):=by
   intro k h1 h2
   have:=World.cell?_setCells_in l.g cs (l.base+j) w hcell (k-j) (by omega)
   rw[show l.base+j+(k-j)=l.base+k by omega]at this
   rw[this]
   simp[show k-j<cs.length by omega]
  have hout: ∀k,¬(j≤k∧k<j+vs.length)→(w.setCells l.g (l.base+j) cs).cell? ⟨l.g,l.base+k,none⟩=w.cell? ⟨l.g,l.base+k,none⟩:=by
   intro k h1
   exact World.cell?_setCells_out l.g cs (l.base+j) w _ fun _ _=>by simp only;omega
  have hloc: ∀b' l',loc b'=some l'→loc b'=some l':=fun _ _ k=>k
  refine .var l (fun k=>if j≤k∧k<j+vs.length then cs.getD (k-j) undef else vals k) os' hl hbd hs hn hrl (hF.bf _ _ hb) (fun k x h1 h2=> ?_) (fun k x h1 h2=> ?_) (fun g o=>Iff.rfl) (fun k x k' x' h1 h2 h3 h4 h5=> ?_) (fun k x k' x' h1 h2 h3 h4 hne g o h5 h6=> ?_)
  ·by_cases hi:j≤k∧k<j+vs.length
   ·rw[if_pos hi];exact hin k hi.1 hi.2
   ·rw[if_neg hi,hout k hi]
    rw[hr2 k hi]at h1
    exact hc k x h1 h2
  ·by_cases hi:j≤k∧k<j+vs.length
   ·rw[if_pos hi]
    simp only[os',if_pos hi]
    rw[hr1 k hi.1 hi.2]at h1
    have:cs[k-j]? =some (cs.getD (k-j) undef):=by simp[show k-j<cs.length by omega]
    exact(hx (k-j) x _ h1 this).over hF hWt (fun g o k=>.inl (hsub g o k)) hloc
   ·rw[if_neg hi]
    simp only[os',if_neg hi]
    rw[hr2 k hi]at h1
    refine(hxx k x h1 h2).keep (hF.keeps (S:=fun g o=>g<w.heap.size∧ ¬Wt g o) fun g o k=>k) (fun g o k=>⟨⟨k.2.1,fun hw=>k.2.2 (hWt g o hw)⟩,RS.sub hF.size (fun g o k=>.inl (hsub g o k)) g o k⟩) (fun g o hos=> ?_) hloc
    refine⟨h.lt g o (.inl ⟨b',by rw[hob];exact(hO _ _).2 ⟨k,x,h1,h2,.inr hos⟩⟩),?_⟩
    rintro ⟨rfl,h3,h4⟩
    obtain⟨y,h5,h6⟩:=hkn (o-l.base) (by omega) (by omega)
    have:=hd k x (o-l.base) y h1 h2 h5 h6
    rw[show l.base+(o-l.base)=o by omega]at this
    exact this hos
  ·by_cases hi:j≤k∧k<j+vs.length
   ·simp only[os',if_pos hi]at h5
    exact h5.elim
   ·simp only[os',if_neg hi]at h5
    rw[hr2 k hi]at h1
    by_cases hi':j≤k'∧k'<j+vs.length
    ·obtain⟨y,h6,h7⟩:=hkn k' hi'.1 hi'.2
     exact hd k x k' y h1 h2 h6 h7 h5
    ·rw[hr2 k' hi']at h3
     exact hd k x k' x' h1 h2 h3 h4 h5
  ·by_cases hi:j≤k∧k<j+vs.length
   ·simp only[os',if_pos hi]at h5
    exact h5.elim
   ·by_cases hi':j≤k'∧k'<j+vs.length
    ·simp only[os',if_pos hi']at h6
     exact h6.elim
    ·simp only[os',if_neg hi]at h5
     simp only[os',if_neg hi']at h6
     rw[hr2 k hi]at h1
     rw[hr2 k' hi']at h3
     exact hdd k x k' x' h1 h2 h3 h4 hne g o h5 h6
 ·left
  refine⟨by simp[St.mws,upd,hbb],by simp[ob',upd,hbb],rfl,fun g o k1 k2=> ?_⟩
  exact h.db b b' (Ne.symm hbb) g o (by rw[hob];exact hWO g o k1) k2
theorem rowA_at{rows:List (List AV)}{z:List AV}{i:Nat}(hi:i<rows.length):rowA rows i z=rows[i]:=by simp[rowA,hi]
theorem setRow_get{rows:List (List AV)}{z vs:List AV}{r j i:Nat}{row:List AV}(h:(setRow rows r j z vs)[i]? =some row)(hr:r<rows.length):(i=r∧row=setCells rows[r] j vs)∨(i≠r∧rows[i]? =some row):=by
 unfold setRow at h
 rw[rowA_at hr]at h
 by_cases hi:i=r
 ·subst hi
  rw[List.getElem?_set_self hr]at h
  injection h with h
  exact .inl ⟨rfl,h.symm⟩
 ·rw[List.getElem?_set_ne (Ne.symm hi)]at h
  exact .inr ⟨hi,h⟩
theorem setMany_get{rows:List (List AV)}{r i:Nat}{vs row:List AV}(hr:r+vs.length≤rows.length)(h:(setMany rows r vs)[i]? =some row):
  (r≤i∧i<r+vs.length∧ ∃x,vs[i-r]? =some x∧row=[x])∨(¬(r≤i∧i<r+vs.length)∧rows[i]? =some row):=by
 unfold setMany at h
 rw[List.getElem?_append,List.getElem?_append]at h
 simp only[List.length_append,List.length_take,List.length_map]at h
 rw[Nat.min_eq_left (by omega)]at h
 by_cases h1:i<r
 ·rw[if_pos (by omega),if_pos h1,List.getElem?_take,if_pos h1]at h
  exact .inr ⟨by omega,h⟩
 ·by_cases h2:i<r+vs.length
  ·rw[if_pos h2,if_neg h1,List.getElem?_map]at h
   obtain⟨x,h3,h4⟩:=Option.map_eq_some_iff.1 h
   exact .inl ⟨by omega,h2,x,h3,h4.symm⟩
  ·rw[if_neg h2,List.getElem?_drop]at h
   rw[show r+vs.length+(i-(r+vs.length))=i by omega]at h
   exact .inr ⟨by omega,h⟩
theorem setMany_len{rows:List (List AV)}{r:Nat}{vs:List AV}(hr:r+vs.length≤rows.length):(setMany rows r vs).length=rows.length:=by
 simp[setMany];omega
theorem did_store(hT:T.ok P)(h:RelC E st a w X loc ob){t:TypeId}{x y:Operand}(ho:o.op=.store t x y)(hr:(evStore T t x y).run st=some r):Did P E o st a w X r:=by
 obtain⟨i,hi,hr1⟩:=bind_some hr
 have hti:=hT.at (TI_some hi)
 obtain⟨v,hv,hr2⟩:=bind_some hr1
 have hv:=opnd_some h hv
 obtain⟨av,hav,hr3⟩:=bind_some hr2
 have hav:=opnd_some h hav
 obtain⟨b,rr,j,rfl⟩: ∃b rr j,av=.ptr b rr j:=by cases av<;>first|exact⟨_,_,_,rfl⟩|exact(fail_some hr3).elim
 have hr4:=mem_some hr3
 obtain⟨blk,hm,hr5⟩:=bind_some hr4
 have hm:=live_some hm
 obtain⟨l,hl,hbd,hi0,hev⟩:=hav.inv_ptr
 have hat:=h.lv b blk hm
 obtain⟨hs,hln⟩:=hat.width hl
 by_cases hmany:isMany i.size blk=true
 ·rw[if_pos hmany]at hr5
  obtain⟨hq,hr6⟩:=req_some hr5
  obtain rfl:=ret_some hr6
  simp only[Bool.and_eq_true,beq_iff_eq,decide_eq_true_eq,List.all_eq_true]at hq
  obtain⟨⟨⟨⟨⟨hz1,rfl⟩,hvl⟩,hle⟩,hpl0⟩,hl1⟩:=hq
  have harr:blk.arr=true:=by
   unfold isMany at hmany
   simp only[Bool.and_eq_true]at hmany
   exact hmany.1
  obtain⟨hcl,hone,hxx⟩:=hv.leaves (List.all_eq_true.2 fun x hx=>plain_light (hpl0 x hx))
  obtain⟨arr,lvl,z,rows⟩:=blk
  simp only at harr hz1 hle hl1 hs hln hm
  subst harr
  have hn0:0<v.leaves.length∨v.leaves.length=0:=by omega
  have h0:0<rows.length:=by omega
  obtain⟨_,_,_,hb,hW,hO,vs,hcc,hcx,hfl,hpl⟩:=hat.plainArr hl1 (.inl h0) hl
  have hb':BF w l.g (l.base+rr*l.s+0+i.size):=hb.mono (by rw[hs,hz1];omega)
  have hrun:(execOp a.eval o).run P w=.ok .skip (w.setCells l.g (l.base+rr*l.s+0) (a.eval y).cells.toList):=by
   obtain⟨_,op,_,_,_,_⟩:=o
   subst ho
   have hsz:(a.eval y).cells.size=i.size:=by rw[←hvl];simpa using hcl
   have hst:=run_storeCells_cells (P:=P) l.g (l.base+rr*l.s+0) (a.eval y).cells.toList 0 w (fun k hk=>by
    obtain⟨u,hu⟩:=hb'.cell (o:=l.base+rr*l.s+0+0+k) (by simp at hk;omega)
    rw[hu];rfl) (fun k hk=>hb'.unfrozen (by simp at hk;omega)) hone
   simp only[Nat.add_zero]at hst
   simp only[execOp,hev,Instr.storeAt,Instr.sureAddr,storeVar,Sem.run_bind,Sem.run_pure,Result.andThen_ok,hti.size w,hsz,ne_eq,not_true_eq_false,if_false,hst,Nat.add_zero]
  have hlen:=setMany_len (rows:=rows) (r:=rr) (vs:=v.leaves) (by omega)
  have hF:Frame w (w.setCells l.g (l.base+rr*l.s+0) (a.eval y).cells.toList) (fun g _=>g=l.g):=Frame.setCells _ _ _ _ w fun _ _=>rfl
  have hmem: ∀row∈setMany rows rr v.leaves,row.length=z.length∧ ∀x∈row,(∃row'∈rows,x∈row')∨x∈v.leaves:=by
   intro row hr
   obtain⟨k,hk⟩:=List.mem_iff_getElem?.1 hr
   rcases setMany_get (by omega) hk with⟨_,_,x,h1,rfl⟩|⟨_,h1⟩
   ·refine⟨by simp[hz1],fun y hy=> ?_⟩
    rw[List.mem_singleton.1 hy]
    exact .inr (List.mem_of_getElem? h1)
   ·exact⟨hW.len row (List.mem_of_getElem? h1),fun y hy=>.inl ⟨row,List.mem_of_getElem? h1,hy⟩⟩
  have hplain: ∀row∈setMany rows rr v.leaves,∀x∈row,x.plain=true:=by
   intro row hr x hx
   rcases(hmem row hr).2 x hx with⟨row',h1,h2⟩|h1
   ·exact hpl row' h1 x h2
   ·exact hpl0 x h1
  have hwide:Wide z (setMany rows rr v.leaves):=⟨fun row hr=>(hmem row hr).1,fun row hr x hx=>light_known (plain_light (hplain row hr x hx))⟩
  obtain⟨h2,h3⟩:=h.setArr hm hl1 h0 hl (lvl':=max lvl (lvlOf v.leaves)) (rows':=setMany rows rr v.leaves) hlen hwide hF
   (fun i' j' row x hr' hx'=>by
    have hj':j'<z.length:=by
     have:=(List.getElem?_eq_some_iff.1 hx').1
     rw[hwide.len row (List.mem_of_getElem? hr')]at this
     exact this
    have hj0:j'=0:=by omega
    subst hj0
    rcases setMany_get (by omega) hr' with⟨k1,k2,u,h1,rfl⟩|⟨hne,hr''⟩
    ·simp only[List.getElem?_cons_zero,Option.some.injEq]at hx'
     subst hx'
     have hlt:i'-rr<(a.eval y).cells.toList.length:=by omega
     have:=World.cell?_setCells_in l.g (a.eval y).cells.toList (l.base+rr*l.s+0) w (fun k hk=>by
      obtain⟨u,hu⟩:=hb'.cell (o:=l.base+rr*l.s+0+k) (by omega)
      simp only[Nat.add_zero]at hu⊢
      simp[hu]) (i'-rr) hlt
     refine⟨_,?_,(hxx (i'-rr) u _ h1 (List.getElem?_eq_getElem hlt)).plain_loc (hpl0 u (List.mem_of_getElem? h1))⟩
     rw[show l.base+i'*z.length+0=l.base+rr*l.s+0+(i'-rr) by rw[hs,hz1];omega]
     exact this
    ·have hi':i'<rows.length:=(List.getElem?_eq_some_iff.1 hr'').1
     refine⟨vs i' 0,?_,hcx i' 0 row x hr'' hx'⟩
     rw[World.cell?_setCells_out l.g _ _ w _ (fun _ _=>by
      simp only
      rw[hs,hz1]
      omega)]
     exact hcc i' 0 hi' hj')
   (fun h0' row hr x hx=>by
    have hmx:lvl=0∧lvlOf v.leaves=0:=by omega
    rcases(hmem row hr).2 x hx with⟨row',h1,h2⟩|h1
    ·exact hfl hmx.1 row' h1 x h2
    ·have:=hmx.2
     unfold lvlOf at this
     split at this
     ·rename_i hf;exact List.all_eq_true.1 hf x h1
     ·cases this)
   hplain
  exact⟨_,undef,_,loc,ob,hrun,.inr ⟨rfl,rfl⟩,h2,.sc trivial emp_none2⟩
 rw[if_neg hmany]at hr5
 obtain⟨hq,hr6⟩:=req_some hr5
 simp only[Bool.and_eq_true,beq_iff_eq,decide_eq_true_eq]at hq
 have hlight:v.leaves.all AV.light=true:=by
  split at hr6
  ·have:=(req_some hr6).1
   simp only[Bool.and_eq_true,List.all_eq_true]at this
   exact List.all_eq_true.2 fun x hx=>plain_light (this.1 x hx)
  ·have:=(req_some hr6).1
   simp only[Bool.and_eq_true]at this
   exact this.1
 obtain⟨hcl,hone,hxx⟩:=hv.leaves hlight
 have hrun:BF w l.g (l.base+rr*l.s+j+i.size)→(execOp a.eval o).run P w=.ok .skip (w.setCells l.g (l.base+rr*l.s+j) (a.eval y).cells.toList):=by
  intro hb
  obtain⟨_,op,_,_,_,_⟩:=o
  subst ho
  have hsz:(a.eval y).cells.size=i.size:=by rw[←hq.1];simpa using hcl
  have hst:=run_storeCells_cells (P:=P) l.g (l.base+rr*l.s+j) (a.eval y).cells.toList 0 w (fun k hk=>by
   obtain⟨u,hu⟩:=hb.cell (o:=l.base+rr*l.s+j+0+k) (by simp at hk;omega)
   rw[hu];rfl) (fun k hk=>hb.unfrozen (by simp at hk;omega)) hone
  simp only[execOp,hev,Instr.storeAt,Instr.sureAddr,storeVar,Sem.run_bind,Sem.run_pure,Result.andThen_ok,hti.size w,hsz,ne_eq,not_true_eq_false,if_false,hst,Nat.add_zero]
 obtain⟨arr,lvl,z,rows⟩:=blk
 simp only at hq hr6 hs hln
 cases arr with
 |true=>
  simp only[if_true]at hr6
  obtain⟨hq2,hr7⟩:=req_some hr6
  simp only[Bool.and_eq_true,List.all_eq_true,decide_eq_true_eq]at hq2
  obtain rfl:=ret_some hr7
  have h0:0<rows.length:=by omega
  obtain⟨_,_,_,hb,hW,hO,vs,hcc,hcx,hfl,hpl⟩:=hat.plainArr hq2.2 (.inl h0) hl
  have hrr:rr<rows.length:=by omega
  have hle:(rr+1)*z.length≤rows.length*z.length:=Nat.mul_le_mul_right _ hrr
  rw[Nat.add_mul,Nat.one_mul]at hle
  have hb':BF w l.g (l.base+rr*l.s+j+i.size):=hb.mono (by rw[hs];omega)
  have hrow:=List.getElem_mem hrr
  have hrl:rows[rr].length=z.length:=hW.len _ hrow
  have hmem: ∀row∈setRow rows rr j z v.leaves,∀x∈row,(∃row'∈rows,x∈row')∨x∈v.leaves:=by
   intro row hr x hx
   unfold setRow at hr
   rcases List.mem_or_eq_of_mem_set hr with h1|rfl
   ·exact .inl ⟨row,h1,hx⟩
   ·rw[rowA_at hrr]at hx
    unfold setCells at hx
    rw[List.mem_append,List.mem_append]at hx
    rcases hx with(hx|hx)|hx
    ·exact .inl ⟨_,hrow,List.mem_of_mem_take hx⟩
    ·exact .inr hx
    ·exact .inl ⟨_,hrow,List.mem_of_mem_drop hx⟩
  have hplain: ∀row∈setRow rows rr j z v.leaves,∀x∈row,x.plain=true:=by
   intro row hr x hx
   rcases hmem row hr x hx with⟨row',h1,h2⟩|h1
   ·exact hpl row' h1 x h2
   ·exact hq2.1 x h1
  have hwide:Wide z (setRow rows rr j z v.leaves):=by
   refine⟨fun row hr=> ?_,fun row hr x hx=>light_known (plain_light (hplain row hr x hx))⟩
   unfold setRow at hr
   rcases List.mem_or_eq_of_mem_set hr with h1|rfl
   ·exact hW.len row h1
   ·rw[rowA_at hrr]
    simp only[setCells,List.length_append,List.length_take,List.length_drop]
    omega
  have hF:Frame w (w.setCells l.g (l.base+rr*l.s+j) (a.eval y).cells.toList) (fun g _=>g=l.g):=Frame.setCells _ _ _ _ w fun _ _=>rfl
  obtain⟨h2,h3⟩:=h.setArr hm hq2.2 h0 hl (lvl':=max lvl (lvlOf v.leaves)) (rows':=setRow rows rr j z v.leaves) (by simp[setRow]) hwide hF
   (fun i' j' row x hr' hx'=>by
    have hj':j'<z.length:=by
     have:=(List.getElem?_eq_some_iff.1 hx').1
     rw[hwide.len row (List.mem_of_getElem? hr')]at this
     exact this
    rcases setRow_get hr' hrr with⟨rfl,rfl⟩|⟨hne,hr''⟩
    ·rw[setCells_get _ _ _ (by omega)]at hx'
     by_cases hin:j≤j'∧j'<j+v.leaves.length
     ·rw[if_pos hin]at hx'
      have hlt:j'-j<(a.eval y).cells.toList.length:=by omega
      have:=World.cell?_setCells_in l.g (a.eval y).cells.toList (l.base+i'*l.s+j) w (fun k hk=>by
       obtain⟨u,hu⟩:=hb'.cell (o:=l.base+i'*l.s+j+k) (by omega)
       simp[hu]) (j'-j) hlt
      refine⟨_,?_,(hxx (j'-j) x _ hx' (List.getElem?_eq_getElem hlt)).plain_loc (hq2.1 x (List.mem_of_getElem? hx'))⟩
      rw[←hs]
      rw[show l.base+i'*l.s+j+(j'-j)=l.base+i'*l.s+j' by omega]at this
      exact this
     ·rw[if_neg hin]at hx'
      refine⟨vs i' j',?_,hcx i' j' _ x (by simp[hrr]) hx'⟩
      rw[World.cell?_setCells_out l.g _ _ w _ (fun _ _=>by simp only;rw[hs];omega)]
      exact hcc i' j' hrr hj'
    ·have hi':i'<rows.length:=(List.getElem?_eq_some_iff.1 hr'').1
     refine⟨vs i' j',?_,hcx i' j' row x hr'' hx'⟩
     rw[World.cell?_setCells_out l.g _ _ w _ (fun _ _=>by
      simp only
      rw[hs]
      rcases Nat.lt_or_gt_of_ne hne with hc|hc
      ·have:=idx_lt hc hj'
       omega
      ·have:(rr+1)*z.length≤i'*z.length:=Nat.mul_le_mul_right _ hc
       rw[Nat.add_mul,Nat.one_mul]at this
       omega)]
     exact hcc i' j' hi' hj')
   (fun h0' row hr x hx=>by
    have hmx:lvl=0∧lvlOf v.leaves=0:=by omega
    rcases hmem row hr x hx with⟨row',h1,h2⟩|h1
    ·exact hfl hmx.1 row' h1 x h2
    ·have:=hmx.2
     unfold lvlOf at this
     split at this
     ·rename_i hf;exact List.all_eq_true.1 hf x h1
     ·cases this)
   hplain
  exact⟨_,undef,_,loc,ob,hrun hb',.inr ⟨rfl,rfl⟩,h2,.sc trivial emp_none2⟩
 |false=>
  simp only[Bool.false_eq_true,if_false]at hr6
  obtain⟨hq2,hr7⟩:=req_some hr6
  simp only[Bool.and_eq_true,List.all_eq_true]at hq2
  obtain rfl:=ret_some hr7
  obtain⟨row,rfl,hbv⟩: ∃row,rows=[row]∧BF w l.g (l.base+z.length):=by
   cases hat with
   |var l' vals os hl' hbd hs hn hz hb hc hxx hO hd hdd=>
    rw[hl]at hl'
    injection hl' with hl'
    subst hl'
    exact⟨_,rfl,hb⟩
  have hrr:rr=0:=by simp at hln;omega
  subst hrr
  obtain⟨ob',h2,h3⟩:=h.setVar hm hl (j:=j) (vs:=v.leaves) (cs:=(a.eval y).cells.toList) hcl (by omega) hq2.1 hxx (fun x hx=>by
   rw[hq.1]at hx
   have:=hq2.2 x hx
   simpa using this)
  have hrun':=hrun (hbv.mono (by omega))
  rw[show l.base+0*l.s+j=l.base+j by omega]at hrun'
  exact⟨_,undef,_,loc,ob',hrun',.inr ⟨rfl,rfl⟩,h2,.sc trivial emp_none2⟩
end
end Go.Abs
