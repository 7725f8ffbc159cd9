import Derived.Test.YthfphedhlnoffaaGreatDoorLC
import Derived.Laws.IdiomCopy
import Derived.Laws.Append
import Derived.Laws.AppendOwn
/- The abstract layer, 10: writes. -/
set_option linter.unusedVariables false
set_option linter.unusedSimpArgs false
noncomputable section
namespace Go.Abs
open Go
section
variable{P:Program}{T:TT}{E:Env}{o:Oper}{st:St}{a:Act}{w:World}{X:Cells}{loc:bG}{ob:Nat→Cells}{r:di}
theorem Frame.setCells(g:Nat)(O:Cells): ∀(vs:List Value)(o:Nat)(w:World),(∀j,j<vs.length→O g (o+j))→Frame w (w.setCells g o vs) O
 |[],o,w,_=>Frame.refl w O
 |v::r,o,w,h=>by
  refine(Frame.set w g o v O (by simpa using h 0 (by simp))).trans (Frame.setCells g O r (o+1) _ fun j hj=> ?_) (fun _ _ k=>.inl k)
  have:=h (j+1) (by simp;omega)
  rwa [show o+(j+1)=o+1+j by omega]at this
theorem AR.plain_emp{R:Cells}{loc:bG}{x:AV}{v:Value}{O:Cells}(h:AR w R loc x v O)(hl:x.plain=true):Emp O:=by
 cases h with
 |sc h e=>exact e
 |ro0 e=>exact e
 |ro vs e h1 h2 h3 h4 h5 h6 h7=>exact e
 |_=>simp[AV.plain]at hl
theorem BR.plainArr{R:Cells}{loc:bG}{b lvl:Nat}{z:List AV}{rows:List (List AV)}{O:Cells}(h:BR w R loc b ⟨true,lvl,z,rows⟩ O)(h1:lvl≤1){l:Loc}(h0:0<rows.length∨l.bound=true)(hl:loc b=some l):
  l.bound=true∧l.s=z.length∧l.n=rows.length∧BF w l.g (l.base+rows.length*z.length)∧Wide z rows∧(∀g' o',O g' o'↔g'=l.g)∧
  ∃vs:Nat→Nat→Value,(∀i j,i<rows.length→j<z.length→w.cell? ⟨l.g,l.base+i*z.length+j,none⟩=some (vs i j))∧
   (∀i j row x,rows[i]? =some row→row[j]? =some x→AR w R aC x (vs i j) ae)∧
   (lvl=0→ ∀row∈rows,∀x∈row,x.flat=true)∧(∀row∈rows,∀x∈row,x.plain=true):=by
 cases h with
 |arr0 l' hl' _ _ hbd _=>
  rw[hl]at hl'
  injection hl' with hl'
  subst hl'
  simp[hbd]at h0
 |arr l' vs os hl' hbd hs hn hb hw hc hx hO hd hdd h2 h3=>
  rw[hl]at hl'
  injection hl' with hl'
  subst hl'
  have hp:=h3 h1
  have hemp: ∀i j,i<rows.length→j<z.length→Emp (os i j):=by
   intro i j hi hj
   have hr:rows[i]? =some rows[i]:=by simp[hi]
   have hlen:=hw.len rows[i] (List.getElem_mem hi)
   have hj':j<rows[i].length:=by omega
   have hx':rows[i][j]? =some rows[i][j]:=by simp[hj']
   exact(hx i j _ _ hr hx').plain_emp (hp _ (List.getElem_mem hi) _ (List.getElem_mem hj'))
  refine⟨hbd,hs,hn,hb,hw,fun g' o'=>⟨fun k=> ?_,fun k=>(hO _ _).2 (.inl k)⟩,vs,hc,fun i j row x h4 h5=> ?_,h2,hp⟩
  ·rcases(hO _ _).1 k with k|⟨i,j,hi,hj,k⟩
   ·exact k
   ·exact(hemp i j hi hj _ _ k).elim
  ·have hi:i<rows.length:=(List.getElem?_eq_some_iff.1 h4).1
   have hj:j<z.length:=by
    have:=(List.getElem?_eq_some_iff.1 h5).1
    rw[hw.len row (List.mem_of_getElem? h4)]at this
    exact this
   exact(hx i j row x h4 h5).emp_weak (hemp i j hi hj) ah
theorem RelC.setArr(h:RelC E st a w X loc ob){b lvl:Nat}{z:List AV}{rows:List (List AV)}(hm:st.m b=.live ⟨true,lvl,z,rows⟩)(h1:lvl≤1)(h0:0<rows.length){l:Loc}(hl:loc b=some l)
  {lvl':Nat}{rows':List (List AV)}(hlen:rows'.length=rows.length)(hw:Wide z rows'){w':World}(hF:Frame w w' (fun g _=>g=l.g))
  (hc: ∀i j row x,rows'[i]? =some row→row[j]? =some x→ ∃v,w'.cell? ⟨l.g,l.base+i*z.length+j,none⟩=some v∧AR w (RS E w (al ob X)) aC x v ae)
  (h2:lvl'=0→ ∀row∈rows',∀x∈row,x.flat=true)(h3: ∀row∈rows',∀x∈row,x.plain=true):
  RelC E (st.mws [(b,.live ⟨true,lvl',z,rows'⟩)]) a w' X loc ob∧ ∀g o,RS E w (al ob X) g o→RS E w' (al ob X) g o:=by
 obtain⟨hbd,hs,hn,hb,hW,hO,vs,hcc,hx,_,_⟩:=(h.lv b _ hm).plainArr h1 (.inl h0) hl
 have hD: ∀g o,al ob X g o→(al ob X g o∨w.heap.size≤g)∧g<w'.heap.size:=fun g o k=>⟨.inl k,Nat.lt_of_lt_of_le (h.lt g o k) hF.size⟩
 have hWt: ∀g o,g=l.g→al ob X g o:=fun g o k=>.inl ⟨b,(hO g o).2 k⟩
 refine⟨h.go _ rfl rfl hF hD hWt (fun _ _ k=>k) (fun b'=> ?_) h.db h.dx,RS.sub hF.size fun g o k=>(hD g o k).1⟩
 by_cases hbb:b'=b
 ·subst hbb
  right
  simp only[St.mws,bi,if_true,pf]
  have hsome: ∀i j,i<rows'.length→j<z.length→ ∃row x,rows'[i]? =some row∧row[j]? =some x:=by
   intro i j hi hj
   have hlr:=hw.len rows'[i] (List.getElem_mem hi)
   have hj':j<rows'[i].length:=by omega
   exact⟨rows'[i],rows'[i][j],by simp[hi],by simp[hj']⟩
  refine .arr l (fun i j=>(w'.cell? ⟨l.g,l.base+i*z.length+j,none⟩).getD undef) (fun _ _=>ae) hl hbd hs (by rw[hn,hlen]) (by rw[hlen];exact hF.bf _ _ hb) hw
   (fun i j hi hj=> ?_) (fun i j row x h4 h5=> ?_) (fun g o=> ?_) (fun _ _ _ _ _ k=>k.elim) (fun _ _ _ _ _ _ _ _ _ _ _ k=>k.elim) h2 (fun _=>h3) (by rw[hlen];exact(h.lv b' _ hm).arr_len rfl)
  ·obtain⟨row,x,h4,h5⟩:=hsome i j hi hj
   obtain⟨v,h6,_⟩:=hc i j row x h4 h5
   rw[h6]
   rfl
  ·obtain⟨v,h6,h7⟩:=hc i j row x h4 h5
   rw[h6]
   exact h7.over hF hWt (fun g o k=>.inl k) (fun _ _ k=>k)
  ·rw[hO]
   constructor
   ·intro k;exact .inl k
   ·rintro (k|⟨_,_,_,_,k⟩)
    ·exact k
    ·exact k.elim
 ·left
  refine⟨by simp[St.mws,bi,hbb],rfl,rfl,fun g o k1 k2=> ?_⟩
  exact h.db b b' (Ne.symm hbb) g o ((hO g o).2 k1) k2
theorem RelC.setVar(h:RelC E st a w X loc ob){b lvl:Nat}{z:List AV}{rows:List (List AV)}(hm:st.m b=.live ⟨false,lvl,z,rows⟩){l:Loc}(hl:loc b=some l)
  {j:Nat}{vs:List AV}{cs:List Value}(hlen:cs.length=vs.length)(hj:j+vs.length≤z.length)(hlt: ∀x∈vs,x.light=true)
  (hx: ∀(k:Nat) x v,vs[k]? =some x→cs[k]? =some v→AR w (RS E w (al ob X)) loc x v ae)
  (hk: ∀x∈((dn rows 0 z).drop j).take vs.length,x.isUndef=false):
  ∃ob',RelC E (st.mws [(b,.live ⟨false,lvl,z,bl rows 0 j z vs⟩)]) a (w.setCells l.g (l.base+j) cs) X loc ob'∧ ∀g o,RS E w (al ob X) g o→RS E (w.setCells l.g (l.base+j) cs) (al ob' X) g o:=by
 have hat:=h.lv b _ hm
 generalize hob:ob b=O at hat
 generalize hR:RS E w (al ob X)=R at hat hx
 cases hat with
 | @var _ _ row _ l' vals os hl' hbd hs hn hz hb hc hxx hO hd hdd=>
 rw[hl]at hl'
 injection hl' with hl'
 subst hl'
 have hrow:dn [row] 0 z=row:=rfl
 rw[hrow]at hk
 have hkn: ∀k,j≤k→k<j+vs.length→ ∃x,row[k]? =some x∧x.isUndef=false:=by
  intro k h1 h2
  have hkl:k<row.length:=by omega
  refine⟨row[k],by simp[hkl],hk _ ?_⟩
  have:((row.drop j).take vs.length)[k-j]? =some row[k]:=by
   rw[List.getElem?_take,if_pos (by omega),List.getElem?_drop,show j+(k-j)=k by omega]
   simp[hkl]
  exact List.mem_of_getElem? this
 let Wt:Cells:=fun g o=>g=l.g∧l.base+j≤o∧o<l.base+j+vs.length
 have hF:Frame w (w.setCells l.g (l.base+j) cs) Wt:=Frame.setCells _ _ cs _ w fun i hi=>⟨rfl,by omega,by omega⟩
 have hWO: ∀g o,Wt g o→O g o:=by
  rintro g o ⟨rfl,h1,h2⟩
  obtain⟨x,h3,h4⟩:=hkn (o-l.base) (by omega) (by omega)
  exact(hO _ _).2 ⟨o-l.base,x,h3,h4,.inl ⟨rfl,by omega⟩⟩
 have hWt: ∀g o,Wt g o→al ob X g o:=fun g o k=>.inl ⟨b,by rw[hob];exact hWO g o k⟩
 let row':=setCells row j vs
 have hrl:row'.length=z.length:=by
  simp only[row',setCells,List.length_append,List.length_take,List.length_drop]
  omega
 have hr1: ∀k,j≤k→k<j+vs.length→row'[k]? =vs[k-j]? :=by
  intro k h1 h2
  exact(gD row j vs (by omega) k).trans (if_pos ⟨h1,h2⟩)
 have hr2: ∀k,¬(j≤k∧k<j+vs.length)→row'[k]? =row[k]? :=by
  intro k h1
  exact(gD row j vs (by omega) k).trans (if_neg h1)
 let os':Nat→Cells:=fun k=>if j≤k∧k<j+vs.length then ae else os k
 let O':Cells:=fun g' o'=> ∃k x,row'[k]? =some x∧x.isUndef=false∧((g'=l.g∧o'=l.base+k)∨os' k g' o')
 have hOO: ∀g o,O' g o→O g o:=by
  rintro g o ⟨k,x,h1,h2,h3⟩
  by_cases hin:j≤k∧k<j+vs.length
  ·rcases h3 with h3|h3
   ·obtain⟨y,h4,h5⟩:=hkn k hin.1 hin.2
    exact(hO _ _).2 ⟨k,y,h4,h5,.inl h3⟩
   ·simp only[os',if_pos hin]at h3
    exact h3.elim
  ·rw[hr2 k hin]at h1
   simp only[os',if_neg hin]at h3
   exact(hO _ _).2 ⟨k,x,h1,h2,h3⟩
 let ob':Nat→Cells:=bi ob b O'
 have hsub: ∀g o,al ob' X g o→al ob X g o:=by
  rintro g o (⟨b',k⟩|k)
  ·by_cases hbb:b'=b
   ·subst hbb
    simp only[ob',bi,if_true]at k
    exact .inl ⟨b',by rw[hob];exact hOO _ _ k⟩
   ·simp only[ob',bi,hbb,if_false]at k
    exact .inl ⟨b',k⟩
  ·exact .inr k
 have hD: ∀g o,al ob' X g o→(al ob X g o∨w.heap.size≤g)∧g<(w.setCells l.g (l.base+j) cs).heap.size:=fun g o k=>⟨.inl (hsub g o k),Nat.lt_of_lt_of_le (h.lt g o (hsub g o k)) hF.size⟩
 have hob': ∀b' g o,ob' b' g o→ob b' g o:=by
  intro b' g o k
  by_cases hbb:b'=b
  ·subst hbb
   simp only[ob',bi,if_true]at k
   rw[hob]
   exact hOO _ _ k
  ·simpa only[ob',bi,hbb,if_false]using k
 subst hR
 refine⟨ob',h.go Wt rfl rfl hF hD hWt (fun _ _ k=>k) (fun b'=> ?_) (fun b1 b2 hne g o k1 k2=>h.db b1 b2 hne g o (hob' _ _ _ k1) (hob' _ _ _ k2)) (fun b1 g o k1 k2=>h.dx b1 g o (hob' _ _ _ k1) k2),RS.sub hF.size fun g o k=>(hD g o k).1⟩
 by_cases hbb:b'=b
 ·subst hbb
  right
  simp only[St.mws,bi,if_true,pf,ob']
  have hset:bl [row] 0 j z vs=[row']:=rfl
  rw[hset]
  have hcell: ∀i,i<cs.length→(w.cell? ⟨l.g,l.base+j+i,none⟩).isSome=true:=by
   intro i hi
   obtain⟨v,hv⟩:=hb.cell (o:=l.base+j+i) (by omega)
   simp[hv]
  have hin: ∀k,j≤k→k<j+vs.length→(w.setCells l.g (l.base+j) cs).cell? ⟨l.g,l.base+k,none⟩=some (cs.getD (k-j) undef):=by
   intro k h1 h2
   have:=World.cell?_setCells_in l.g cs (l.base+j) w hcell (k-j) (by omega)
   rw[show l.base+j+(k-j)=l.base+k by omega]at this
   rw[this]
   simp[show k-j<cs.length by omega]
  have hout: ∀k,¬(j≤k∧k<j+vs.length)→(w.setCells l.g (l.base+j) cs).cell? ⟨l.g,l.base+k,none⟩=w.cell? ⟨l.g,l.base+k,none⟩:=by
   intro k h1
   exact World.cell?_setCells_out l.g cs (l.base+j) w _ fun _ _=>by simp only;omega
  have hloc: ∀b' l',loc b'=some l'→loc b'=some l':=fun _ _ k=>k
  refine .var l (fun k=>if j≤k∧k<j+vs.length then cs.getD (k-j) undef else vals k) os' hl hbd hs hn hrl (hF.bf _ _ hb) (fun k x h1 h2=> ?_) (fun k x h1 h2=> ?_) (fun g o=>Iff.rfl) (fun k x k' x' h1 h2 h3 h4 h5=> ?_) (fun k x k' x' h1 h2 h3 h4 hne g o h5 h6=> ?_)
  ·by_cases hi:j≤k∧k<j+vs.length
   ·rw[if_pos hi];exact hin k hi.1 hi.2
   ·rw[if_neg hi,hout k hi]
    rw[hr2 k hi]at h1
    exact hc k x h1 h2
  ·by_cases hi:j≤k∧k<j+vs.length
   ·rw[if_pos hi]
    simp only[os',if_pos hi]
    rw[hr1 k hi.1 hi.2]at h1
    have:cs[k-j]? =some (cs.getD (k-j) undef):=by simp[show k-j<cs.length by omega]
    exact(hx (k-j) x _ h1 this).over hF hWt (fun g o k=>.inl (hsub g o k)) hloc
   ·rw[if_neg hi]
    simp only[os',if_neg hi]
    rw[hr2 k hi]at h1
    refine(hxx k x h1 h2).keep (hF.keeps (S:=fun g o=>g<w.heap.size∧ ¬Wt g o) fun g o k=>k) (fun g o k=>⟨⟨k.2.1,fun hw=>k.2.2 (hWt g o hw)⟩,RS.sub hF.size (fun g o k=>.inl (hsub g o k)) g o k⟩) (fun g o hos=> ?_) hloc
    refine⟨h.lt g o (.inl ⟨b',by rw[hob];exact(hO _ _).2 ⟨k,x,h1,h2,.inr hos⟩⟩),?_⟩
    rintro ⟨rfl,h3,h4⟩
    obtain⟨y,h5,h6⟩:=hkn (o-l.base) (by omega) (by omega)
    have:=hd k x (o-l.base) y h1 h2 h5 h6
    rw[show l.base+(o-l.base)=o by omega]at this
    exact this hos
  ·by_cases hi:j≤k∧k<j+vs.length
   ·simp only[os',if_pos hi]at h5
    exact h5.elim
   ·simp only[os',if_neg hi]at h5
    rw[hr2 k hi]at h1
    by_cases hi':j≤k'∧k'<j+vs.length
    ·obtain⟨y,h6,h7⟩:=hkn k' hi'.1 hi'.2
     exact hd k x k' y h1 h2 h6 h7 h5
    ·rw[hr2 k' hi']at h3
     exact hd k x k' x' h1 h2 h3 h4 h5
  ·by_cases hi:j≤k∧k<j+vs.length
   ·simp only[os',if_pos hi]at h5
    exact h5.elim
   ·by_cases hi':j≤k'∧k'<j+vs.length
    ·simp only[os',if_pos hi']at h6
     exact h6.elim
    ·simp only[os',if_neg hi]at h5
     simp only[os',if_neg hi']at h6
     rw[hr2 k hi]at h1
     rw[hr2 k' hi']at h3
     exact hdd k x k' x' h1 h2 h3 h4 hne g o h5 h6
 ·left
  refine⟨by simp[St.mws,bi,hbb],by simp[ob',bi,hbb],rfl,fun g o k1 k2=> ?_⟩
  exact h.db b b' (Ne.symm hbb) g o (by rw[hob];exact hWO g o k1) k2
theorem um{rows:List (List AV)}{z:List AV}{i:Nat}(hi:i<rows.length):dn rows i z=rows[i]:=by simp[dn,hi]
theorem xo{rows:List (List AV)}{z vs:List AV}{r j i:Nat}{row:List AV}(h:(bl rows r j z vs)[i]? =some row)(hr:r<rows.length):(i=r∧row=setCells rows[r] j vs)∨(i≠r∧rows[i]? =some row):=by
 unfold bl at h
 rw[um hr]at h
 by_cases hi:i=r
 ·subst hi
  rw[List.getElem?_set_self hr]at h
  injection h with h
  exact .inl ⟨rfl,h.symm⟩
 ·rw[List.getElem?_set_ne (Ne.symm hi)]at h
  exact .inr ⟨hi,h⟩
theorem pb{rows:List (List AV)}{r i:Nat}{vs row:List AV}(hr:r+vs.length≤rows.length)(h:(fL rows r vs)[i]? =some row):
  (r≤i∧i<r+vs.length∧ ∃x,vs[i-r]? =some x∧row=[x])∨(¬(r≤i∧i<r+vs.length)∧rows[i]? =some row):=by
 unfold fL at h
 rw[List.getElem?_append,List.getElem?_append]at h
 simp only[List.length_append,List.length_take,List.length_map]at h
 rw[Nat.min_eq_left (by omega)]at h
 by_cases h1:i<r
 ·rw[if_pos (by omega),if_pos h1,List.getElem?_take,if_pos h1]at h
  exact .inr ⟨by omega,h⟩
 ·by_cases h2:i<r+vs.length
  ·rw[if_pos h2,if_neg h1,List.getElem?_map]at h
   obtain⟨x,h3,h4⟩:=Option.map_eq_some_iff.1 h
   exact .inl ⟨by omega,h2,x,h3,h4.symm⟩
  ·rw[if_neg h2,List.getElem?_drop]at h
   rw[show r+vs.length+(i-(r+vs.length))=i by omega]at h
   exact .inr ⟨by omega,h⟩
theorem uu{rows:List (List AV)}{r:Nat}{vs:List AV}(hr:r+vs.length≤rows.length):(fL rows r vs).length=rows.length:=by
 simp[fL];omega
theorem yX(hT:T.ok P)(h:RelC E st a w X loc ob){t:TypeId}{x y:Operand}(ho:o.op=.store t x y)(hr:(lK T t x y).run st=some r):Did P E o st a w X r:=by
 obtain⟨i,hi,hr1⟩:=bind_some hr
 have hti:=hT.at (cL hi)
 obtain⟨v,hv,hr2⟩:=bind_some hr1
 have hv:=bp h hv
 obtain⟨av,hav,hr3⟩:=bind_some hr2
 have hav:=bp h hav
 obtain⟨b,rr,j,rfl⟩: ∃b rr j,av=.ptr b rr j:=by cases av<;>first|exact⟨_,_,_,rfl⟩|exact(ay hr3).elim
 have hr4:=cM hr3
 obtain⟨blk,hm,hr5⟩:=bind_some hr4
 have hm:=lV hm
 obtain⟨l,hl,hbd,hi0,hev⟩:=hav.inv_ptr
 have hat:=h.lv b blk hm
 obtain⟨hs,hln⟩:=hat.width hl
 by_cases hmany:iL i.size blk=true
 ·rw[if_pos hmany]at hr5
  obtain⟨hq,hr6⟩:=bb hr5
  obtain rfl:=au hr6
  simp only[Bool.and_eq_true,beq_iff_eq,decide_eq_true_eq,List.all_eq_true]at hq
  obtain⟨⟨⟨⟨⟨hz1,rfl⟩,hvl⟩,hle⟩,hpl0⟩,hl1⟩:=hq
  have harr:blk.arr=true:=by
   unfold iL at hmany
   simp only[Bool.and_eq_true]at hmany
   exact hmany.1
  obtain⟨hcl,hone,hxx⟩:=hv.leaves (List.all_eq_true.2 fun x hx=>cR (hpl0 x hx))
  obtain⟨arr,lvl,z,rows⟩:=blk
  simp only at harr hz1 hle hl1 hs hln hm
  subst harr
  have hn0:0<v.leaves.length∨v.leaves.length=0:=by omega
  have h0:0<rows.length:=by omega
  obtain⟨_,_,_,hb,hW,hO,vs,hcc,hcx,hfl,hpl⟩:=hat.plainArr hl1 (.inl h0) hl
  have hb':BF w l.g (l.base+rr*l.s+0+i.size):=hb.mono (by rw[hs,hz1];omega)
  have hrun:(execOp a.eval o).run P w=.ok .skip (w.setCells l.g (l.base+rr*l.s+0) (a.eval y).cells.toList):=by
   obtain⟨_,op,_,_,_,_⟩:=o
   subst ho
   have hsz:(a.eval y).cells.size=i.size:=by rw[←hvl];simpa using hcl
   have hst:=run_storeCells_cells (P:=P) l.g (l.base+rr*l.s+0) (a.eval y).cells.toList 0 w (fun k hk=>by
    obtain⟨u,hu⟩:=hb'.cell (o:=l.base+rr*l.s+0+0+k) (by simp at hk;omega)
    rw[hu];rfl) (fun k hk=>hb'.unfrozen (by simp at hk;omega)) hone
   simp only[Nat.add_zero]at hst
   simp only[execOp,hev,Instr.storeAt,Instr.sureAddr,storeVar,Sem.run_bind,Sem.run_pure,Result.andThen_ok,hti.size w,hsz,ne_eq,not_true_eq_false,if_false,hst,Nat.add_zero]
  have hlen:=uu (rows:=rows) (r:=rr) (vs:=v.leaves) (by omega)
  have hF:Frame w (w.setCells l.g (l.base+rr*l.s+0) (a.eval y).cells.toList) (fun g _=>g=l.g):=Frame.setCells _ _ _ _ w fun _ _=>rfl
  have hmem: ∀row∈fL rows rr v.leaves,row.length=z.length∧ ∀x∈row,(∃row'∈rows,x∈row')∨x∈v.leaves:=by
   intro row hr
   obtain⟨k,hk⟩:=List.mem_iff_getElem?.1 hr
   rcases pb (by omega) hk with⟨_,_,x,h1,rfl⟩|⟨_,h1⟩
   ·refine⟨by simp[hz1],fun y hy=> ?_⟩
    rw[List.mem_singleton.1 hy]
    exact .inr (List.mem_of_getElem? h1)
   ·exact⟨hW.len row (List.mem_of_getElem? h1),fun y hy=>.inl ⟨row,List.mem_of_getElem? h1,hy⟩⟩
  have hplain: ∀row∈fL rows rr v.leaves,∀x∈row,x.plain=true:=by
   intro row hr x hx
   rcases(hmem row hr).2 x hx with⟨row',h1,h2⟩|h1
   ·exact hpl row' h1 x h2
   ·exact hpl0 x h1
  have hwide:Wide z (fL rows rr v.leaves):=⟨fun row hr=>(hmem row hr).1,fun row hr x hx=>dN (cR (hplain row hr x hx))⟩
  obtain⟨h2,h3⟩:=h.setArr hm hl1 h0 hl (lvl':=max lvl (gh v.leaves)) (rows':=fL rows rr v.leaves) hlen hwide hF
   (fun i' j' row x hr' hx'=>by
    have hj':j'<z.length:=by
     have:=(List.getElem?_eq_some_iff.1 hx').1
     rw[hwide.len row (List.mem_of_getElem? hr')]at this
     exact this
    have hj0:j'=0:=by omega
    subst hj0
    rcases pb (by omega) hr' with⟨k1,k2,u,h1,rfl⟩|⟨hne,hr''⟩
    ·simp only[List.getElem?_cons_zero,Option.some.injEq]at hx'
     subst hx'
     have hlt:i'-rr<(a.eval y).cells.toList.length:=by omega
     have:=World.cell?_setCells_in l.g (a.eval y).cells.toList (l.base+rr*l.s+0) w (fun k hk=>by
      obtain⟨u,hu⟩:=hb'.cell (o:=l.base+rr*l.s+0+k) (by omega)
      simp only[Nat.add_zero]at hu⊢
      simp[hu]) (i'-rr) hlt
     refine⟨_,?_,(hxx (i'-rr) u _ h1 (List.getElem?_eq_getElem hlt)).plain_loc (hpl0 u (List.mem_of_getElem? h1))⟩
     rw[show l.base+i'*z.length+0=l.base+rr*l.s+0+(i'-rr) by rw[hs,hz1];omega]
     exact this
    ·have hi':i'<rows.length:=(List.getElem?_eq_some_iff.1 hr'').1
     refine⟨vs i' 0,?_,hcx i' 0 row x hr'' hx'⟩
     rw[World.cell?_setCells_out l.g _ _ w _ (fun _ _=>by
      simp only
      rw[hs,hz1]
      omega)]
     exact hcc i' 0 hi' hj')
   (fun h0' row hr x hx=>by
    have hmx:lvl=0∧gh v.leaves=0:=by omega
    rcases(hmem row hr).2 x hx with⟨row',h1,h2⟩|h1
    ·exact hfl hmx.1 row' h1 x h2
    ·have:=hmx.2
     unfold gh at this
     split at this
     ·rename_i hf;exact List.all_eq_true.1 hf x h1
     ·cases this)
   hplain
  exact⟨_,undef,_,loc,ob,hrun,.inr ⟨rfl,rfl⟩,h2,.sc trivial ah⟩
 rw[if_neg hmany]at hr5
 obtain⟨hq,hr6⟩:=bb hr5
 simp only[Bool.and_eq_true,beq_iff_eq,decide_eq_true_eq]at hq
 have hlight:v.leaves.all AV.light=true:=by
  split at hr6
  ·have:=(bb hr6).1
   simp only[Bool.and_eq_true,List.all_eq_true]at this
   exact List.all_eq_true.2 fun x hx=>cR (this.1 x hx)
  ·have:=(bb hr6).1
   simp only[Bool.and_eq_true]at this
   exact this.1
 obtain⟨hcl,hone,hxx⟩:=hv.leaves hlight
 have hrun:BF w l.g (l.base+rr*l.s+j+i.size)→(execOp a.eval o).run P w=.ok .skip (w.setCells l.g (l.base+rr*l.s+j) (a.eval y).cells.toList):=by
  intro hb
  obtain⟨_,op,_,_,_,_⟩:=o
  subst ho
  have hsz:(a.eval y).cells.size=i.size:=by rw[←hq.1];simpa using hcl
  have hst:=run_storeCells_cells (P:=P) l.g (l.base+rr*l.s+j) (a.eval y).cells.toList 0 w (fun k hk=>by
   obtain⟨u,hu⟩:=hb.cell (o:=l.base+rr*l.s+j+0+k) (by simp at hk;omega)
   rw[hu];rfl) (fun k hk=>hb.unfrozen (by simp at hk;omega)) hone
  simp only[execOp,hev,Instr.storeAt,Instr.sureAddr,storeVar,Sem.run_bind,Sem.run_pure,Result.andThen_ok,hti.size w,hsz,ne_eq,not_true_eq_false,if_false,hst,Nat.add_zero]
 obtain⟨arr,lvl,z,rows⟩:=blk
 simp only at hq hr6 hs hln
 cases arr with
 |true=>
  simp only[if_true]at hr6
  obtain⟨hq2,hr7⟩:=bb hr6
  simp only[Bool.and_eq_true,List.all_eq_true,decide_eq_true_eq]at hq2
  obtain rfl:=au hr7
  have h0:0<rows.length:=by omega
  obtain⟨_,_,_,hb,hW,hO,vs,hcc,hcx,hfl,hpl⟩:=hat.plainArr hq2.2 (.inl h0) hl
  have hrr:rr<rows.length:=by omega
  have hle:(rr+1)*z.length≤rows.length*z.length:=Nat.mul_le_mul_right _ hrr
  rw[Nat.add_mul,Nat.one_mul]at hle
  have hb':BF w l.g (l.base+rr*l.s+j+i.size):=hb.mono (by rw[hs];omega)
  have hrow:=List.getElem_mem hrr
  have hrl:rows[rr].length=z.length:=hW.len _ hrow
  have hmem: ∀row∈bl rows rr j z v.leaves,∀x∈row,(∃row'∈rows,x∈row')∨x∈v.leaves:=by
   intro row hr x hx
   unfold bl at hr
   rcases List.mem_or_eq_of_mem_set hr with h1|rfl
   ·exact .inl ⟨row,h1,hx⟩
   ·rw[um hrr]at hx
    unfold setCells at hx
    rw[List.mem_append,List.mem_append]at hx
    rcases hx with(hx|hx)|hx
    ·exact .inl ⟨_,hrow,List.mem_of_mem_take hx⟩
    ·exact .inr hx
    ·exact .inl ⟨_,hrow,List.mem_of_mem_drop hx⟩
  have hplain: ∀row∈bl rows rr j z v.leaves,∀x∈row,x.plain=true:=by
   intro row hr x hx
   rcases hmem row hr x hx with⟨row',h1,h2⟩|h1
   ·exact hpl row' h1 x h2
   ·exact hq2.1 x h1
  have hwide:Wide z (bl rows rr j z v.leaves):=by
   refine⟨fun row hr=> ?_,fun row hr x hx=>dN (cR (hplain row hr x hx))⟩
   unfold bl at hr
   rcases List.mem_or_eq_of_mem_set hr with h1|rfl
   ·exact hW.len row h1
   ·rw[um hrr]
    simp only[setCells,List.length_append,List.length_take,List.length_drop]
    omega
  have hF:Frame w (w.setCells l.g (l.base+rr*l.s+j) (a.eval y).cells.toList) (fun g _=>g=l.g):=Frame.setCells _ _ _ _ w fun _ _=>rfl
  obtain⟨h2,h3⟩:=h.setArr hm hq2.2 h0 hl (lvl':=max lvl (gh v.leaves)) (rows':=bl rows rr j z v.leaves) (by simp[bl]) hwide hF
   (fun i' j' row x hr' hx'=>by
    have hj':j'<z.length:=by
     have:=(List.getElem?_eq_some_iff.1 hx').1
     rw[hwide.len row (List.mem_of_getElem? hr')]at this
     exact this
    rcases xo hr' hrr with⟨rfl,rfl⟩|⟨hne,hr''⟩
    ·rw[gD _ _ _ (by omega)]at hx'
     by_cases hin:j≤j'∧j'<j+v.leaves.length
     ·rw[if_pos hin]at hx'
      have hlt:j'-j<(a.eval y).cells.toList.length:=by omega
      have:=World.cell?_setCells_in l.g (a.eval y).cells.toList (l.base+i'*l.s+j) w (fun k hk=>by
       obtain⟨u,hu⟩:=hb'.cell (o:=l.base+i'*l.s+j+k) (by omega)
       simp[hu]) (j'-j) hlt
      refine⟨_,?_,(hxx (j'-j) x _ hx' (List.getElem?_eq_getElem hlt)).plain_loc (hq2.1 x (List.mem_of_getElem? hx'))⟩
      rw[←hs]
      rw[show l.base+i'*l.s+j+(j'-j)=l.base+i'*l.s+j' by omega]at this
      exact this
     ·rw[if_neg hin]at hx'
      refine⟨vs i' j',?_,hcx i' j' _ x (by simp[hrr]) hx'⟩
      rw[World.cell?_setCells_out l.g _ _ w _ (fun _ _=>by simp only;rw[hs];omega)]
      exact hcc i' j' hrr hj'
    ·have hi':i'<rows.length:=(List.getElem?_eq_some_iff.1 hr'').1
     refine⟨vs i' j',?_,hcx i' j' row x hr'' hx'⟩
     rw[World.cell?_setCells_out l.g _ _ w _ (fun _ _=>by
      simp only
      rw[hs]
      rcases Nat.lt_or_gt_of_ne hne with hc|hc
      ·have:=ik hc hj'
       omega
      ·have:(rr+1)*z.length≤i'*z.length:=Nat.mul_le_mul_right _ hc
       rw[Nat.add_mul,Nat.one_mul]at this
       omega)]
     exact hcc i' j' hi' hj')
   (fun h0' row hr x hx=>by
    have hmx:lvl=0∧gh v.leaves=0:=by omega
    rcases hmem row hr x hx with⟨row',h1,h2⟩|h1
    ·exact hfl hmx.1 row' h1 x h2
    ·have:=hmx.2
     unfold gh at this
     split at this
     ·rename_i hf;exact List.all_eq_true.1 hf x h1
     ·cases this)
   hplain
  exact⟨_,undef,_,loc,ob,hrun hb',.inr ⟨rfl,rfl⟩,h2,.sc trivial ah⟩
 |false=>
  simp only[Bool.false_eq_true,if_false]at hr6
  obtain⟨hq2,hr7⟩:=bb hr6
  simp only[Bool.and_eq_true,List.all_eq_true]at hq2
  obtain rfl:=au hr7
  obtain⟨row,rfl,hbv⟩: ∃row,rows=[row]∧BF w l.g (l.base+z.length):=by
   cases hat with
   |var l' vals os hl' hbd hs hn hz hb hc hxx hO hd hdd=>
    rw[hl]at hl'
    injection hl' with hl'
    subst hl'
    exact⟨_,rfl,hb⟩
  have hrr:rr=0:=by simp at hln;omega
  subst hrr
  obtain⟨ob',h2,h3⟩:=h.setVar hm hl (j:=j) (vs:=v.leaves) (cs:=(a.eval y).cells.toList) hcl (by omega) hq2.1 hxx (fun x hx=>by
   rw[hq.1]at hx
   have:=hq2.2 x hx
   simpa using this)
  have hrun':=hrun (hbv.mono (by omega))
  rw[show l.base+0*l.s+j=l.base+j by omega]at hrun'
  exact⟨_,undef,_,loc,ob',hrun',.inr ⟨rfl,rfl⟩,h2,.sc trivial ah⟩
end
end Go.Abs

/- The abstract layer, 11: what is read to be copied. -/
noncomputable section
namespace Go.Abs
open Go
section
variable{P:Program}{T:TT}{E:Env}{o:Oper}{st:St}{a:Act}{w:World}{X:Cells}{loc:bG}{ob:Nat→Cells}{r:di}
structure Rows(P:Program)(w:World)(R:Cells)(s:Nat)(v:Value)(lvl:Nat)(rows:List (List AV))(news:List Value):Prop where
 len:Builtin.lenOf v=Sem.pure rows.length
 nlen:news.length=rows.length*s
 read: ∀n w',n≤rows.length→w'.heap=w.heap→(Builtin.firstCells s n v).run P w'=.ok (news.take (n*s)).toArray w'
 one: ∀u∈news,u.oneCell'=true
 wid: ∀row∈rows,row.length=s
 at_: ∀i j row x,rows[i]? =some row→row[j]? =some x→AR w R aC x (news.getD (i*s+j) undef) ae
 lvl1:lvl≤1
 flat:lvl=0→ ∀row∈rows,∀x∈row,x.flat=true
 plain: ∀row∈rows,∀x∈row,x.plain=true
 max:rows.length≤cj
theorem DP{i j s:Nat}(hj:j<s):(i*s+j)/s=i:=by
 rw[Nat.mul_comm,Nat.mul_add_div (by omega),Nat.div_eq_of_lt hj,Nat.add_zero]
theorem mC{R:Cells}{g o s lvl cap:Nat}{rows:List (List AV)}(vs:Nat→Nat→Value)(hs:0<s∨rows=[])(hc: ∀i j,i<rows.length→j<s→w.cell? ⟨g,o+i*s+j,none⟩=some (vs i j))
  (hw: ∀row∈rows,row.length=s)(hx: ∀i j row x,rows[i]? =some row→row[j]? =some x→AR w R aC x (vs i j) ae)
  (l1:lvl≤1)(fl:lvl=0→ ∀row∈rows,∀x∈row,x.flat=true)(pl: ∀row∈rows,∀x∈row,x.plain=true)(mx:rows.length≤cj):
  ∃news,Rows P w R s (.slice (some ⟨g,o,none⟩) rows.length cap) lvl rows news:=by
 have hget: ∀k,k<rows.length*s→((List.range (rows.length*s)).map fun k=>vs (k/s) (k%s))[k]? =some (vs (k/s) (k%s)):=fun k hk=>by simp[hk]
 have hij: ∀k,k<rows.length*s→k/s<rows.length∧k%s<s:=by
  intro k hk
  have hs0:0<s:=by
   rcases hs with h|h
   ·exact h
   ·subst h;simp at hk
  exact⟨Nat.div_lt_of_lt_mul (by rw[Nat.mul_comm];exact hk),Nat.mod_lt _ hs0⟩
 refine⟨(List.range (rows.length*s)).map fun k=>vs (k/s) (k%s),rfl,by simp,fun n w' hn hh=> ?_,fun u hu=> ?_,hw,fun i j row x h1 h2=> ?_,l1,fl,pl,mx⟩
 ·have hle:n*s≤rows.length*s:=Nat.mul_le_mul_right _ hn
  refine run_firstCells_some w' s n ⟨g,o,none⟩ rows.length cap _ (by rw[List.length_take,List.length_map,List.length_range];omega) fun j v hj=> ?_
  rw[List.getElem?_take]at hj
  split at hj
  ·rename_i hjn
   rw[hget j (by omega)]at hj
   injection hj with hj
   subst hj
   obtain⟨h1,h2⟩:=hij j (by omega)
   have:=hc _ _ h1 h2
   rw[ee]
   simp only[World.cell?,hh]at this⊢
   have e:o+j/s*s+j%s=o+j:=by
    have:=Nat.div_add_mod j s
    rw[Nat.mul_comm]at this
    omega
   rwa [e]at this
  ·cases hj
 ·simp only[List.mem_map,List.mem_range]at hu
  obtain⟨k,hk,rfl⟩:=hu
  obtain⟨h1,h2⟩:=hij k hk
  have hr:rows[k/s]? =some rows[k/s]:=by simp[h1]
  have hlen:=hw rows[k/s] (List.getElem_mem h1)
  have hj':k%s<rows[k/s].length:=by omega
  exact((hx _ _ _ _ hr (List.getElem?_eq_getElem hj')).leaf_one (cR (pl _ (List.getElem_mem h1) _ (List.getElem_mem hj')))).2
 ·have hi:i<rows.length:=(List.getElem?_eq_some_iff.1 h1).1
  have hj:j<s:=by
   have:=(List.getElem?_eq_some_iff.1 h2).1
   rw[hw row (List.mem_of_getElem? h1)]at this
   exact this
  have hlt:=ik hi hj
  have:((List.range (rows.length*s)).map fun k=>vs (k/s) (k%s)).getD (i*s+j) undef=vs i j:=by
   rw[List.getD_eq_getElem?_getD,hget _ hlt,DP hj,yx hj]
   rfl
  rw[this]
  exact hx i j row x h1 h2
theorem qo{R:Cells}{s cap:Nat}{ad:Option Addr}:Rows P w R s (.slice ad 0 cap) 0 [] []:=by
 refine⟨rfl,by simp,fun n w' hn hh=> ?_,fun u hu=>by simp at hu,fun _ h=>by simp at h,fun i j row x h1=>by simp at h1,by omega,fun _ _ h=>by simp at h,fun _ h=>by simp at h,Nat.zero_le _⟩
 have:n=0:=by simpa using hn
 subst this
 cases ad with
 |none=>rw[List.take_nil];exact run_firstCells_none w' s 0 0 cap
 |some ad=>rw[List.take_nil];exact run_firstCells_some w' s 0 ad 0 cap [] (by simp) (fun j v h=>by simp at h)
theorem Rows.up{R:Cells}{s:Nat}{v:Value}{rows:List (List AV)}{news:List Value}{lvl:Nat}(h:Rows P w R s v lvl rows news):Rows P w R s v 1 rows news:=
 ⟨h.len,h.nlen,h.read,h.one,h.wid,h.at_,Nat.le_refl _,fun h=>by omega,h.plain,h.max⟩
theorem lg(h:RelC E st a w X loc ob){z:List AV}{x:AV}{v:Value}(hx:AR w (RS E w (al ob X)) loc x v ae){rs:Nat × List (List AV)}(hr:(oB z x).run st=some rs)(hz:0<z.length):
  ∃news,Rows P w (RS E w (al ob X)) z.length v rs.1 rs.2 news:=by
 cases x with
 |emp=>
  obtain rfl:=au (st:=st) hr
  obtain⟨ad,rfl⟩:=hx.inv_emp
  exact⟨[],qo⟩
 |ro z' rows=>
  obtain⟨hq,hr⟩:=bb hr
  have hzz:z'.length=z.length:=by simpa using hq
  obtain rfl:=au hr
  obtain⟨ad,cap,rfl,hcap,hcase⟩:=hx.inv_ro
  rcases hcase with rfl|⟨g,off,vs,hpos,rfl,hg,hW,hc,hxx,hpp⟩
  ·exact⟨[],qo.up⟩
  ·rw[←hzz]
   exact mC vs (.inl (by omega)) (fun i j hi hj=>(hc i j hi hj).1) hW.len hxx (Nat.le_refl _) (fun h=>by omega) hpp hx.ro_len
 |ref b off len=>
  have hr:=cM hr
  obtain⟨blk,hm,hr⟩:=bind_some hr
  obtain⟨hm,harr⟩:=dC hm
  obtain⟨hq,hr⟩:=bb hr
  simp only[Bool.and_eq_true,beq_iff_eq,decide_eq_true_eq]at hq
  obtain rfl:=au hr
  obtain⟨l,hl,hn,ad,cap,rfl,hcap,hcase⟩:=hx.inv_ref
  obtain⟨arr,lvl,z',rows⟩:=blk
  simp only at harr hq
  subst harr
  have hat:=h.lv b _ hm
  obtain⟨hs,hln⟩:=hat.width hl
  simp only at hs hln
  have hsl:(am rows off len).length=len:=by simp[am];omega
  by_cases h0:len=0
  ·have:am rows off len=[]:=List.eq_nil_of_length_eq_zero (by rw[hsl,h0])
   simp only[this]
   subst h0
   have hnil:Rows P w (RS E w (al ob X)) z.length (.slice ad 0 cap) 0 [] []:=qo
   have hl01:lvl=0∨lvl=1:=by omega
   rcases hl01 with rfl|rfl
   ·exact⟨[],hnil⟩
   ·exact⟨[],hnil.up⟩
  ·rcases hcase with⟨h1,_⟩|⟨hbd,rfl,hbf⟩
   ·exact absurd h1 h0
   ·obtain⟨_,_,_,hb,hW,hO,vs,hcc,hcx,hfl,hpl⟩:=hat.plainArr hq.2 (.inl (by omega)) hl
    have hget: ∀i,i<len→(am rows off len)[i]? =rows[off+i]? :=fun i hi=>by simp[am,hi]
    have hmem: ∀row∈am rows off len,row∈rows:=fun row hr=>List.mem_of_mem_drop (List.mem_of_mem_take hr)
    have:=mC (P:=P) (w:=w) (R:=RS E w (al ob X)) (g:=l.g) (o:=l.base+off*l.s) (s:=z.length) (lvl:=lvl) (cap:=cap) (rows:=am rows off len) (fun i j=>vs (off+i) j) (.inl hz)
     (fun i j hi hj=>by
      have:=hcc (off+i) j (by omega) (by omega)
      rw[Nat.add_mul,←Nat.add_assoc]at this
      rw[hs]
      rw[←hq.1]
      exact this)
     (fun row hr=>(hW.len row (hmem row hr)).trans hq.1)
     (fun i j row x h1 h2=>hcx (off+i) j row x (by rw[←hget i (by have:=(List.getElem?_eq_some_iff.1 h1).1;omega)];exact h1) h2)
     hq.2 (fun h0 row hr=>hfl h0 row (hmem row hr)) (fun row hr=>hpl row (hmem row hr)) (by rw[hsl];exact hx.ref_len)
    rw[hsl]at this
    exact this
 |str s=>
  obtain⟨hq,hr⟩:=bb hr
  have hz1:z.length=1:=by simpa using hq
  obtain rfl:=au hr
  have hsm:=hx.str_len
  have:=hx.inv_str
  subst this
  rw[hz1]
  refine⟨s.map fun b=>Value.int .u8 b.toNat,?_,by simp[dq],fun n w' hn hh=> ?_,fun u hu=> ?_,fun row hr=> ?_,fun i j row x h1 h2=> ?_,by omega,fun _ row hr x hx=> ?_,fun row hr x hx=> ?_,by simpa[dq]using hsm⟩
  ·simp[Builtin.lenOf,dq,ByteArray.size];rfl
  ·simp only[Builtin.firstCells]
   simp only[Nat.mul_one]
   have:((ByteArray.mk s.toArray).extract 0 n).data.map (fun b:UInt8=>Value.int IntKind.u8 (b.toNat:Int))=((s.map fun b=>Value.int .u8 b.toNat).take n).toArray:=by
    apply Array.ext'
    simp[ByteArray.data_extract,List.map_take,List.extract]
   rw[this]
   rfl
  ·simp only[List.mem_map]at hu
   obtain⟨b,_,rfl⟩:=hu
   rfl
  ·simp only[dq,List.mem_map]at hr
   obtain⟨b,_,rfl⟩:=hr
   rfl
  ·simp only[dq,List.getElem?_map,Option.map_eq_some_iff]at h1
   obtain⟨b,hb,rfl⟩:=h1
   have hj:j=0:=by
    have:=(List.getElem?_eq_some_iff.1 h2).1
    simpa using this
   subst hj
   simp only[List.getElem?_cons_zero,Option.some.injEq]at h2
   subst h2
   refine .sc ?_ ah
   exact⟨by simp[hb],yw b⟩
  ·simp only[dq,List.mem_map]at hr
   obtain⟨b,_,rfl⟩:=hr
   simp at hx
   subst hx
   rfl
  ·simp only[dq,List.mem_map]at hr
   obtain⟨b,_,rfl⟩:=hr
   simp at hx
   subst hx
   rfl
 |_=>exact(ay hr).elim
theorem wT(hT:T.ok P){t:TypeId}{u:Unit}(hr:(Ar T t).run st=some u): ∃d,P.underlying t=some d∧((∃e,d=.slice e)∨d=.string):=by
 obtain⟨i,hi,hr⟩:=bind_some hr
 have hti:=hT.at (cL hi)
 obtain⟨d,hd,hut⟩:=hti.und
 refine⟨d,hd,?_⟩
 split at hr
 ·rename_i e hu
  rw[hut]at hu
  exact .inl ⟨e,fC hu⟩
 ·rename_i hu
  rw[hut]at hu
  exact .inr (jD hu)
 ·exact(ay hr).elim
end
end Go.Abs

/- The abstract layer, 12: copy and append. -/
noncomputable section
namespace Go.Abs
open Go
section
variable{P:Program}{T:TT}{E:Env}{o:Oper}{st:St}{a:Act}{w:World}{X:Cells}{loc:bG}{ob:Nat→Cells}{r:di}
theorem RelC.setArr0(h:RelC E st a w X loc ob){b lvl:Nat}{z:List AV}(hm:st.m b=.live ⟨true,lvl,z,[]⟩)(lvl':Nat):RelC E (st.mws [(b,.live ⟨true,lvl',z,[]⟩)]) a w X loc ob:=by
 refine h.go ae rfl rfl (Frame.refl w _) (fun g o k=>⟨.inl k,h.lt g o k⟩) (fun _ _ k=>k.elim) (fun _ _ k=>k) (fun b'=> ?_) h.db h.dx
 by_cases hbb:b'=b
 ·subst hbb
  right
  simp only[St.mws,bi,if_true,pf]
  have hat:=h.lv b' _ hm
  generalize ob b'=O at hat
  cases hat with
  |arr0 l hl hn hs hbd e=>exact .arr0 l hl hn hs hbd e
  |arr l vs os hl hbd hs hn hb hw hc hx hO hd hdd h0 h1 hm=>exact .arr l vs os hl hbd hs hn hb hw hc hx hO hd hdd (fun _ _ k=>by simp at k) (fun _ _ k=>by simp at k) hm
 ·left
  exact⟨by simp[St.mws,bi,hbb],rfl,rfl,fun _ _ k=>k.elim⟩
theorem vJ(rows new:List (List AV))(off n i:Nat)(h:off+n≤rows.length):
  (rows.take off++new.take n++rows.drop (off+min new.length n))[i]? =if off≤i∧i<off+min new.length n then new[i-off]? else rows[i]? :=by
 by_cases h1:i<off
 ·rw[if_neg (by omega),List.append_assoc,List.getElem?_append_left (by rw[List.length_take];omega),List.getElem?_take,if_pos h1]
 ·by_cases h2:i<off+min new.length n
  ·rw[if_pos (by omega),List.getElem?_append_left (by rw[List.length_append,List.length_take,List.length_take];omega),List.getElem?_append_right (by rw[List.length_take];omega)]
   rw[List.length_take,List.getElem?_take,show min off rows.length=off by omega,if_pos (by omega)]
  ·rw[if_neg (by omega),List.getElem?_append_right (by rw[List.length_append,List.length_take,List.length_take];omega),List.getElem?_drop]
   congr 1
   rw[List.length_append,List.length_take,List.length_take]
   omega
theorem B5(hT:T.ok P)(h:RelC E st a w X loc ob){c:Call}(ho:o.op=.call c)(hc:c.callee=.builtin .copy)(hr:(fG T .copy c o).run st=some r):Did P E o st a w X r:=by
 simp only[fG]at hr
 split at hr
 case h_2=>exact(ay hr).elim
 rename_i s x hargs
 obtain⟨t,hat,hr1⟩:=ji hr
 obtain⟨u,hau,hr2⟩:=ji hr1
 obtain⟨e,he,hr3⟩:=bind_some hr2
 obtain⟨el,hdt,hel,_⟩:=iB hT he
 obtain⟨_,hsrc,hr4⟩:=bind_some hr3
 obtain⟨xv,hxv,hr5⟩:=bind_some hr4
 have hxv:=bp h hxv
 obtain⟨rs,hrs,hr6⟩:=bind_some hr5
 obtain⟨sv,hsv,hr7⟩:=bind_some hr6
 have hsv:=bp h hsv
 obtain⟨hq0,hr8⟩:=bb hr7
 have hs0:0<e.size:=of_decide_eq_true hq0
 have hzlen:=hel.zlen
 obtain⟨news,hR⟩:=lg (P:=P) h hxv hrs (by omega)
 rw[hzlen]at hR
 have hca:c.args=#[s,x]:=by have:=congrArg List.toArray hargs;simpa using this
 have hm':c.args.map a.eval=#[a.eval s,a.eval x]:=by simp[hca]
 have hrun: ∀(ad:Option Addr)(len cap:Nat)(w':World),a.eval s=.slice ad len cap→
   (match ad with|some ad=>storeCells ad ((news.take (min rs.2.length len*e.size)))|none=>Sem.pure ()).run P w=.ok () w'→
   (execOp a.eval o).run P w=.ok (.value (.int .i64 (min rs.2.length len:Nat))) w':=by
  intro ad len cap w' hav hst
  obtain⟨_,op,ty,_,_,_⟩:=o
  subst ho
  simp only[execOp]
  rw[kJ hc]
  simp only[builtin]
  refine eF ?_
  rw[hm']
  have hrd:=hR.read (min rs.2.length len) w (by omega) rfl
  have hpure:(Sem.pure rs.2.length:Sem Nat).run P w=.ok rs.2.length w:=rfl
  cases ad with
  |none=>
   simp only[Sem.run_pure]at hst
   injection hst with _ hst
   subst hst
   simp only[Builtin.copy_,List.getElem?_toArray,List.getElem?_cons_zero,List.getElem?_cons_succ,hat,hav,Sem.run_bind,run_underlying hdt,Result.andThen_ok,hR.len,Nat.min_def,hel.size w,Sem.run_pure]at hrd⊢
   simp only[hpure,hel.size w,hrd,Result.andThen_ok,goInt]
  |some ad=>
   simp only at hst
   simp only[Builtin.copy_,List.getElem?_toArray,List.getElem?_cons_zero,List.getElem?_cons_succ,hat,hav,Sem.run_bind,run_underlying hdt,Result.andThen_ok,hR.len,Nat.min_def,hel.size w,Sem.run_pure]at hrd hst⊢
   simp only[hpure,hel.size w,hrd,Result.andThen_ok,goInt,hst]
 cases sv with
 |emp=>
  obtain rfl:=bA hr8
  obtain⟨ad,hav⟩:=hsv.inv_emp
  refine Did.pure h (v:=.int .i64 0) ?_ (.sc ⟨rfl,rfl⟩ ah)
  have:=hrun ad 0 0 w hav (by cases ad<;>simp[storeCells]<;>rfl)
  simpa using this
 |ref b off n=>
  have hr9:=cM hr8
  obtain⟨blk,hm,hr10⟩:=bind_some hr9
  obtain⟨hm,harr⟩:=dC hm
  obtain⟨hq,hr11⟩:=bb hr10
  simp only[Bool.and_eq_true,beq_iff_eq,decide_eq_true_eq]at hq
  obtain rfl:=au hr11
  obtain⟨l,hl,hn,ad,cap,hav,hcap,hcase⟩:=hsv.inv_ref
  obtain⟨arr,lvl,z,rows⟩:=blk
  simp only at harr hq
  subst harr
  have hat':=h.lv b _ hm
  obtain⟨hs,hln⟩:=hat'.width hl
  simp only at hs hln
  by_cases hmin:min rs.2.length n=0
  ·have hst:(match ad with|some ad=>storeCells ad ((news.take (min rs.2.length n*e.size)))|none=>Sem.pure ()).run P w=.ok () w:=by
    rw[hmin];cases ad<;>simp[storeCells]<;>rfl
   have hrun':=hrun ad n cap w hav hst
   by_cases h0:rows.length=0
   ·have:rows=[]:=List.eq_nil_of_length_eq_zero h0
    subst this
    have hn0:n=0:=by simp at hln;omega
    subst hn0
    refine⟨_,_,w,loc,ob,hrun',.inl rfl,?_,.sc ⟨rfl,nv (Nat.le_trans (Nat.min_le_left _ _) hR.max)⟩ ah⟩
    have:=h.setArr0 hm (max lvl rs.1)
    simpa using this
   ·obtain⟨_,_,_,hb,hW,hO,vs,hcc,hcx,hfl,hpl⟩:=hat'.plainArr hq.2 (.inl (by omega)) hl
    have he:rows.take off++rs.2.take n++rows.drop (off+min rs.2.length n)=rows:=by
     have:rs.2.take n=[]:=by apply List.eq_nil_of_length_eq_zero;rw[List.length_take,Nat.min_comm];exact hmin
     rw[this,hmin]
     simp
    obtain⟨h2,h3⟩:=h.setArr hm hq.2 (by omega) hl (lvl':=max lvl rs.1) (rows':=rows) rfl hW (Frame.refl w _)
     (fun i j row x h1 h2=>by
      have hi:i<rows.length:=(List.getElem?_eq_some_iff.1 h1).1
      have hj:j<z.length:=by
       have:=(List.getElem?_eq_some_iff.1 h2).1
       rw[hW.len row (List.mem_of_getElem? h1)]at this
       exact this
      exact⟨_,hcc i j hi hj,hcx i j row x h1 h2⟩)
     (fun h0=>hfl (by omega)) hpl
    refine⟨_,_,w,loc,ob,hrun',.inl rfl,?_,.sc ⟨rfl,nv (Nat.le_trans (Nat.min_le_left _ _) hR.max)⟩ ah⟩
    simp only
    rw[he]
    exact h2
  ·have hn0:n≠0:=by omega
   rcases hcase with⟨h1,_⟩|⟨hbd,rfl,hbf⟩
   ·exact absurd h1 hn0
   ·obtain⟨_,_,_,hb,hW,hO,vs,hcc,hcx,hfl,hpl⟩:=hat'.plainArr hq.2 (.inl (by omega)) hl
    have hzs:z.length=e.size:=hq.1
    have hk:min rs.2.length n*e.size≤news.length:=by rw[hR.nlen];exact Nat.mul_le_mul_right _ (Nat.min_le_left _ _)
    have htl:(news.take (min rs.2.length n*e.size)).length=min rs.2.length n*e.size:=by rw[List.length_take];omega
    have hle:(off+min rs.2.length n)*z.length≤rows.length*z.length:=Nat.mul_le_mul_right _ (by omega)
    rw[Nat.add_mul]at hle
    have hbn: ∀k,k<min rs.2.length n*e.size→l.base+off*l.s+k<l.base+rows.length*z.length:=fun k hk=>by rw[hs];rw[←hzs]at hk;omega
    have hst:=run_storeCells_cells (P:=P) l.g (l.base+off*l.s) (news.take (min rs.2.length n*e.size)) 0 w
     (fun k hk=>by
      rw[htl]at hk
      obtain⟨u,hu⟩:=hb.cell (o:=l.base+off*l.s+0+k) (by have:=hbn k hk;omega)
      rw[hu];rfl)
     (fun k hk=>hb.unfrozen (by rw[htl]at hk;have:=hbn k hk;omega)) (fun u hu=>hR.one u (List.mem_of_mem_take hu))
    simp only[Nat.add_zero]at hst
    have hrun':=hrun _ n cap _ hav hst
    have hF:Frame w (w.setCells l.g (l.base+off*l.s) (news.take (min rs.2.length n*e.size))) (fun g _=>g=l.g):=Frame.setCells _ _ _ _ w fun _ _=>rfl
    have hmem: ∀row∈rows.take off++rs.2.take n++rows.drop (off+min rs.2.length n),row∈rows∨row∈rs.2:=by
     intro row hr
     rw[List.mem_append,List.mem_append]at hr
     rcases hr with(hr|hr)|hr
     ·exact .inl (List.mem_of_mem_take hr)
     ·exact .inr (List.mem_of_mem_take hr)
     ·exact .inl (List.mem_of_mem_drop hr)
    have hplain: ∀row∈rows.take off++rs.2.take n++rows.drop (off+min rs.2.length n),∀x∈row,x.plain=true:=by
     intro row hr
     rcases hmem row hr with h1|h1
     ·exact hpl row h1
     ·exact hR.plain row h1
    have hwide:Wide z (rows.take off++rs.2.take n++rows.drop (off+min rs.2.length n)):=by
     refine⟨fun row hr=> ?_,fun row hr x hx=>dN (cR (hplain row hr x hx))⟩
     rcases hmem row hr with h1|h1
     ·exact hW.len row h1
     ·rw[hzs];exact hR.wid row h1
    have hl2:(rows.take off++rs.2.take n++rows.drop (off+min rs.2.length n)).length=rows.length:=by
     simp only[List.length_append,List.length_take,List.length_drop]
     omega
    obtain⟨h2,h3⟩:=h.setArr hm hq.2 (by omega) hl (lvl':=max lvl rs.1) hl2 hwide hF
     (fun i j row x h1 h2=>by
      have hj:j<z.length:=by
       have:=(List.getElem?_eq_some_iff.1 h2).1
       rw[hwide.len row (List.mem_of_getElem? h1)]at this
       exact this
      rw[vJ _ _ _ _ _ (by omega)]at h1
      split at h1
      ·rename_i hin
       have hlt:(i-off)*e.size+j<min rs.2.length n*e.size:=ik (by omega) (by omega)
       have:=World.cell?_setCells_in l.g (news.take (min rs.2.length n*e.size)) (l.base+off*l.s) w (fun k hk=>by
        rw[htl]at hk
        obtain⟨u,hu⟩:=hb.cell (o:=l.base+off*l.s+k) (hbn k hk)
        rw[hu];rfl) ((i-off)*e.size+j) (by rw[htl];exact hlt)
       refine⟨_,?_,hR.at_ (i-off) j row x h1 h2⟩
       have e1:l.base+i*z.length+j=l.base+off*l.s+((i-off)*e.size+j):=by
        rw[hs,←hzs]
        have:i*z.length=off*z.length+(i-off)*z.length:=by rw[←Nat.add_mul];congr 1;omega
        omega
       rw[e1,this,List.getElem_take]
       simp[show(i-off)*e.size+j<news.length by omega]
      ·rename_i hout
       have hi:i<rows.length:=(List.getElem?_eq_some_iff.1 h1).1
       refine⟨vs i j,?_,hcx i j row x h1 h2⟩
       rw[World.cell?_setCells_out l.g _ _ w _ (fun _ _=>by
        simp only
        rw[htl,hs,←hzs]
        by_cases hi':i<off
        ·have:=ik hi' hj
         omega
        ·have:(off+min rs.2.length n)*z.length≤i*z.length:=Nat.mul_le_mul_right _ (by omega)
         rw[Nat.add_mul]at this
         omega)]
       exact hcc i j hi hj)
     (fun h0 row hr=>by
      rcases hmem row hr with h1|h1
      ·exact hfl (by omega) row h1
      ·exact hR.flat (by omega) row h1)
     hplain
    exact⟨_,_,_,loc,ob,hrun',.inl rfl,h2,.sc ⟨rfl,nv (Nat.le_trans (Nat.min_le_left _ _) hR.max)⟩ ah⟩
 |_=>exact(ay hr8).elim
theorem qk{α:Type}(x:α)(w:World):(Sem.pure x:Sem α).run P w=.ok x w:=rfl
theorem iV{t tx ty el:TypeId}{d:TypeDesc}{i:TI}{R:Cells}{lvl:Nat}{rows:List (List AV)}{news:List Value}{x:Value}(ht:P.underlying t=some (.slice el))(hel:TIok P el i)
  (htx:P.underlying tx=some d)(hd:(∃e,d=.slice e)∨d=.string)(hR:Rows P w R i.size x lvl rows news)(ad:Option Addr)(n cap:Nat)(hroom:n+rows.length≤cap){w':World}
  (hst:(match ad with|some ad=>storeCells (ad.add (n*i.size)) news|none=>Sem.pure ()).run P w=.ok () w'):
  (Builtin.append_ #[t,tx] ty #[.slice ad n cap,x]).run P w=.ok (.slice ad (n+rows.length) cap) w':=by
 have hrd:=hR.read rows.length w (Nat.le_refl _) rfl
 rw[←hR.nlen,List.take_length]at hrd
 have hsz:=hel.size w
 rcases hd with⟨e,rfl⟩|rfl<;>cases ad<;>simp only at hst<;>
  simp[Builtin.append_,run_underlying ht,run_underlying htx,hsz,hR.len,qk,hroom,hrd,hst]
 all_goals
  rw[qk]at hst
  injection hst
theorem re{t tx ty el:TypeId}{d:TypeDesc}{i:TI}{R:Cells}{lvl:Nat}{rows:List (List AV)}{news olds:List Value}{x z:Value}(ht:P.underlying t=some (.slice el))(hel:TIok P el i)
  (htx:P.underlying tx=some d)(hd:(∃e,d=.slice e)∨d=.string)(hR:Rows P w R i.size x lvl rows news)(ad:Option Addr)(n cap:Nat)(hg: ¬n+rows.length≤cap)
  (hz: ∀w',(zeroValue el).run P w'=.ok z w')(hb:0<i.bytes)(hmax:(n+rows.length)*i.bytes≤ao)
  (hold:(Builtin.firstCells i.size n (.slice ad n cap)).run P w.drew=.ok olds.toArray w.drew):
  (Builtin.append_ #[t,tx] ty #[.slice ad n cap,x]).run P w=.ok (.slice (some ⟨w.heap.size,0,none⟩) (n+rows.length) (grownCap w (n+rows.length) cap el))
   (World.push w.drew (.cells (olds.toArray++news.toArray++Builtin.zeroCells z.cells (grownCap w (n+rows.length) cap el-(n+rows.length))) el)):=by
 have hrd:=hR.read rows.length w.drew (Nat.le_refl _) rfl
 rw[←hR.nlen,List.take_length]at hrd
 obtain⟨info,dd,zz,i1,i2,i3,i4,i5,i6,i7,i8,i9⟩:=hel.ex
 have hbb:info.bytes=i.bytes:=i6
 unfold ao at hmax
 have h2:n+rows.length≤(n+rows.length)*i.bytes:=Nat.le_mul_of_pos_right _ hb
 have h63: ¬(9223372036854775807<((n:Int)+(rows.length:Int))):=by omega
 have h48: ¬(281474976710656<Builtin.nextslicecap (n+rows.length) cap*i.bytes):=by
  have:=growslice_fits (old:=cap) (need:=n+rows.length) (bytes:=i.bytes) (by omega) (by omega)
  omega
 rcases hd with⟨e,rfl⟩|rfl<;>
  simp[Builtin.append_,run_underlying ht,run_underlying htx,hel.size,run_typeInfo _ i1,hbb,hR.len,qk,hg,h63,h48,Question.forced,hrd,hold,hz,newRow,grownCap,World.push]
 all_goals (congr 2;apply Array.ext';simp[List.append_assoc])
end
end Go.Abs

/- The abstract layer, 13: append. -/
noncomputable section
namespace Go.Abs
open Go
section
variable{P:Program}{T:TT}{E:Env}{o:Oper}{st:St}{a:Act}{w:World}{X:Cells}{loc:bG}{ob:Nat→Cells}{r:di}
theorem RelC.kill(h:RelC E st a w X loc ob){b:Nat}{blk:Blk}(hm:st.m b=.live blk):RelC E (st.mws [(b,.dead)]) a w X loc (bi ob b ae)∧ ∀g o,RS E w (al ob X) g o→RS E w (al (bi ob b ae) X) g o:=by
 have hob: ∀b' g o,bi ob b ae b' g o→ob b' g o:=by
  intro b' g o k
  by_cases hbb:b'=b
  ·subst hbb
   simp only[bi,if_true]at k
   exact k.elim
  ·simpa only[bi,hbb,if_false]using k
 have hsub: ∀g o,al (bi ob b ae) X g o→al ob X g o:=by
  rintro g o (⟨b',k⟩|k)
  ·exact .inl ⟨b',hob _ _ _ k⟩
  ·exact .inr k
 refine⟨h.go ae rfl rfl (Frame.refl w _) (fun g o k=>⟨.inl (hsub g o k),h.lt g o (hsub g o k)⟩) (fun _ _ k=>k.elim) (fun _ _ k=>k) (fun b'=> ?_) (fun b1 b2 hne g o k1 k2=>h.db b1 b2 hne g o (hob _ _ _ k1) (hob _ _ _ k2)) (fun b1 g o k1 k2=>h.dx b1 g o (hob _ _ _ k1) k2),
  RS.sub (Nat.le_refl _) fun g o k=>.inl (hsub g o k)⟩
 by_cases hbb:b'=b
 ·subst hbb
  right
  simp only[St.mws,bi,if_true,pf]
  obtain⟨l,hl⟩:=(h.lv b' _ hm).loc_some
  exact⟨by rw[hl];rfl,ah⟩
 ·left
  exact⟨by simp[St.mws,bi,hbb],by simp[bi,hbb],rfl,fun _ _ k=>k.elim⟩
theorem RelC.newArr0(h:RelC E st a w X loc ob){d:Nat}(hd:st.m d=.abs)(lvl:Nat)(z:List AV):
  let loc':=bi loc d (some ⟨0,0,z.length,0,false⟩)
  RelC E (st.mws [(d,.live ⟨true,lvl,z,[]⟩)]) a w X loc' ob∧ ∀ad,AR w (RS E w (al ob X)) loc' (.ref d 0 0) (.slice ad 0 0) ae:=by
 intro loc'
 have had:=h.ab d hd
 have hloc: ∀b l,loc b=some l→loc' b=some l:=fun b l hl=>by
  have hne:b≠d:=fun e=>by rw[e,had.1]at hl;cases hl
  simp[loc',bi,hne,hl]
 refine⟨h.go ae rfl rfl (Frame.refl w _) (fun g o k=>⟨.inl k,h.lt g o k⟩) (fun _ _ k=>k.elim) hloc (fun b=> ?_) h.db h.dx,fun ad=>.ref0 ⟨0,0,z.length,0,false⟩ ah (by simp[loc',bi]) (Nat.le_refl _)⟩
 by_cases hb:b=d
 ·subst hb
  right
  simp only[St.mws,bi,if_true,pf]
  exact .arr0 ⟨0,0,z.length,0,false⟩ (by simp[loc',bi]) rfl rfl rfl had.2
 ·left
  exact⟨by simp[St.mws,bi,hb],rfl,by simp[loc',bi,hb],fun _ _ k=>k.elim⟩
theorem RelC.moveArr(h:RelC E st a w X loc ob){b d lvl:Nat}{z zb:List AV}{rows:List (List AV)}(hm:st.m b=.live ⟨true,lvl,zb,rows⟩)(hd:st.m d=.abs)(h1:lvl≤1){l:Loc}(hl:loc b=some l)(hbd:l.bound=true)
  {lvl' base':Nat}{rows':List (List AV)}(hw:Wide z rows'){w':World}(hF:Frame w w' (fun g _=>g=l.g))(hb:BF w' l.g (base'+rows'.length*z.length))
  (hc: ∀i j row x,rows'[i]? =some row→row[j]? =some x→ ∃v,w'.cell? ⟨l.g,base'+i*z.length+j,none⟩=some v∧AR w (RS E w (al ob X)) aC x v ae)
  (h2:lvl'=0→ ∀row∈rows',∀x∈row,x.flat=true)(h3: ∀row∈rows',∀x∈row,x.plain=true)(hmx:rows'.length≤cj):
  let loc':=bi loc d (some ⟨l.g,base',z.length,rows'.length,true⟩)
  ∃ob',RelC E (st.mws [(b,.dead),(d,.live ⟨true,lvl',z,rows'⟩)]) a w' X loc' ob'∧
   ∀n cap,n=rows'.length→n≤cap→BF w' l.g (base'+cap*z.length)→AR w' (RS E w' (al ob' X)) loc' (.ref d 0 n) (.slice (some ⟨l.g,base',none⟩) n cap) ae:=by
 intro loc'
 obtain⟨_,hs,hn,hb0,hW,hO,vs,hcc,hx,_,_⟩:=(h.lv b _ hm).plainArr h1 (.inr hbd) hl
 have had:=h.ab d hd
 have hne:d≠b:=fun e=>by rw[e,hm]at hd;cases hd
 have hloc: ∀b l,loc b=some l→loc' b=some l:=fun b l hl=>by
  have hne:b≠d:=fun e=>by rw[e,had.1]at hl;cases hl
  simp[loc',bi,hne,hl]
 let Od:Cells:=fun g _=>g=l.g
 let ob':Nat→Cells:=bi (bi ob b ae) d Od
 have hob': ∀b' g o,ob' b' g o→(b'=d∧ob b g o)∨(b'≠d∧b'≠b∧ob b' g o):=by
  intro b' g o k
  by_cases h4:b'=d
  ·subst h4
   simp only[ob',bi,if_true,Od]at k
   exact .inl ⟨rfl,(hO g o).2 k⟩
  ·by_cases h5:b'=b
   ·subst h5
    simp only[ob',bi,h4,if_false,if_true]at k
    exact k.elim
   ·simp only[ob',bi,h4,h5,if_false]at k
    exact .inr ⟨h4,h5,k⟩
 have hsub: ∀g o,al ob' X g o→al ob X g o:=by
  rintro g o (⟨b',k⟩|k)
  ·rcases hob' _ _ _ k with⟨_,k⟩|⟨_,_,k⟩
   ·exact .inl ⟨b,k⟩
   ·exact .inl ⟨b',k⟩
  ·exact .inr k
 have hWt: ∀g o,Od g o→al ob X g o:=fun g o k=>.inl ⟨b,(hO g o).2 k⟩
 have hD: ∀g o,al ob' X g o→(al ob X g o∨w.heap.size≤g)∧g<w'.heap.size:=fun g o k=>⟨.inl (hsub g o k),Nat.lt_of_lt_of_le (h.lt g o (hsub g o k)) hF.size⟩
 have hld:loc' d=some ⟨l.g,base',z.length,rows'.length,true⟩:=by simp[loc',bi]
 refine⟨ob',h.go Od rfl rfl hF hD hWt hloc (fun b'=> ?_) (fun b1 b2 hne' g o k1 k2=> ?_) (fun b1 g o k1 k2=> ?_),fun n cap hn' hcap hbf=> ?_⟩
 ·by_cases h4:b'=d
  ·subst h4
   right
   simp only[St.mws,bi,if_true,pf,ob']
   have hsome: ∀i j,i<rows'.length→j<z.length→ ∃row x,rows'[i]? =some row∧row[j]? =some x:=by
    intro i j hi hj
    have hlr:=hw.len rows'[i] (List.getElem_mem hi)
    have hj':j<rows'[i].length:=by omega
    exact⟨rows'[i],rows'[i][j],by simp[hi],by simp[hj']⟩
   refine .arr ⟨l.g,base',z.length,rows'.length,true⟩ (fun i j=>(w'.cell? ⟨l.g,base'+i*z.length+j,none⟩).getD undef) (fun _ _=>ae) hld rfl rfl rfl hb hw
    (fun i j hi hj=> ?_) (fun i j row x h4 h5=> ?_) (fun g o=> ?_) (fun _ _ _ _ _ k=>k.elim) (fun _ _ _ _ _ _ _ _ _ _ _ k=>k.elim) h2 (fun _=>h3) hmx
   ·obtain⟨row,x,h4,h5⟩:=hsome i j hi hj
    obtain⟨v,h6,_⟩:=hc i j row x h4 h5
    simp only[h6]
    rfl
   ·obtain⟨v,h6,h7⟩:=hc i j row x h4 h5
    simp only[h6]
    exact h7.over hF hWt (fun g o k=>.inl (hsub g o k)) (fun _ _ k=>k)
   ·simp only[Od]
    constructor
    ·intro k;exact .inl k
    ·rintro (k|⟨_,_,_,_,k⟩)
     ·exact k
     ·exact k.elim
  ·by_cases h5:b'=b
   ·subst h5
    right
    simp only[St.mws,bi,if_true,if_false,Ne.symm hne,pf,ob']
    exact⟨by rw[hloc _ _ hl];rfl,ah⟩
   ·left
    refine⟨by simp[St.mws,bi,h4,h5],by simp[ob',bi,h4,h5],by simp[loc',bi,h4],fun g o k1 k2=> ?_⟩
    exact h.db b b' (Ne.symm h5) g o ((hO g o).2 k1) k2
 ·rcases hob' _ _ _ k1 with⟨e1,k3⟩|⟨h4,h5,k3⟩
  ·rcases hob' _ _ _ k2 with⟨e2,k4⟩|⟨h6,h7,k4⟩
   ·exact hne' (e1.trans e2.symm)
   ·exact h.db b b2 (Ne.symm h7) g o k3 k4
  ·rcases hob' _ _ _ k2 with⟨e2,k4⟩|⟨h6,h7,k4⟩
   ·exact h.db b1 b h5 g o k3 k4
   ·exact h.db b1 b2 hne' g o k3 k4
 ·rcases hob' _ _ _ k1 with⟨e1,k3⟩|⟨h4,h5,k3⟩
  ·exact h.dx b g o k3 k2
  ·exact h.dx b1 g o k3 k2
 ·subst hn'
  have:=AR.ref (w:=w') (R:=RS E w' (al ob' X)) (loc:=loc') (b:=d) (off:=0) (len:=rows'.length) (cap:=cap) (O:=ae) ⟨l.g,base',z.length,rows'.length,true⟩ ah hld rfl (by simp) hcap (by simpa using hbf) hmx
  simpa using this
theorem AP{R:Cells}{s m:Nat}{as bs:List (List AV)}{olds news:List Value}(zs:Array Value)(ho:olds.length=as.length*s)(hn:news.length=bs.length*s)
  (hwa: ∀row∈as,row.length=s)(hwb: ∀row∈bs,row.length=s)
  (ha: ∀i j row x,as[i]? =some row→row[j]? =some x→AR w R aC x (olds.getD (i*s+j) undef) ae)
  (hb: ∀i j row x,bs[i]? =some row→row[j]? =some x→AR w R aC x (news.getD (i*s+j) undef) ae):
  ∀i j row x,(as++bs)[i]? =some row→row[j]? =some x→AR w R aC x ((olds.toArray++news.toArray++zs).getD (i*s+j) undef) ae:=by
 intro i j row x h1 h2
 have hj:j<s:=by
  have:=(List.getElem?_eq_some_iff.1 h2).1
  have hm:=List.mem_of_getElem? h1
  rw[List.mem_append]at hm
  rcases hm with hm|hm
  ·rw[hwa row hm]at this;exact this
  ·rw[hwb row hm]at this;exact this
 by_cases hi:i<as.length
 ·rw[List.getElem?_append_left hi]at h1
  have hlt:=ik hi hj
  have e:(olds.toArray++news.toArray++zs).getD (i*s+j) undef=olds.getD (i*s+j) undef:=by
   rw[Array.getD_eq_getD_getElem?,Array.getElem?_append_left (by simp;omega),Array.getElem?_append_left (by simp;omega)]
   simp
  rw[e]
  exact ha i j row x h1 h2
 ·rw[List.getElem?_append_right (by omega)]at h1
  have hi':i-as.length<bs.length:=(List.getElem?_eq_some_iff.1 h1).1
  have hlt:=ik hi' hj
  have e1:i*s=as.length*s+(i-as.length)*s:=by rw[←Nat.add_mul];congr 1;omega
  have e:(olds.toArray++news.toArray++zs).getD (i*s+j) undef=news.getD ((i-as.length)*s+j) undef:=by
   rw[Array.getD_eq_getD_getElem?,Array.getElem?_append_left (by simp;omega),Array.getElem?_append_right (by simp;omega)]
   simp only[List.size_toArray,List.getElem?_toArray,List.getD_eq_getElem?_getD]
   congr 2
   omega
  rw[e]
  exact hb _ j row x h1 h2
theorem wD(hT:T.ok P)(h:RelC E st a w X loc ob){c:Call}(ho:o.op=.call c)(hc:c.callee=.builtin .append)(hr:(fG T .append c o).run st=some r):Did P E o st a w X r:=by
 simp only[fG]at hr
 split at hr
 case h_2=>exact(ay hr).elim
 rename_i s x hargs
 obtain⟨t,hat,hr1⟩:=ji hr
 obtain⟨u,hau,hr2⟩:=ji hr1
 obtain⟨d,hdst,hr2⟩:=fQ hr2
 obtain⟨hdn,hr2⟩:=gH hr2
 obtain⟨e,he,hr3⟩:=bind_some hr2
 obtain⟨el,hdt,hel,_⟩:=iB hT he
 obtain⟨_,hsrc,hr4⟩:=bind_some hr3
 obtain⟨du,hdu,hkind⟩:=wT hT hsrc
 obtain⟨xv,hxv,hr5⟩:=bind_some hr4
 have hxv:=bp h hxv
 obtain⟨rs,hrs,hr6⟩:=bind_some hr5
 obtain⟨sv,hsv,hr7⟩:=bind_some hr6
 have hsv:=bp h hsv
 obtain⟨hq0,hr8⟩:=bb hr7
 simp only[Bool.and_eq_true,List.all_eq_true,decide_eq_true_eq]at hq0
 obtain⟨⟨⟨hs0,hb0⟩,hb1⟩,hzp⟩:=hq0
 have hzlen:=hel.zlen
 obtain⟨news,hR⟩:=lg (P:=P) h hxv hrs (by omega)
 rw[hzlen]at hR
 obtain⟨lx,rows2⟩:=rs
 simp only at hr8 hR
 have hca:c.args=#[s,x]:=by have:=congrArg List.toArray hargs;simpa using this
 have hm':c.args.map a.eval=#[a.eval s,a.eval x]:=by simp[hca]
 have hct: ∀ty:TypeId,Builtin.append_ c.argTypes ty #[a.eval s,a.eval x]=Builtin.append_ #[t,u] ty #[a.eval s,a.eval x]:=by
  intro ty
  simp only[Builtin.append_,hat,hau]
  simp
 have hrun: ∀v w',(∀ty:TypeId,(Builtin.append_ #[t,u] ty #[a.eval s,a.eval x]).run P w=.ok v w')→(execOp a.eval o).run P w=.ok (.value v) w':=by
  intro v w' hv
  obtain⟨_,op,ty,_,_,_⟩:=o
  subst ho
  simp only[execOp]
  rw[kJ hc]
  simp only[builtin]
  refine eF ?_
  rw[hm',hct]
  exact hv _
 obtain⟨z,hz0,hzs,hzl⟩:=hel.zeroV w
 have hzr: ∀w',(zeroValue el).run P w'=.ok z w':=by
  intro w'
  obtain⟨info,d,zz,h1,h2,hz,hs,h3,h4,h5,h6,_⟩:=hel.ex
  have h7:(zeroValue el).run P w=.ok zz w:=by
   simp only[zeroValue,Sem.run_bind,run_typeInfo w h1,Result.andThen_ok,hz];rfl
  have h8:(zeroValue el).run P w'=.ok zz w':=by
   simp only[zeroValue,Sem.run_bind,run_typeInfo w' h1,Result.andThen_ok,hz];rfl
  rw[h7]at hz0
  injection hz0 with hz0
  rw[h8,hz0]
 have hbig: ∀m,m*e.bytes≤ao→m≤cj:=by
  intro m hm
  have:m≤m*e.bytes:=Nat.le_mul_of_pos_right _ hb0
  unfold ao at hm
  unfold cj
  omega
 -- in a new row
 have grow: ∀(st1:St)(ob1:Nat→Cells),RelC E st1 a w X loc ob1→st1.m d=.abs→(∀g o,RS E w (al ob X) g o→RS E w (al ob1 X) g o)→
   ∀(lvl n cap:Nat)(ad:Option Addr)(as:List (List AV))(olds:List Value),a.eval s=.slice ad n cap→as.length=n→ ¬n+rows2.length≤cap→(n+rows2.length)*e.bytes≤ao→
   olds.length=n*e.size→(Builtin.firstCells e.size n (.slice ad n cap)).run P w.drew=.ok olds.toArray w.drew→lvl≤1→
   (∀row∈as,row.length=e.size)→(∀i j row x,as[i]? =some row→row[j]? =some x→AR w (RS E w (al ob X)) aC x (olds.getD (i*e.size+j) undef) ae)→
   (lvl=0→ ∀row∈as,∀x∈row,x.flat=true)→(∀row∈as,∀x∈row,x.plain=true)→
   ∃nx v w' loc' ob',(execOp a.eval o).run P w=.ok nx w'∧(nx=.value v∨(nx=.skip∧v=undef))∧RelC E (st1.mws [(d,.live ⟨true,max lvl lx,e.zero,as++rows2⟩)]) a w' X loc' ob'∧
    AR w' (RS E w' (al ob' X)) loc' (.ref d 0 (n+rows2.length)) v ae:=by
  intro st1 ob1 h1 hd1 hRS lvl n cap ad as olds hav hasl hg hmax hol hold hlvl hwa haa hfa hpa
  have hg':=grownCap_ge w (n+rows2.length) cap el
  obtain⟨h2,h3⟩:=h1.world (w':=w.drew) (Frame.drew w _ ae)
  have hFd:Frame w w.drew ae:=Frame.drew w _ ae
  have hmono: ∀g o,RS E w (al ob X) g o→RS E w.drew (al ob1 X) g o:=fun g o k=>h3 g o (hRS g o k)
  have over: ∀x v,AR w (RS E w (al ob X)) aC x v ae→AR w.drew (RS E w.drew (al ob1 X)) aC x v ae:=fun x v hv=>
   hv.keep (S:=fun _ _=>True) ⟨Nat.le_refl _,fun _ _ h=>h,fun _ _ _=>rfl⟩ (fun g o k=>⟨trivial,hmono g o k⟩) (fun _ _ _=>trivial) (fun _ _ k=>k)
  have hrows:=AP (w:=w.drew) (R:=RS E w.drew (al ob1 X)) (m:=0) (Builtin.zeroCells z.cells (grownCap w (n+rows2.length) cap el-(n+rows2.length))) (by rw[hasl];exact hol) hR.nlen hwa hR.wid
   (fun i j row x k1 k2=>over _ _ (haa i j row x k1 k2)) (fun i j row x k1 k2=>over _ _ (hR.at_ i j row x k1 k2))
  have hsz:(olds.toArray++news.toArray++Builtin.zeroCells z.cells (grownCap w (n+rows2.length) cap el-(n+rows2.length))).size=grownCap w (n+rows2.length) cap el*e.size:=by
   simp only[Array.size_append,List.size_toArray,size_zeroCells,hzs,hol,hR.nlen,←Nat.add_mul]
   congr 1
   omega
  have hpl: ∀row∈as++rows2,∀x∈row,x.plain=true:=by
   intro row hr
   rw[List.mem_append]at hr
   rcases hr with hr|hr
   ·exact hpa row hr
   ·exact hR.plain row hr
  have hlen2:(as++rows2).length=n+rows2.length:=by rw[List.length_append,hasl]
  obtain⟨ob',h4,h5,h6⟩:=h2.newArr hd1 (rows:=as++rows2) (z:=e.zero) (lvl:=max lvl lx) _ el (0,0) (fun i _ h=>by simp at h)
   ⟨fun row hr=>by
    rw[List.mem_append]at hr
    rw[hzlen]
    rcases hr with hr|hr
    ·exact hwa row hr
    ·exact hR.wid row hr,fun row hr x hx=>dN (cR (hpl row hr x hx))⟩
   (by rw[hlen2,hzlen,hsz];exact Nat.mul_le_mul_right _ hg') (by rw[hzlen];exact hrows)
   (fun h0 row hr=>by
    rw[List.mem_append]at hr
    rcases hr with hr|hr
    ·exact hfa (by omega) row hr
    ·exact hR.flat (by omega) row hr)
   (fun _=>hpl) (by rw[hlen2];exact hbig _ hmax)
  refine⟨_,_,_,_,ob',hrun _ _ (fun ty=> ?_),.inl rfl,h4,h6 _ _ hlen2.symm hg' (by rw[hzlen,hsz];exact Nat.le_refl _)⟩
  rw[hav]
  exact re hdt hel hdu hkind hR ad n cap hg hzr hb0 hmax hold
 cases sv with
 |emp=>
  obtain⟨hq,hr9⟩:=bb hr8
  obtain rfl:=au hr9
  obtain⟨ad,hav⟩:=hsv.inv_emp
  have hmx:rows2.length*e.bytes≤ao:=of_decide_eq_true hq
  by_cases h0:rows2.length=0
  ·have hnil:rows2=[]:=List.eq_nil_of_length_eq_zero h0
   subst hnil
   obtain⟨h2,h3⟩:=h.newArr0 hdn lx e.zero
   have hnn:news=[]:=List.eq_nil_of_length_eq_zero (by rw[hR.nlen];simp)
   subst hnn
   refine⟨_,_,w,_,ob,hrun (.slice ad 0 0) w (fun ty=> ?_),.inl rfl,h2,h3 ad⟩
   rw[hav]
   exact iV hdt hel hdu hkind hR ad 0 0 (by simp) (by cases ad<;>simp[storeCells]<;>rfl)
  ·have:=grow st ob h hdn (fun _ _ k=>k) 0 0 0 ad [] [] hav rfl (by omega) (by simpa using hmx) (by simp) (by
    cases ad with
    |none=>exact run_firstCells_none w.drew e.size 0 0 0
    |some ad=>exact run_firstCells_some w.drew e.size 0 ad 0 0 [] (by simp) (fun j v h=>by simp at h)) (by omega) (fun _ h=>by simp at h) (fun i j row x h=>by simp at h) (fun _ _ h=>by simp at h) (fun _ h=>by simp at h)
   simp only[Nat.zero_max,Nat.zero_add,List.nil_append]at this
   exact this
 |ref b off n=>
  have hr9:=cM hr8
  obtain⟨blk,hm,hr10⟩:=bind_some hr9
  obtain⟨hm,harr⟩:=dC hm
  obtain⟨hq,hr11⟩:=bb hr10
  simp only[Bool.and_eq_true,beq_iff_eq,decide_eq_true_eq]at hq
  obtain⟨⟨hzs',hlv⟩,hmx⟩:=hq
  obtain rfl:=au hr11
  obtain⟨l,hl,hn,ad,cap,hav,hcap,hcase⟩:=hsv.inv_ref
  obtain⟨arr,lvl,z',rows⟩:=blk
  simp only at harr hzs' hlv
  subst harr
  have hat':=h.lv b _ hm
  obtain⟨hs,hln⟩:=hat'.width hl
  simp only at hs hln
  have hne:d≠b:=fun e=>by rw[e,hm]at hdn;cases hdn
  obtain⟨hk1,hk2⟩:=h.kill hm
  have hkd:(st.mws [(b,.dead)]).m d=.abs:=by simp[St.mws,bi,hne,hdn]
  have hsl:(am rows off n).length=n:=by simp[am];omega
  have hmem: ∀row∈am rows off n,row∈rows:=fun row hr=>List.mem_of_mem_drop (List.mem_of_mem_take hr)
  rcases hcase with⟨rfl,rfl⟩|⟨hbd,rfl,hbf⟩
  ·have hsub0:am rows off 0=[]:=by simp[am]
   by_cases h0:rows2.length=0
   ·have hnil:rows2=[]:=List.eq_nil_of_length_eq_zero h0
    subst hnil
    obtain⟨h2,h3⟩:=hk1.newArr0 hkd (max lvl lx) e.zero
    have hnn:news=[]:=List.eq_nil_of_length_eq_zero (by rw[hR.nlen];simp)
    subst hnn
    refine⟨_,_,w,_,_,hrun (.slice ad 0 0) w (fun ty=> ?_),.inl rfl,?_,h3 ad⟩
    ·rw[hav]
     exact iV hdt hel hdu hkind hR ad 0 0 (by simp) (by cases ad<;>simp[storeCells]<;>rfl)
    ·simp only[hsub0,List.append_nil]
     exact h2
   ·have:=grow _ _ hk1 hkd hk2 lvl 0 0 ad [] [] hav rfl (by omega) (by simpa using hmx) (by simp) (by
     cases ad with
     |none=>exact run_firstCells_none w.drew e.size 0 0 0
     |some ad=>exact run_firstCells_some w.drew e.size 0 ad 0 0 [] (by simp) (fun j v h=>by simp at h)) hlv (fun _ h=>by simp at h) (fun i j row x h=>by simp at h) (fun _ _ h=>by simp at h) (fun _ h=>by simp at h)
    simp only[hsub0]
    exact this
  ·obtain⟨_,_,_,hb,hW,hO,vs,hcc,hcx,hfl,hpl⟩:=hat'.plainArr hlv (.inr hbd) hl
   have hget: ∀i,i<n→(am rows off n)[i]? =rows[off+i]? :=fun i hi=>by simp[am,hi]
   by_cases hroom:n+rows2.length≤cap
   ·have hle:(off+(n+rows2.length))*l.s≤(off+cap)*l.s:=Nat.mul_le_mul_right _ (by omega)
    have hse:l.s=e.size:=by rw[hs,hzs']
    rw[Nat.add_mul,Nat.add_mul n]at hle
    have hbn: ∀k,k<news.length→l.base+off*l.s+n*e.size+k<l.base+(off+cap)*l.s:=fun k hk=>by
     rw[hR.nlen]at hk
     rw[hse]at hle⊢
     omega
    have hst:=run_storeCells_cells (P:=P) l.g (l.base+off*l.s+n*e.size) news 0 w
     (fun k hk=>by
      obtain⟨u,hu⟩:=hbf.cell (o:=l.base+off*l.s+n*e.size+0+k) (by have:=hbn k hk;omega)
      rw[hu];rfl)
     (fun k hk=>hbf.unfrozen (by have:=hbn k hk;omega)) hR.one
    simp only[Nat.add_zero]at hst
    have hF:Frame w (w.setCells l.g (l.base+off*l.s+n*e.size) news) (fun g _=>g=l.g):=Frame.setCells _ _ _ _ w fun _ _=>rfl
    have hplain: ∀row∈am rows off n++rows2,∀x∈row,x.plain=true:=by
     intro row hr
     rw[List.mem_append]at hr
     rcases hr with hr|hr
     ·exact hpl row (hmem row hr)
     ·exact hR.plain row hr
    have hlen2:(am rows off n++rows2).length=n+rows2.length:=by rw[List.length_append,hsl]
    have hwide:Wide e.zero (am rows off n++rows2):=by
     refine⟨fun row hr=> ?_,fun row hr x hx=>dN (cR (hplain row hr x hx))⟩
     rw[List.mem_append]at hr
     rw[hzlen]
     rcases hr with hr|hr
     ·rw[hW.len row (hmem row hr)];exact hzs'
     ·exact hR.wid row hr
    have hzz:z'.length=e.zero.length:=by rw[hzlen];exact hzs'
    -- the block under the element's own zero row
    have key:=h.moveArr (z:=e.zero) (lvl':=max lvl lx) (base':=l.base+off*l.s) (rows':=am rows off n++rows2) hm hdn hlv hl hbd (w':=w.setCells l.g (l.base+off*l.s+n*e.size) news)
     hwide hF
     (hF.bf _ _ (hbf.mono (by rw[hlen2,hzlen,←hse,Nat.add_mul n,Nat.add_mul];rw[Nat.add_mul]at hle;omega)))
     (fun i j row x h1 h2=>by
      have hj:j<e.size:=by
       have:=(List.getElem?_eq_some_iff.1 h2).1
       rw[hwide.len row (List.mem_of_getElem? h1),hzlen]at this
       exact this
      by_cases hi:i<n
      ·rw[List.getElem?_append_left (by omega),hget i hi]at h1
       refine⟨vs (off+i) j,?_,hcx (off+i) j row x h1 h2⟩
       rw[World.cell?_setCells_out l.g _ _ w _ (fun _ _=>by
        simp only
        left
        have:=ik hi hj
        rw[hzlen]
        omega)]
       have:=hcc (off+i) j (by omega) (by omega)
       rw[Nat.add_mul,←Nat.add_assoc]at this
       rw[hs,←hzz]
       exact this
      ·rw[List.getElem?_append_right (by omega),hsl]at h1
       have hi':i-n<rows2.length:=(List.getElem?_eq_some_iff.1 h1).1
       have hlt:(i-n)*e.size+j<news.length:=by rw[hR.nlen];exact ik hi' hj
       have:=World.cell?_setCells_in l.g news (l.base+off*l.s+n*e.size) w (fun k hk=>by
        obtain⟨u,hu⟩:=hbf.cell (o:=l.base+off*l.s+n*e.size+k) (hbn k hk)
        rw[hu];rfl) ((i-n)*e.size+j) hlt
       refine⟨_,?_,hR.at_ (i-n) j row x h1 h2⟩
       have e1:l.base+off*l.s+i*e.zero.length+j=l.base+off*l.s+n*e.size+((i-n)*e.size+j):=by
        rw[hzlen]
        have:i*e.size=n*e.size+(i-n)*e.size:=by rw[←Nat.add_mul];congr 1;omega
        omega
       rw[e1,this]
       simp[hlt])
     (fun h0 row hr=>by
      rw[List.mem_append]at hr
      rcases hr with hr|hr
      ·exact hfl (by omega) row (hmem row hr)
      ·exact hR.flat (by omega) row hr)
     hplain (by rw[hlen2];exact hbig _ hmx)
    obtain⟨ob',h2,h3⟩:=key
    refine⟨_,_,_,_,ob',hrun _ _ (fun ty=> ?_),.inl rfl,h2,h3 (n+rows2.length) cap hlen2.symm hroom (hF.bf _ _ (hbf.mono (by rw[hzlen,←hse,Nat.add_mul];omega)))⟩
    rw[hav]
    exact iV hdt hel hdu hkind hR _ n cap hroom (by simp only[ee];exact hst)
   ·have hrow: ∃olds,Rows P w (RS E w (al ob X)) e.size (.slice (some ⟨l.g,l.base+off*l.s,none⟩) n cap) lvl (am rows off n) olds:=by
     have:=mC (P:=P) (w:=w) (R:=RS E w (al ob X)) (g:=l.g) (o:=l.base+off*l.s) (s:=e.size) (lvl:=lvl) (cap:=cap) (rows:=am rows off n) (fun i j=>vs (off+i) j) (.inl hs0)
      (fun i j hi hj=>by
       have:=hcc (off+i) j (by omega) (by omega)
       rw[Nat.add_mul,←Nat.add_assoc]at this
       rw[hs]
       rw[←hzs']
       exact this)
      (fun row hr=>(hW.len row (hmem row hr)).trans hzs')
      (fun i j row x h1 h2=>hcx (off+i) j row x (by rw[←hget i (by have:=(List.getElem?_eq_some_iff.1 h1).1;omega)];exact h1) h2)
      hlv (fun h0 row hr=>hfl h0 row (hmem row hr)) (fun row hr=>hpl row (hmem row hr))
     rw[hsl]at this
     exact this hsv.ref_len
    obtain⟨olds,hO2⟩:=hrow
    have hrd:=hO2.read n w.drew (by omega) rfl
    have hnl:=hO2.nlen
    rw[hsl]at hnl
    rw[←hnl,List.take_length]at hrd
    exact grow _ _ hk1 hkd hk2 lvl n cap _ _ olds hav hsl hroom hmx hnl hrd hlv hO2.wid hO2.at_ hO2.flat hO2.plain
 |_=>exact(ay hr8).elim
end
end Go.Abs
