/- The abstract layer, 6: reads, addresses, slices, lengths. -/
import Derived.Test.YtiadohfbemjfkaaDoorAbsP
set_option linter.unusedVariables false
set_option linter.unusedSimpArgs false
noncomputable section
namespace Go.Abs
open Go
section
variable{P:Program}{T:TT}{E:Env}{o:Oper}{st:St}{a:Act}{w:World}{X:Cells}{loc:Locs}{ob:Nat→Cells}{r:Res}
theorem add_plain' (g j n:Nat):(⟨g,j,none⟩:Addr).add n=⟨g,j+n,none⟩:=by unfold Addr.add;split<;>simp_all
theorem run_asIntOf(k:IntKind)(n:Int)(w:World):(asIntOf (.int k n)).run P w=.ok (k,n) w:=rfl
theorem asNat_some{v:AV}{n:Nat}(h:(asNat v).run st=some n): ∃k m,v=.int k m∧0≤m∧n=m.toNat:=by
 unfold asNat at h
 split at h
 ·obtain⟨h1,h2⟩:=req_some h
  exact⟨_,_,rfl,of_decide_eq_true h1,(ret_some h2).symm⟩
 ·exact(fail_some h).elim
theorem field_some{fs:List (Nat × TypeId)}{f:Nat}{p:Nat × Nat}(h:fieldA T fs f=some p): ∃t j,fs[f]? =some (p.1,t)∧T.get t=some j∧j.size=p.2:=by
 unfold fieldA at h
 split at h
 ·rename_i q hq
  split at h
  ·rename_i j hj
   injection h with h
   subst h
   exact⟨q.2,j,hq,hj,rfl⟩
  ·cases h
 ·cases h
theorem did_fieldAddr(hT:T.ok P)(h:RelC E st a w X loc ob){t:TypeId}{x:Operand}{f:Nat}(ho:o.op=.fieldAddr t x f)(hr:(evFieldAddr T t x f).run st=some r):Did P E o st a w X r:=by
 obtain⟨i,hi,hr⟩:=bind_some hr
 have hti:=hT.at (TI_some hi)
 obtain⟨d,hd,hut⟩:=hti.und
 split at hr
 ·rename_i fs hfs
  rw[hut]at hfs
  obtain⟨fa,rfl,rfl⟩:=und_struct hfs
  split at hr
  ·rename_i p hp
   obtain⟨ft,j,h1,h2,h3⟩:=field_some hp
   obtain⟨hq,hr⟩:=req_some hr
   have hpos:0<p.2:=of_decide_eq_true hq
   obtain⟨v,hv,hr⟩:=bind_some hr
   have hv:=opnd_some h hv
   simp only[List.getElem?_map,Option.map_eq_some_iff]at h1
   obtain⟨fl,hfl,hfe⟩:=h1
   have hfa:fa[f]? =some fl:=by simpa using hfl
   have hoff:fl.offset=p.1:=congrArg Prod.fst hfe
   have hty:fl.type=ft:=congrArg Prod.snd hfe
   have hsz:(sizeOf fl.type).run P w=.ok p.2 w:=by rw[hty,←h3];exact(hT.at h2).size w
   have key: ∀g off,a.eval x=.pointer (some ⟨g,off,none⟩)→(execOp a.eval o).run P w=.ok (.value (.pointer (some ⟨g,off+p.1,none⟩))) w:=by
    intro g off he
    obtain⟨_,op,_,_,_,_⟩:=o
    subst ho
    simp only[execOp]
    refine run_v ?_
    have hne: ¬p.2=0:=by omega
    simp only[Instr.fieldAt,Sem.run_bind,run_underlying hd,Result.andThen_ok,hfa,he,Instr.sureAddr,fieldPlace]
    simp only[pure,Sem.run,Sem.run_bind,Result.andThen_ok,hsz,hne,if_false,add_plain',hoff]
   cases v<;>try exact(fail_some hr).elim
   ·obtain rfl:=val_some hr
    obtain⟨l,h4,h5,h6,h7⟩:=hv.inv_ptr
    exact Did.pure h (key _ _ h7) (by rw[Nat.add_assoc];exact .ptr l emp_none2 h4 h5 h6)
   ·obtain rfl:=val_some hr
    obtain⟨vs,g,off,hg,hk,hc,hx,h7⟩:=hv.inv_rp
    exact Did.pure h (key _ _ h7) (by rw[Nat.add_assoc];exact .rp vs emp_none2 hg hk hc hx)
  ·exact(fail_some hr).elim
 ·exact(fail_some hr).elim
theorem BR.row{R:Cells}{loc:Locs}{b:Nat}{blk:Blk}{O:Cells}(h:BR w R loc b blk O){l:Loc}(hl:loc b=some l)(hbd:l.bound=true){i:Nat}(hi:i<l.n):
  ∃row,rowA blk.rows i blk.z=row∧blk.rows[i]? =some row∧row.length=blk.z.length∧l.s=blk.z.length∧
   ∀(j:Nat) x,row[j]? =some x→x.light=true→ ∃c,w.cell? ⟨l.g,l.base+i*l.s+j,none⟩=some c∧ ∃O',AR w R loc x c O'∧ ∀g o,O' g o→O g o:=by
 cases h with
 |arr0 l' hl' hn hs hb e=>
  rw[hl]at hl'
  injection hl' with hl'
  subst hl'
  omega
 | @arr lvl z rows O l' vs os hl' hbd hs hn hb hw hc hx hO hd hdd h0 h1=>
  rw[hl]at hl'
  injection hl' with hl'
  subst hl'
  have hir:i<rows.length:=by omega
  refine⟨rows[i],by simp[rowA,hir],by simp[hir],hw.len _ (List.getElem_mem hir),hs,fun j x hj hlt=> ?_⟩
  have hjz:j<z.length:=by
   have:=(List.getElem?_eq_some_iff.1 hj).1
   rw[hw.len _ (List.getElem_mem hir)]at this
   exact this
  refine⟨vs i j,by rw[hs];exact hc i j hir hjz,os i j,(hx i j rows[i] x (by simp[hir]) hj).weak (fun _ _ k=>k) (fun _ _ k=>by cases k),fun g o k=>(hO g o).2 (.inr ⟨i,j,hir,hjz,k⟩)⟩
 | @var lvl z row O l' vs os hl' hbd hs hn hz hb hc hx hO hd hdd=>
  rw[hl]at hl'
  injection hl' with hl'
  subst hl'
  have hi0:i=0:=by omega
  subst hi0
  refine⟨row,by simp[rowA],by simp,hz,hs,fun j x hj hlt=> ?_⟩
  have hk:=light_known hlt
  exact⟨vs j,by simpa using hc j x hj hk,os j,hx j x hj hk,fun g o k=>(hO g o).2 ⟨j,x,hj,hk,.inr k⟩⟩
theorem AR.light_emp{R:Cells}{loc:Locs}{x:AV}{v:Value}{O:Cells}(h:AR w R loc x v O)(hl:x.light=true):Emp O:=by
 cases h with
 | @fn _ f caps vs O os hn hx hu=>
  simp only[AV.light,List.all_eq_true]at hl
  intro g o ho
  obtain⟨j,hj,ho⟩:=(hu.iff g o).1 ho
  have hp:=hl caps[j] (List.getElem_mem hj)
  have hv:j<vs.size:=by omega
  have:=hx j caps[j] vs[j] (by simp[hj]) (by simp[hv])
  generalize caps[j]=c at this hp
  generalize vs[j]=u at this
  cases c<;>simp[AV.isPtr]at hp
  ·cases this with
   |sc h _=>exact h
   |ptr l e _ _ _=>exact e g o ho
  ·cases this with
   |sc h _=>exact h
   |rp vs e _ _ _ _=>exact e g o ho
 |_=>first|assumption|simp[AV.light]at hl
theorem AR.light{R:Cells}{loc:Locs}{x:AV}{v:Value}{O:Cells}(h:AR w R loc x v O)(hl:x.light=true):AR w R loc x v none2:=h.emp_weak (h.light_emp hl) emp_none2
theorem cells_some(h:RelC E st a w X loc ob){n:Nat}{v:AV}{u:Value}(hv:AR w (RS E w (Owned ob X)) loc v u none2){cs:List AV}(hc:(cellsAt n v).run st=some cs)
  (hl:cs.all AV.light=true)(hn:cs.length=n): ∃g off,u=.pointer (some ⟨g,off,none⟩)∧ ∃vals:List Value,vals.length=n∧(∀(j:Nat) c,vals[j]? =some c→w.cell? ⟨g,off+j,none⟩=some c)∧
   ∀(j:Nat) x c,cs[j]? =some x→vals[j]? =some c→AR w (RS E w (Owned ob X)) loc x c none2:=by
 rw[List.all_eq_true]at hl
 have fin: ∀(g off:Nat),(∀(j:Nat) x,cs[j]? =some x→ ∃c,w.cell? ⟨g,off+j,none⟩=some c∧AR w (RS E w (Owned ob X)) loc x c none2)→
   ∃vals:List Value,vals.length=n∧(∀(j:Nat) c,vals[j]? =some c→w.cell? ⟨g,off+j,none⟩=some c)∧ ∀(j:Nat) x c,cs[j]? =some x→vals[j]? =some c→AR w (RS E w (Owned ob X)) loc x c none2:=by
  intro g off hx
  refine⟨(List.range n).map fun j=>(w.cell? ⟨g,off+j,none⟩).getD undef,by simp,fun j c hj=> ?_,fun j x c hj hc=> ?_⟩
  ·have hjn:j<n:=by have:=(List.getElem?_eq_some_iff.1 hj).1;simpa using this
   simp only[List.getElem?_map,List.getElem?_range hjn,Option.map_some]at hj
   injection hj with hj
   obtain⟨c',h1,_⟩:=hx j cs[j] (by simp[hn,hjn])
   rw[h1]at hj⊢
   exact congrArg some hj
  ·have hjn:j<n:=by have:=(List.getElem?_eq_some_iff.1 hj).1;omega
   simp only[List.getElem?_map,List.getElem?_range hjn,Option.map_some]at hc
   injection hc with hc
   obtain⟨c',h1,h2⟩:=hx j x hj
   rw[h1]at hc
   simp at hc
   exact hc▸h2
 cases v<;>try exact(fail_some hc).elim
 ·rename_i b i j
  have hc:=mem_some hc
  obtain⟨blk,hm,hc⟩:=bind_some hc
  have hm:=live_some hm
  have hcs:=ret_some hc
  obtain⟨l,h4,h5,h6,h7⟩:=hv.inv_ptr
  obtain⟨row,hrow,_,hrl,hs,hcell⟩:=(h.lv b blk hm).row h4 h5 h6
  refine⟨_,_,h7,fin _ _ fun k x hk=> ?_⟩
  have hxr:row[j+k]? =some x:=by
   rw[←hcs,hrow,List.getElem?_take]at hk
   split at hk
   ·rw[List.getElem?_drop]at hk;exact hk
   ·cases hk
  have hlx:x.light=true:=hl x (List.mem_of_getElem? hk)
  obtain⟨c,h8,O',h9,_⟩:=hcell (j+k) x hxr hlx
  exact⟨c,by rw[Nat.add_assoc];exact h8,h9.light hlx⟩
 ·rename_i row j
  have hcs:=ret_some hc
  obtain⟨vs,g,off,hg,hk,hcc,hx,h7⟩:=hv.inv_rp
  refine⟨_,_,h7,fin _ _ fun k x hk'=> ?_⟩
  have hxr:row[j+k]? =some x:=by
   rw[←hcs,List.getElem?_take]at hk'
   split at hk'
   ·rw[List.getElem?_drop]at hk';exact hk'
   ·cases hk'
  have hlt:=(List.getElem?_eq_some_iff.1 hxr).1
  exact⟨vs (j+k),by rw[Nat.add_assoc];exact(hcc _ hlt).1,(hx _ x hxr).weak (fun _ _ k=>k) (fun _ _ k=>by cases k)⟩
theorem run_isAgg{t:TypeId}{d:TypeDesc}(hd:P.underlying t=some d)(w:World):(isAgg t).run P w=.ok (isAggT (utOf d)) w:=by
 simp only[isAgg,Sem.run_bind,run_underlying hd,Result.andThen_ok]
 cases d<;>rfl
theorem did_field(hT:T.ok P)(h:RelC E st a w X loc ob){t:TypeId}{x:Operand}{f:Nat}(ho:o.op=.field t x f)(hr:(evField T t x f).run st=some r):Did P E o st a w X r:=by
 obtain⟨i,hi,hr⟩:=bind_some hr
 have hti:=hT.at (TI_some hi)
 obtain⟨d,hd,hut⟩:=hti.und
 split at hr
 ·rename_i fs hfs
  rw[hut]at hfs
  obtain⟨fa,rfl,rfl⟩:=und_struct hfs
  split at hr
  ·rename_i p hp
   simp only[List.getElem?_map,Option.map_eq_some_iff]at hp
   obtain⟨fl,hfl,rfl⟩:=hp
   have hfa:fa[f]? =some fl:=by simpa using hfl
   obtain⟨j,hj,hr⟩:=bind_some hr
   have htj:=hT.at (TI_some hj)
   obtain⟨d2,hd2,hut2⟩:=htj.und
   have hagg:=run_isAgg hd2 w
   rw[←hut2]at hagg
   obtain⟨v,hv,hr⟩:=bind_some hr
   have hv:=opnd_some h hv
   cases v<;>try exact(fail_some hr).elim
   rename_i cs
   generalize hev:a.eval x=ev at hv
   obtain⟨vs,rfl,hvl,hvx⟩:=hv.inv_agg
   simp only at hr
   split at hr
   ·rename_i hA
    obtain⟨hq,hr⟩:=req_some hr
    have hq:=of_decide_eq_true hq
    obtain rfl:=val_some hr
    refine Did.pure h (v:=.agg (vs.extract fl.offset (fl.offset+j.size))) ?_ (.agg (fun _=>none2) ?_ (fun k y c h1 h2=> ?_) ⟨fun g o=>⟨fun k=>k.elim,fun⟨_,_,k⟩=>k.elim⟩,fun _ _ _ _ _ _ _ k=>k.elim⟩)
    ·obtain⟨_,op,_,_,_,_⟩:=o
     subst ho
     simp only[execOp]
     refine run_v ?_
     simp only[Instr.field,Sem.run_bind,run_underlying hd,Result.andThen_ok,hfa,hev,part,hagg,hA,if_true,asAgg,Sem.run_pure,htj.size w]
    ·simp
     omega
    ·rw[List.getElem?_take]at h1
     split at h1
     ·rw[List.getElem?_drop]at h1
      refine hvx _ y c h1 ?_
      rw[Array.getElem?_extract]at h2
      split at h2
      ·exact h2
      ·cases h2
     ·cases h1
   ·rename_i hA
    have hA:isAggT j.ut=false:=by simpa using hA
    obtain⟨y,h2,hr⟩:=bind_some hr
    have hy:=ofOpt_some h2
    obtain rfl:=val_some hr
    have hlt:=(List.getElem?_eq_some_iff.1 hy).1
    have hc:vs[fl.offset]? =some vs[fl.offset]:=by simp[show fl.offset<vs.size by omega]
    refine Did.pure h (v:=vs[fl.offset]) ?_ (hvx _ y _ hy hc)
    obtain⟨_,op,_,_,_,_⟩:=o
    subst ho
    simp only[execOp]
    refine run_v ?_
    simp only[Instr.field,Sem.run_bind,run_underlying hd,Result.andThen_ok,hfa,hev,part,hagg,hA,Bool.false_eq_true,if_false,asAgg,Sem.run_pure,hc]
  ·exact(fail_some hr).elim
 ·exact(fail_some hr).elim
theorem load_val(hT:T.ok P)(h:RelC E st a w X loc ob){t:TypeId}{x:Operand}(hr:(evLoad T t x).run st=some r):
  ∃ad u,a.eval x=.pointer (some ad)∧(loadVar t ad).run P w=.ok u w∧AR w (RS E w (Owned ob X)) loc r.1 u none2∧r.2=[]:=by
 obtain⟨i,hi,hr⟩:=bind_some hr
 have hti:=hT.at (TI_some hi)
 obtain⟨d,hd,hut⟩:=hti.und
 obtain⟨v,hv,hr⟩:=bind_some hr
 have hv:=opnd_some h hv
 obtain⟨cs,hc,hr⟩:=bind_some hr
 obtain⟨hq,hr⟩:=req_some hr
 simp only[Bool.and_eq_true,beq_iff_eq]at hq
 obtain⟨g,off,hp,vals,hvl,hvc,hvx⟩:=cells_some h hv hc hq.1 hq.2
 have hagg:=run_isAgg hd w
 rw[←hut]at hagg
 split at hr
 ·rename_i hA
  obtain rfl:=val_some hr
  refine⟨_,.agg vals.toArray,hp,?_,?_,rfl⟩
  ·have hload:=run_loadCells_list (P:=P) w ⟨g,off,none⟩ vals (fun j c hj=>by rw[add_plain'];exact hvc j c hj)
   rw[hvl]at hload
   simp only[loadVar,pure,Sem.run,Sem.run_bind,Result.andThen_ok,hagg,hA,if_true,hti.size w,hload]
  ·refine .agg (fun _=>none2) (by simp[hvl,hq.2]) (fun k x c h1 h2=>hvx k x c h1 (by simpa using h2)) ⟨fun g o=>⟨fun k=>k.elim,fun⟨_,_,k⟩=>k.elim⟩,fun _ _ _ _ _ _ _ k=>k.elim⟩
 ·rename_i hA
  have hA:isAggT i.ut=false:=by simpa using hA
  match cs,hr,hc,hq,hvx with
  |[c],hr,hc,hq,hvx=>
   obtain rfl:=val_some hr
   have h1:vals.length=1:=by rw[hvl,←hq.2];rfl
   match vals,h1 with
   |[u],_=>
    refine⟨_,u,hp,?_,hvx 0 c u (by simp) (by simp),rfl⟩
    have hcell:=hvc 0 u (by simp)
    simp only[loadVar,pure,Sem.run,Sem.run_bind,Result.andThen_ok,hagg,hA,Bool.false_eq_true,if_false,load]
    simp only[Nat.add_zero]at hcell
    simp only[hcell]
  |[],hr,_,_,_=>exact(fail_some hr).elim
  |_::_::_,hr,_,_,_=>exact(fail_some hr).elim
theorem did_load(hT:T.ok P)(h:RelC E st a w X loc ob){t:TypeId}{x:Operand}(ho:o.op=.load t x)(hr:(evLoad T t x).run st=some r):Did P E o st a w X r:=by
 obtain⟨ad,u,hp,hl,hx,h2⟩:=load_val hT h hr
 obtain⟨y,l⟩:=r
 simp only at h2
 subst h2
 refine Did.pure h (v:=u) ?_ hx
 obtain⟨_,op,_,_,_,_⟩:=o
 subst ho
 simp only[execOp,hp]
 refine run_v ?_
 simp only[Instr.loadAt,Instr.sureAddr,Sem.run_bind,Sem.run_pure,Result.andThen_ok,hl]
theorem did_index(h:RelC E st a w X loc ob)(hT:T.ok P){t:TypeId}{x i:Operand}(ho:o.op=.index t x i)(hr:(evIndex T t x i).run st=some r):Did P E o st a w X r:=by
 obtain⟨iv,hi,hr⟩:=bind_some hr
 have hi:=opnd_some h hi
 obtain⟨n,hn,hr⟩:=bind_some hr
 obtain⟨k,m,rfl,hm0,rfl⟩:=asNat_some hn
 obtain⟨v,hv,hr⟩:=bind_some hr
 have hv:=opnd_some h hv
 obtain⟨_,hf,hr⟩:=bind_some hr
 obtain⟨s,rfl⟩: ∃s,v=.str s:=by cases v<;>first|exact⟨_,rfl⟩|exact(fail_some hr).elim
 obtain⟨hq,hr⟩:=req_some hr
 obtain rfl:=val_some hr
 have hlt:m.toNat<s.length:=of_decide_eq_true hq
 obtain⟨j,hj,hf⟩:=bind_some hf
 have htj:=hT.at (TI_some hj)
 obtain⟨d,hd,hut⟩:=htj.und
 have hds:d=.string:=by
  split at hf<;>first|exact(fail_some hf).elim|skip
  all_goals rename_i h1 h2
  all_goals first|(cases h2;done)|(rw[h1]at hut;exact und_str hut.symm)|skip
  all_goals simp_all
 subst hds
 refine Did.pure h (v:=.int .u8 (s.getD m.toNat 0).toNat) ?_ (.sc ⟨rfl,by
  have:=(s.getD m.toNat 0).toNat_lt
  simp only[fitsK,Bool.and_eq_true,decide_eq_true_eq]
  omega⟩ emp_none2)
 obtain⟨_,op,_,_,_,_⟩:=o
 subst ho
 simp only[execOp]
 refine run_v ?_
 have hg:(ByteArray.mk s.toArray)[m.toNat]? =some (s.getD m.toNat 0):=by
  have:m.toNat<(ByteArray.mk s.toArray).size:=by simpa[ByteArray.size]using hlt
  rw[getElem?_pos (ByteArray.mk s.toArray) m.toNat this]
  simp[ByteArray.getElem_eq_getElem_data,hlt]
 simp only[hi.inv_int,hv.inv_str,Instr.index,Sem.run_bind,run_asIntOf,Result.andThen_ok,run_underlying hd,hm0,if_true,hg]
 rfl
theorem did_maxmin(h:RelC E st a w X loc ob){c:Call}(ho:o.op=.call c)(hc:c.callee=.builtin .max∨c.callee=.builtin .min)
  (hr:(evBuiltin T (match c.callee with| .builtin b=>b|_=>.len) c o).run st=some r):Did P E o st a w X r:=by
 have fin: ∀(mx:Bool)(vs:List AV),(opnds c.args.toList).run st=some vs→ ∀y,(if mx=true then mxA vs else mnA vs).run st=some y→r=(y,[])→
   c.callee=.builtin (if mx=true then .max else .min)→Did P E o st a w X r:=by
  intro mx vs hvs y hy hre hcal
  obtain⟨hl,hx⟩:=opnds_some h hvs
  have: ∃k x k' y',k=k'∧vs=[.int k x,.int k' y']∧y=if mx=true then .int k (if y'>x then y' else x)else .int k (if y'<x then y' else x):=by
   cases mx
   ·simp only[Bool.false_eq_true,if_false]at hy⊢
    unfold mnA at hy
    split at hy
    ·split at hy
     ·rename_i hkk
      exact⟨_,_,_,_,hkk,rfl,(ret_some hy).symm⟩
     ·exact(fail_some hy).elim
    ·exact(fail_some hy).elim
   ·simp only[if_true]at hy⊢
    unfold mxA at hy
    split at hy
    ·split at hy
     ·rename_i hkk
      exact⟨_,_,_,_,hkk,rfl,(ret_some hy).symm⟩
     ·exact(fail_some hy).elim
    ·exact(fail_some hy).elim
  obtain⟨k,x,k',y',hkk,rfl,rfl⟩:=this
  obtain⟨a1,a2,hargs⟩: ∃a1 a2,c.args.toList=[a1,a2]:=by
   match c.args.toList,hl with
   |[a1,a2],_=>exact⟨a1,a2,rfl⟩
  have e1:=(hx 0 (.int k x) a1 (by simp) (by simp[hargs])).inv_int
  have e2:=(hx 1 (.int k' y') a2 (by simp) (by simp[hargs])).inv_int
  have hca:c.args=#[a1,a2]:=by
   have:=congrArg List.toArray hargs
   simpa using this
  subst hre
  refine Did.pure h (v:=if mx=true then .int k (if y'>x then y' else x)else .int k (if y'<x then y' else x)) ?_ (by
   have f1:=(hx 0 (.int k x) a1 (by simp) (by simp[hargs])).fits
   have f2:=(hx 1 (.int k' y') a2 (by simp) (by simp[hargs])).fits
   rw[←hkk]at f2
   cases mx<;>simp only[if_true,Bool.false_eq_true,if_false]<;>refine .sc ⟨rfl,?_⟩ emp_none2<;>split<;>assumption)
  obtain⟨_,op,_,_,_,_⟩:=o
  subst ho
  simp only[execOp,resolve,hcal,hca,invoke]
  cases mx
  ·simp[builtin,Builtin.min_,Builtin.min2,e1,e2,Sem.run_bind,pure,Sem.run,Result.andThen_ok,bind,Sem.bind]
  ·simp[builtin,Builtin.max_,Builtin.max2,e1,e2,Sem.run_bind,pure,Sem.run,Result.andThen_ok,bind,Sem.bind]
 rcases hc with hc|hc
 ·rw[hc]at hr
  obtain⟨vs,h1,hr⟩:=bind_some hr
  obtain⟨y,h2,hr⟩:=bind_some hr
  exact fin true vs h1 y (by simpa using h2) (val_some hr) (by simpa using hc)
 ·rw[hc]at hr
  obtain⟨vs,h1,hr⟩:=bind_some hr
  obtain⟨y,h2,hr⟩:=bind_some hr
  exact fin false vs h1 y (by simpa using h2) (val_some hr) (by simpa using hc)
theorem fits_some(hT:T.ok P){t:TypeId}{v:AV}(hf:(fitsA T t v).run st=some ()): ∃i d,T.get t=some i∧P.underlying t=some d∧i.ut=utOf d∧
  ((∃e,d=.slice e∧((∃b off n,v=.ref b off n)∨(∃z rows,v=.ro z rows)∨v=.emp))∨
   (∃n e b x y blk,d=.array n e∧v=.ptr b x y∧st.m b=.live blk∧blk.arr=true∧blk.rows.length=n)∨(d=.string∧ ∃s,v=.str s)):=by
 obtain⟨i,hi,hf⟩:=bind_some hf
 have hti:=hT.at (TI_some hi)
 obtain⟨d,hd,hut⟩:=hti.und
 refine⟨i,d,TI_some hi,hd,hut,?_⟩
 cases hu:i.ut with
 |slice e=>
  rw[hu]at hf hut
  refine .inl ⟨e,und_slice hut.symm,?_⟩
  cases v<;>first|exact(fail_some hf).elim|exact .inl ⟨_,_,_,rfl⟩|exact .inr (.inl ⟨_,_,rfl⟩)|exact .inr (.inr rfl)
 |array n e=>
  rw[hu]at hf hut
  refine .inr (.inl ?_)
  cases v with
  |ptr b x y=>
   have hf:=mem_some hf
   obtain⟨blk,h1,hf⟩:=bind_some hf
   have:=(req_some hf).1
   simp only[Bool.and_eq_true,beq_iff_eq]at this
   exact⟨n,e,b,x,y,blk,und_array hut.symm,rfl,live_some h1,this.1,this.2⟩
  |_=>exact(fail_some hf).elim
 |str=>
  rw[hu]at hf hut
  refine .inr (.inr ⟨und_str hut.symm,?_⟩)
  cases v<;>first|exact(fail_some hf).elim|exact⟨_,rfl⟩
 |_=>rw[hu]at hf;exact(fail_some hf).elim
theorem arrA_some{v u:AV}(ha:(arrA v).run st=some u):(u=v∧ ∀b i j,v≠.ptr b i j)∨ ∃b blk,v=.ptr b 0 0∧st.m b=.live blk∧blk.arr=true∧u=.ref b 0 blk.rows.length:=by
 cases v with
 |ptr b i j=>
  cases i with
  |zero=>
   cases j with
   |zero=>
    right
    have ha:=mem_some ha
    obtain⟨blk,h1,ha⟩:=bind_some ha
    obtain⟨h1,h2⟩:=arrB_some h1
    exact⟨b,blk,rfl,h1,h2,(ret_some ha).symm⟩
   |succ j=>exact(fail_some ha).elim
  |succ i=>exact(fail_some ha).elim
 |_=>exact .inl ⟨(ret_some ha).symm,fun _ _ _ h=>by cases h⟩
theorem elemI_some(hT:T.ok P){t:TypeId}{e:TI}{d:TypeDesc}{i:TI}(hi:T.get t=some i)(hut:i.ut=utOf d)(he:(elemI T t).run st=some e):
  ∃el,TIok P el e∧T.get el=some e∧(d=.slice el∨ ∃n,d=.array n el):=by
 obtain⟨el,h1,he⟩:=bind_some he
 unfold elemT at h1
 rw[hi]at h1
 simp only at h1
 have htj:=TI_some he
 refine⟨el,hT.at htj,htj,?_⟩
 split at h1
 ·rename_i x hu
  obtain rfl:=ret_some h1
  exact .inl (und_slice (by rw[←hut];exact hu))
 ·rename_i n x hu
  obtain rfl:=ret_some h1
  exact .inr ⟨n,und_array (by rw[←hut];exact hu)⟩
 ·exact(fail_some h1).elim
theorem BR.width{R:Cells}{loc:Locs}{b:Nat}{blk:Blk}{O:Cells}(h:BR w R loc b blk O){l:Loc}(hl:loc b=some l):l.s=blk.z.length∧l.n=blk.rows.length:=by
 cases h with
 |arr0 l' hl' hn hs hb e=>rw[hl]at hl';injection hl' with hl';subst hl';exact⟨hs,by simpa using hn⟩
 |arr l' vs os hl' hbd hs hn _ _ _ _ _ _ _ _ _=>rw[hl]at hl';injection hl' with hl';subst hl';exact⟨hs,hn⟩
 |var l' vs os hl' hbd hs hn hz _ _ _ _ _ _=>rw[hl]at hl';injection hl' with hl';subst hl';exact⟨hs,by simpa using hn⟩
theorem did_indexAddr(hT:T.ok P)(h:RelC E st a w X loc ob){t:TypeId}{x i:Operand}(ho:o.op=.indexAddr t x i)(hr:(evIndexAddr T t x i).run st=some r):Did P E o st a w X r:=by
 obtain⟨iv,hi,hr⟩:=bind_some hr
 have hi:=opnd_some h hi
 obtain⟨n,hn,hr⟩:=bind_some hr
 obtain⟨k,m,rfl,hm0,rfl⟩:=asNat_some hn
 obtain⟨xv,hx,hr⟩:=bind_some hr
 have hx:=opnd_some h hx
 obtain⟨_,hf,hr⟩:=bind_some hr
 obtain⟨ti,d,hti,hd,hut,hfit⟩:=fits_some hT hf
 obtain⟨e,he,hr⟩:=bind_some hr
 obtain⟨el,hel,_,hde⟩:=elemI_some hT hti hut he
 obtain⟨v,hv,hr⟩:=bind_some hr
 have hw:=hel.size w
 -- the machine's own way, over a slice and over an array's address
 have keyS: ∀(g off len cap:Nat),d=.slice el→a.eval x=.slice (some ⟨g,off,none⟩) len cap→m<len→(execOp a.eval o).run P w=.ok (.value (.pointer (some ⟨g,off+m.toNat*e.size,none⟩))) w:=by
  intro g off len cap hde hax hlt
  obtain⟨_,op,_,_,_,_⟩:=o
  subst ho
  subst hde
  simp only[execOp]
  refine run_v ?_
  have hc:0≤m∧m<(len:Int):=⟨hm0,hlt⟩
  simp only[Instr.indexAt,hi.inv_int,hax,Sem.run_bind,run_asIntOf,run_underlying hd,Result.andThen_ok]
  simp only[pure,Sem.run,Result.andThen_ok,hc,and_self,if_true,Sem.run_bind,hw,add_plain']
 have keyA: ∀(g off len:Nat),d=.array len el→a.eval x=.pointer (some ⟨g,off,none⟩)→m<len→(execOp a.eval o).run P w=.ok (.value (.pointer (some ⟨g,off+m.toNat*e.size,none⟩))) w:=by
  intro g off len hde hax hlt
  obtain⟨_,op,_,_,_,_⟩:=o
  subst ho
  subst hde
  simp only[execOp]
  refine run_v ?_
  have hc:0≤m∧m<(len:Int):=⟨hm0,hlt⟩
  simp only[Instr.indexAt,hi.inv_int,hax,Sem.run_bind,run_asIntOf,run_underlying hd,Result.andThen_ok,Instr.sureAddr]
  simp only[pure,Sem.run,Result.andThen_ok,hc,and_self,if_true,Sem.run_bind,hw,add_plain']
 rcases arrA_some hv with⟨rfl,hnp⟩|⟨b,blk,rfl,hm,harr,rfl⟩
 ·cases v with
  |ref b off len=>
   have hr:=mem_some hr
   obtain⟨blk,hm,hr⟩:=bind_some hr
   obtain⟨hm,harr⟩:=arrB_some hm
   obtain⟨hq,hr⟩:=req_some hr
   simp only[Bool.and_eq_true,beq_iff_eq,decide_eq_true_eq]at hq
   obtain rfl:=val_some hr
   obtain⟨l,hl,hn,ad,cap,hav,hcap,hcase⟩:=hx.inv_ref
   rcases hcase with⟨h0,_⟩|⟨hbd,rfl,hbf⟩
   ·omega
   ·have hs:=((h.lv b blk hm).width hl).1
    have hds:d=.slice el:=by
     rcases hfit with⟨e',rfl,_⟩|⟨_,_,_,_,_,_,_,h1,_⟩|⟨rfl,_⟩
     ·rcases hde with h1|⟨_,h1⟩
      ·exact h1
      ·cases h1
     ·cases h1
     ·rcases hde with h1|⟨_,h1⟩<;>cases h1
    refine Did.pure h (keyS _ _ _ _ hds hav (by omega)) ?_
    have:=AR.ptr (w:=w) (R:=RS E w (Owned ob X)) (loc:=loc) (b:=b) (i:=off+m.toNat) (j:=0) (O:=none2) l emp_none2 hl hbd (by omega)
    rw[hs,hq.1]at this⊢
    rw[Nat.add_mul]at this
    simpa[Nat.add_assoc]using this
  |ro z rows=>
   obtain⟨hq,hr⟩:=req_some hr
   simp only[Bool.and_eq_true,beq_iff_eq,decide_eq_true_eq]at hq
   obtain rfl:=val_some hr
   obtain⟨ad,cap,hav,hcap,hcase⟩:=hx.inv_ro
   rcases hcase with rfl|⟨g,off,vs,hl,rfl,hg,hW,hc,hxx,_⟩
   ·simp at hq
   ·have hds:d=.slice el:=by
     rcases hfit with⟨e',rfl,_⟩|⟨_,_,_,_,_,_,_,h1,_⟩|⟨rfl,_⟩
     ·rcases hde with h1|⟨_,h1⟩
      ·exact h1
      ·cases h1
     ·cases h1
     ·rcases hde with h1|⟨_,h1⟩<;>cases h1
    refine Did.pure h (keyS _ _ _ _ hds hav (by omega)) ?_
    have hrow:rowA rows m.toNat z=rows[m.toNat]:=by simp[rowA,hq.2]
    rw[hrow]
    have hlen:=hW.len rows[m.toNat] (List.getElem_mem hq.2)
    rw[←hq.1]
    have:=AR.rp (w:=w) (R:=RS E w (Owned ob X)) (loc:=loc) (row:=rows[m.toNat]) (j:=0) (g:=g) (o:=off+m.toNat*z.length) (O:=none2) (fun k=>vs m.toNat k) emp_none2 hg (hW.known _ (List.getElem_mem hq.2))
     (fun k hk=>hc m.toNat k hq.2 (by omega)) (fun k x hk=>hxx m.toNat k _ x (by simp[hq.2]) hk)
    simpa using this
  |ptr b i j=>exact absurd rfl (hnp b i j)
  |_=>exact(fail_some hr).elim
 ·have hr:=mem_some hr
  obtain⟨blk',hm',hr⟩:=bind_some hr
  obtain⟨hm',harr'⟩:=arrB_some hm'
  rw[hm]at hm'
  injection hm' with hm'
  subst hm'
  obtain⟨hq,hr⟩:=req_some hr
  simp only[Bool.and_eq_true,beq_iff_eq,decide_eq_true_eq]at hq
  obtain rfl:=val_some hr
  obtain⟨l,hl,hbd,hi0,hav⟩:=hx.inv_ptr
  obtain⟨hs,hln⟩:=(h.lv b blk hm).width hl
  have hda: ∃n,d=.array n el∧blk.rows.length=n:=by
   rcases hfit with⟨e',rfl,h1⟩|⟨n,e',b',x',y',blk',rfl,h1,h2,_,h3⟩|⟨rfl,_,h1⟩
   ·rcases h1 with⟨_,_,_,h1⟩|⟨_,_,h1⟩|h1<;>cases h1
   ·injection h1 with h1
    subst h1
    rw[hm]at h2
    injection h2 with h2
    subst h2
    rcases hde with h1|⟨_,h1⟩
    ·cases h1
    ·injection h1 with h1 h4
     subst h4
     exact⟨n,rfl,h3⟩
   ·cases h1
  obtain⟨n,hda,hn⟩:=hda
  refine Did.pure h (keyA l.g (l.base+0*l.s+0) n hda hav (by omega)) ?_
  have:=AR.ptr (w:=w) (R:=RS E w (Owned ob X)) (loc:=loc) (b:=b) (i:=0+m.toNat) (j:=0) (O:=none2) l emp_none2 hl hbd (by omega)
  rw[hs,hq.1]at this⊢
  simpa[Nat.add_assoc]using this
end
end Go.Abs
