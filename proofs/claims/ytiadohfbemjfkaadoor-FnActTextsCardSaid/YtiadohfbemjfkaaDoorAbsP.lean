/- The abstract layer, 5: each operation does what `evOp` says: those that only compute, read or lay. -/
import Derived.Test.YtiadohfbemjfkaaDoorAbsO
set_option linter.unusedVariables false
set_option linter.unusedSimpArgs false
noncomputable section
namespace Go.Abs
open Go
def Did(P:Program)(E:Env)(o:Oper)(st:St)(a:Act)(w:World)(X:Cells)(r:Res):Prop:=
 ∃nx v w' loc' ob',(execOp a.eval o).run P w=.ok nx w'∧(nx=.value v∨(nx=.skip∧v=undef))∧RelC E (st.mws r.2) a w' X loc' ob'∧AR w' (RS E w' (Owned ob' X)) loc' r.1 v none2
section
variable{P:Program}{T:TT}{E:Env}{o:Oper}{st:St}{a:Act}{w:World}{X:Cells}{loc:Locs}{ob:Nat→Cells}{r:Res}
theorem run_v{s:Sem Value}{v:Value}{w w':World}(h:s.run P w=.ok v w'):(do pure (Next.value (←s)):Sem Next).run P w=.ok (.value v) w':=by
 simp only[Sem.run_bind,h,Result.andThen_ok]
 rfl
theorem Did.pure(h:RelC E st a w X loc ob){v:Value}{x:AV}(he:(execOp a.eval o).run P w=.ok (.value v) w)(hx:AR w (RS E w (Owned ob X)) loc x v none2):Did P E o st a w X (x,[]):=
 ⟨_,v,w,loc,ob,he,.inl rfl,h,hx⟩
theorem did_move(h:RelC E st a w X loc ob){x:Operand}(ho:o.op=.move x∨o.op=.assign x)(hr:((opnd x).bind val).run st=some r):Did P E o st a w X r:=by
 obtain⟨v,h1,h2⟩:=bind_some hr
 obtain rfl:=val_some h2
 refine Did.pure h (v:=a.eval x) ?_ (opnd_some h h1)
 obtain⟨d,op,_,_,_,_⟩:=o
 rcases ho with rfl|rfl<;>rfl
theorem did_pick(h:RelC E st a w X loc ob){c x y:Operand}(ho:o.op=.pick c x y)(hr:(evPick c x y).run st=some r):Did P E o st a w X r:=by
 obtain⟨cv,h1,h2⟩:=bind_some hr
 have hc:=opnd_some h h1
 cases cv<;>try exact(fail_some h2).elim
 rename_i t
 obtain⟨xv,h3,h2⟩:=bind_some h2
 obtain⟨yv,h4,h2⟩:=bind_some h2
 obtain rfl:=val_some h2
 have hx:=opnd_some h h3
 have hy:=opnd_some h h4
 have hb:a.eval c=.bool t:=hc.inv_bool
 refine Did.pure h (v:=if t=true then a.eval x else a.eval y) ?_ ?_
 ·obtain⟨d,op,_,_,_,_⟩:=o
  subst ho
  simp only[execOp,hb,asBool,Sem.run_bind]
  cases t<;>rfl
 ·cases t<;>simpa
theorem newB_some{d:Nat}{k:RP Res}{st:St}{r:Res}(h:(newB d k).run st=some r):st.m d=.abs∧k.run st=some r:=by
 unfold newB at h
 have:=mem_some h
 cases hm:st.m d with
 |abs=>rw[hm]at this;exact⟨rfl,this⟩
 |_=>rw[hm]at this;exact(fail_some this).elim
theorem dstOf_some{k:Nat→RP Res}(h:(dstOf o k).run st=some r): ∃d,o.dst=some d∧(k d).run st=some r:=by
 unfold dstOf at h
 split at h
 ·exact⟨_, ‹_›,h⟩
 ·exact(fail_some h).elim
theorem run_newVar(t:TypeId)(v:Value)(w:World):(newVar t v).run P w=.ok ⟨w.heap.size,0,none⟩ (World.push w (.cells v.cells t)):=rfl
theorem run_newRow(t:TypeId)(c:Array Value)(w:World):(newRow t c).run P w=.ok ⟨w.heap.size,0,none⟩ (World.push w (.cells c t)):=rfl
theorem did_box(h:RelC E st a w X loc ob){t:TypeId}{x:Operand}(ho:o.op=.box t x){d:Nat}(hr:(evBox x d).run st=some r):Did P E o st a w X r:=by
 obtain⟨hd,hr⟩:=newB_some hr
 obtain⟨v,h1,hr⟩:=bind_some hr
 obtain⟨hl,hr⟩:=req_some hr
 obtain rfl:=ret_some hr
 have hv:=opnd_some h h1
 obtain⟨hlen,hone,hx⟩:=hv.leaves hl
 obtain⟨ob',h2,h3,h4⟩:=h.newVar hd (cs:=v.leaves) (cells:=(a.eval x).cells.toList) t hlen hx
 refine⟨_,_,_,_,ob',?_,.inl rfl,h2,h4⟩
 obtain⟨_,op,_,_,_,_⟩:=o
 subst ho
 simp only[execOp,Instr.box]
 refine run_v ?_
 simp only[Sem.run_bind,run_newVar,Result.andThen_ok]
 simp only[Array.toArray_toList]
 rfl
theorem zero_leaf{R:Cells}{loc:Locs}{z:Value}{l:List AV}(hl:l=z.cells.toList.map ofVal): ∀(k:Nat) y c,l[k]? =some y→z.cells.toList[k]? =some c→AR w R loc y c none2:=by
 intro k y c hy hc
 subst hl
 simp only[List.getElem?_map,hc,Option.map_some]at hy
 injection hy with hy
 subst hy
 exact AR.ofVal c
theorem did_alloc(hT:T.ok P)(h:RelC E st a w X loc ob){t:TypeId}(ho:o.op=.alloc t){d:Nat}(hr:(evAlloc T t d).run st=some r):Did P E o st a w X r:=by
 obtain⟨hd,hr⟩:=newB_some hr
 obtain⟨i,hi,hr⟩:=bind_some hr
 have hti:=hT.at (TI_some hi)
 obtain⟨z,hz,hzs,hzl⟩:=hti.zeroV w
 have he:(execOp a.eval o).run P w=.ok (.value (.pointer (some ⟨w.heap.size,0,none⟩))) (World.push w (.cells z.cells t)):=by
  obtain⟨_,op,_,_,_,_⟩:=o
  subst ho
  simp only[execOp,Instr.alloc]
  refine run_v ?_
  simp only[Sem.run_bind,hz,run_newVar,Result.andThen_ok]
  rfl
 split at hr
 ·rename_i n e hu
  obtain⟨j,hj,hr⟩:=bind_some hr
  have htj:=hT.at (TI_some hj)
  obtain⟨hq,hr⟩:=req_some hr
  obtain rfl:=ret_some hr
  simp only[Bool.and_eq_true,beq_iff_eq,decide_eq_true_eq,List.all_eq_true]at hq
  obtain⟨⟨⟨⟨hs,hj0⟩,hn0⟩,hnm⟩,hfl⟩:=hq
  have hzl':i.zero.length=n*j.size:=by rw[hti.zlen,hs]
  have hjl:=htj.zlen
  let rows:=(List.range n).map fun k=>(i.zero.drop (k*j.size)).take j.size
  have hrow: ∀k,k<n→rows[k]? =some ((i.zero.drop (k*j.size)).take j.size):=fun k hk=>by simp[rows,hk]
  have hrl:rows.length=n:=by simp[rows]
  have hsub: ∀row∈rows,∀x∈row,x∈i.zero:=by
   intro row hr x hx
   simp only[rows,List.mem_map]at hr
   obtain⟨k,_,rfl⟩:=hr
   exact List.mem_of_mem_drop (List.mem_of_mem_take hx)
  have hW:Wide j.zero rows:=by
   refine⟨fun row hr=> ?_,fun row hr x hx=>light_known (plain_light (flat_plain (hfl x (hsub row hr x hx))))⟩
   simp only[rows,List.mem_map,List.mem_range]at hr
   obtain⟨k,hk,rfl⟩:=hr
   rw[List.length_take,List.length_drop,hzl',hjl]
   have:(k+1)*j.size≤n*j.size:=Nat.mul_le_mul_right _ hk
   rw[Nat.add_mul,Nat.one_mul]at this
   omega
  have hzc:z.cells.size=n*j.size:=by rw[hzs,hs]
  obtain⟨ob',h2,h3,h4⟩:=h.newArr hd (lvl:=0) (z:=j.zero) (rows:=rows) z.cells t (0,0) (fun i _ h=>by simp at h) hW (by rw[hrl,hjl,hzc];exact Nat.le_refl _)
   (fun i' k row x h1 h2=>by
    have hi':i'<n:=by rw[←hrl];exact(List.getElem?_eq_some_iff.1 h1).1
    rw[hrow i' hi']at h1
    injection h1 with h1
    subst h1
    rw[List.getElem?_take]at h2
    split at h2
    ·rename_i hk
     rw[List.getElem?_drop]at h2
     rw[hjl]
     have hlt:i'*j.size+k<z.cells.size:=by
      have:=(List.getElem?_eq_some_iff.1 h2).1
      rw[hzl',←hzc]at this
      exact this
     have:z.cells.toList[i'*j.size+k]? =some (z.cells.getD (i'*j.size+k) undef):=by simp[hlt]
     exact zero_leaf hzl _ _ _ h2 this
    ·cases h2)
   (fun _ row hr x hx=>hfl x (hsub row hr x hx)) (fun _ row hr x hx=>flat_plain (hfl x (hsub row hr x hx))) (by rw[hrl];exact hnm)
  refine⟨_,_,_,_,ob',he,.inl rfl,h2,?_⟩
  exact AR.ptr00 ⟨w.heap.size,0,j.zero.length,rows.length,true⟩ emp_none2 (by simp[upd]) rfl (by simp[hrl,hn0])
 ·obtain rfl:=ret_some hr
  obtain⟨ob',h2,h3,h4⟩:=h.newVar hd (cs:=i.zero) (cells:=z.cells.toList) t (by rw[hzl];simp) (zero_leaf hzl)
  exact⟨_,_,_,_,ob',he,.inl rfl,h2,h4⟩
theorem did_nil(h:RelC E st a w X loc ob){x:Operand}(ho:o.op=.nilCheck x)(hr:(evNilCheck x).run st=some r):Did P E o st a w X r:=by
 obtain⟨v,h1,hr⟩:=bind_some hr
 have hv:=opnd_some h h1
 have key:(∃ad,a.eval x=.pointer (some ad))→(execOp a.eval o).run P w=.ok (.value (a.eval x)) w:=by
  rintro ⟨ad,hp⟩
  obtain⟨_,op,_,_,_,_⟩:=o
  subst ho
  simp only[execOp,hp]
  rfl
 cases v<;>try exact(fail_some hr).elim
 ·obtain rfl:=val_some hr
  exact Did.pure h (key (by obtain⟨l,_,_,_,e⟩:=hv.inv_ptr;exact⟨_,e⟩)) hv
 ·obtain rfl:=val_some hr
  exact Did.pure h (key (by obtain⟨_,_,_,_,_,_,_,e⟩:=hv.inv_rp;exact⟨_,e⟩)) hv
theorem did_extract(h:RelC E st a w X loc ob){x:Operand}{i:Nat}(ho:o.op=.extract x i)(hr:(evExtract x i).run st=some r):Did P E o st a w X r:=by
 obtain⟨v,h1,hr⟩:=bind_some hr
 have hv:=opnd_some h h1
 cases v<;>try exact(fail_some hr).elim
 rename_i vs
 obtain⟨y,h2,hr⟩:=bind_some hr
 have hy:=ofOpt_some h2
 obtain rfl:=val_some hr
 generalize hev:a.eval x=ev at hv
 cases hv with
 |sc h _=>exact h.elim
 | @tup _ _ cvs _ os hn hx hu=>
  have hi:i<vs.length:=(List.getElem?_eq_some_iff.1 hy).1
  have hi':i<cvs.size:=by omega
  have hc:cvs[i]? =some cvs[i]:=by simp[hi']
  have:=hx i y cvs[i] hy hc
  refine Did.pure h (v:=cvs[i]) ?_ (this.emp_weak (fun g o ho=>(hu.iff g o).2 ⟨i,hi,ho⟩) emp_none2)
  obtain⟨_,op,_,_,_,_⟩:=o
  subst ho
  simp only[execOp]
  refine run_v ?_
  simp only[hev,Instr.extract,hc]
  rfl
theorem did_makeFunc(h:RelC E st a w X loc ob){fn:Fn}{first caps:Array Operand}(ho:o.op=.makeFunc fn first caps)(hr:(evMakeFunc fn first.toList caps.toList).run st=some r):Did P E o st a w X r:=by
 unfold evMakeFunc at hr
 split at hr
 ·rename_i f hfirst
  obtain⟨vs,h1,hr⟩:=bind_some hr
  obtain rfl:=val_some hr
  obtain⟨hl,hx⟩:=opnds_some h h1
  refine Did.pure h (v:=.func (.func f) #[] (caps.map a.eval)) ?_ ?_
  ·obtain⟨_,op,_,_,_,_⟩:=o
   subst ho
   have hf:first=#[]:=by simpa using hfirst
   subst hf
   simp only[execOp,Instr.makeFunc,Array.map_empty]
   rfl
  ·refine .fn (fun _=>none2) (by simp[hl]) (fun k x v h2 h3=> ?_) ⟨fun g o=>⟨fun k=>k.elim,fun⟨_,_,k⟩=>k.elim⟩,fun _ _ _ _ _ _ _ k=>k.elim⟩
   simp only[Array.getElem?_map]at h3
   cases hc:caps[k]? with
   |none=>rw[hc]at h3;cases h3
   |some op=>
    rw[hc]at h3
    injection h3 with h3
    subst h3
    exact hx k x op h2 (by simpa using hc)
 ·exact(fail_some hr).elim
theorem did_un(h:RelC E st a w X loc ob){op:UnOp}{t:TypeId}{x:Operand}(ho:o.op=.unOp op t x)(hr:((opnd x).bind fun a=>(unA op a).bind val).run st=some r):Did P E o st a w X r:=by
 obtain⟨v,h1,hr⟩:=bind_some hr
 have hv:=opnd_some h h1
 obtain⟨y,h2,hr⟩:=bind_some hr
 obtain rfl:=val_some hr
 have key: ∀u,(Op.unary op (a.eval x)).run P w=.ok u w→(execOp a.eval o).run P w=.ok (.value u) w:=by
  intro u hu
  obtain⟨_,op,_,_,_,_⟩:=o
  subst ho
  exact run_v hu
 cases v<;>try exact(fail_some h2).elim
 ·rename_i k n
  have hev:a.eval x=.int k n:=hv.inv_int
  cases op<;>try exact(fail_some h2).elim
  obtain rfl:=ret_some h2
  exact Did.pure h (key _ (by rw[hev];rfl)) (.sc ⟨rfl,fits_wrap _ _⟩ emp_none2)
 ·rename_i b
  have hev:a.eval x=.bool b:=hv.inv_bool
  cases op<;>try exact(fail_some h2).elim
  obtain rfl:=ret_some h2
  exact Did.pure h (key _ (by rw[hev];rfl)) (.sc rfl emp_none2)
end
end Go.Abs
