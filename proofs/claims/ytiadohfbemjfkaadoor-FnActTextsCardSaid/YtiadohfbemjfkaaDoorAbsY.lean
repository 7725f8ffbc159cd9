/- The abstract layer, 12: copy and append. -/
import Derived.Test.YtiadohfbemjfkaaDoorAbsX
import Derived.Laws.AppendOwn
set_option linter.unusedVariables false
set_option linter.unusedSimpArgs false
noncomputable section
namespace Go.Abs
open Go
section
variable{P:Program}{T:TT}{E:Env}{o:Oper}{st:St}{a:Act}{w:World}{X:Cells}{loc:Locs}{ob:Nat→Cells}{r:Res}
theorem RelC.setArr0(h:RelC E st a w X loc ob){b lvl:Nat}{z:List AV}(hm:st.m b=.live ⟨true,lvl,z,[]⟩)(lvl':Nat):RelC E (st.mws [(b,.live ⟨true,lvl',z,[]⟩)]) a w X loc ob:=by
 refine h.go none2 rfl rfl (Frame.refl w _) (fun g o k=>⟨.inl k,h.lt g o k⟩) (fun _ _ k=>k.elim) (fun _ _ k=>k) (fun b'=> ?_) h.db h.dx
 by_cases hbb:b'=b
 ·subst hbb
  right
  simp only[St.mws,upd,if_true,BF1]
  have hat:=h.lv b' _ hm
  generalize ob b'=O at hat
  cases hat with
  |arr0 l hl hn hs hbd e=>exact .arr0 l hl hn hs hbd e
  |arr l vs os hl hbd hs hn hb hw hc hx hO hd hdd h0 h1 hm=>exact .arr l vs os hl hbd hs hn hb hw hc hx hO hd hdd (fun _ _ k=>by simp at k) (fun _ _ k=>by simp at k) hm
 ·left
  exact⟨by simp[St.mws,upd,hbb],rfl,rfl,fun _ _ k=>k.elim⟩
theorem cutRows_get(rows new:List (List AV))(off n i:Nat)(h:off+n≤rows.length):
  (rows.take off++new.take n++rows.drop (off+min new.length n))[i]? =if off≤i∧i<off+min new.length n then new[i-off]? else rows[i]? :=by
 by_cases h1:i<off
 ·rw[if_neg (by omega),List.append_assoc,List.getElem?_append_left (by rw[List.length_take];omega),List.getElem?_take,if_pos h1]
 ·by_cases h2:i<off+min new.length n
  ·rw[if_pos (by omega),List.getElem?_append_left (by rw[List.length_append,List.length_take,List.length_take];omega),List.getElem?_append_right (by rw[List.length_take];omega)]
   rw[List.length_take,List.getElem?_take,show min off rows.length=off by omega,if_pos (by omega)]
  ·rw[if_neg (by omega),List.getElem?_append_right (by rw[List.length_append,List.length_take,List.length_take];omega),List.getElem?_drop]
   congr 1
   rw[List.length_append,List.length_take,List.length_take]
   omega
theorem did_copy(hT:T.ok P)(h:RelC E st a w X loc ob){c:Call}(ho:o.op=.call c)(hc:c.callee=.builtin .copy)(hr:(evBuiltin T .copy c o).run st=some r):Did P E o st a w X r:=by
 simp only[evBuiltin]at hr
 split at hr
 case h_2=>exact(fail_some hr).elim
 rename_i s x hargs
 obtain⟨t,hat,hr1⟩:=argT_some hr
 obtain⟨u,hau,hr2⟩:=argT_some hr1
 obtain⟨e,he,hr3⟩:=bind_some hr2
 obtain⟨el,hdt,hel,_⟩:=sliceI_some hT he
 obtain⟨_,hsrc,hr4⟩:=bind_some hr3
 obtain⟨xv,hxv,hr5⟩:=bind_some hr4
 have hxv:=opnd_some h hxv
 obtain⟨rs,hrs,hr6⟩:=bind_some hr5
 obtain⟨sv,hsv,hr7⟩:=bind_some hr6
 have hsv:=opnd_some h hsv
 obtain⟨hq0,hr8⟩:=req_some hr7
 have hs0:0<e.size:=of_decide_eq_true hq0
 have hzlen:=hel.zlen
 obtain⟨news,hR⟩:=rowsOf_some (P:=P) h hxv hrs (by omega)
 rw[hzlen]at hR
 have hca:c.args=#[s,x]:=by have:=congrArg List.toArray hargs;simpa using this
 have hm':c.args.map a.eval=#[a.eval s,a.eval x]:=by simp[hca]
 have hrun: ∀(ad:Option Addr)(len cap:Nat)(w':World),a.eval s=.slice ad len cap→
   (match ad with|some ad=>storeCells ad ((news.take (min rs.2.length len*e.size)))|none=>Sem.pure ()).run P w=.ok () w'→
   (execOp a.eval o).run P w=.ok (.value (.int .i64 (min rs.2.length len:Nat))) w':=by
  intro ad len cap w' hav hst
  obtain⟨_,op,ty,_,_,_⟩:=o
  subst ho
  simp only[execOp]
  rw[run_builtin hc]
  simp only[builtin]
  refine run_v ?_
  rw[hm']
  have hrd:=hR.read (min rs.2.length len) w (by omega) rfl
  have hpure:(Sem.pure rs.2.length:Sem Nat).run P w=.ok rs.2.length w:=rfl
  cases ad with
  |none=>
   simp only[Sem.run_pure]at hst
   injection hst with _ hst
   subst hst
   simp only[Builtin.copy_,List.getElem?_toArray,List.getElem?_cons_zero,List.getElem?_cons_succ,hat,hav,Sem.run_bind,run_underlying hdt,Result.andThen_ok,hR.len,Nat.min_def,hel.size w,Sem.run_pure]at hrd⊢
   simp only[hpure,hel.size w,hrd,Result.andThen_ok,goInt]
  |some ad=>
   simp only at hst
   simp only[Builtin.copy_,List.getElem?_toArray,List.getElem?_cons_zero,List.getElem?_cons_succ,hat,hav,Sem.run_bind,run_underlying hdt,Result.andThen_ok,hR.len,Nat.min_def,hel.size w,Sem.run_pure]at hrd hst⊢
   simp only[hpure,hel.size w,hrd,Result.andThen_ok,goInt,hst]
 cases sv with
 |emp=>
  obtain rfl:=val_some hr8
  obtain⟨ad,hav⟩:=hsv.inv_emp
  refine Did.pure h (v:=.int .i64 0) ?_ (.sc ⟨rfl,rfl⟩ emp_none2)
  have:=hrun ad 0 0 w hav (by cases ad<;>simp[storeCells]<;>rfl)
  simpa using this
 |ref b off n=>
  have hr9:=mem_some hr8
  obtain⟨blk,hm,hr10⟩:=bind_some hr9
  obtain⟨hm,harr⟩:=arrB_some hm
  obtain⟨hq,hr11⟩:=req_some hr10
  simp only[Bool.and_eq_true,beq_iff_eq,decide_eq_true_eq]at hq
  obtain rfl:=ret_some hr11
  obtain⟨l,hl,hn,ad,cap,hav,hcap,hcase⟩:=hsv.inv_ref
  obtain⟨arr,lvl,z,rows⟩:=blk
  simp only at harr hq
  subst harr
  have hat':=h.lv b _ hm
  obtain⟨hs,hln⟩:=hat'.width hl
  simp only at hs hln
  by_cases hmin:min rs.2.length n=0
  ·have hst:(match ad with|some ad=>storeCells ad ((news.take (min rs.2.length n*e.size)))|none=>Sem.pure ()).run P w=.ok () w:=by
    rw[hmin];cases ad<;>simp[storeCells]<;>rfl
   have hrun':=hrun ad n cap w hav hst
   by_cases h0:rows.length=0
   ·have:rows=[]:=List.eq_nil_of_length_eq_zero h0
    subst this
    have hn0:n=0:=by simp at hln;omega
    subst hn0
    refine⟨_,_,w,loc,ob,hrun',.inl rfl,?_,.sc ⟨rfl,fits_len (Nat.le_trans (Nat.min_le_left _ _) hR.max)⟩ emp_none2⟩
    have:=h.setArr0 hm (max lvl rs.1)
    simpa using this
   ·obtain⟨_,_,_,hb,hW,hO,vs,hcc,hcx,hfl,hpl⟩:=hat'.plainArr hq.2 (.inl (by omega)) hl
    have he:rows.take off++rs.2.take n++rows.drop (off+min rs.2.length n)=rows:=by
     have:rs.2.take n=[]:=by apply List.eq_nil_of_length_eq_zero;rw[List.length_take,Nat.min_comm];exact hmin
     rw[this,hmin]
     simp
    obtain⟨h2,h3⟩:=h.setArr hm hq.2 (by omega) hl (lvl':=max lvl rs.1) (rows':=rows) rfl hW (Frame.refl w _)
     (fun i j row x h1 h2=>by
      have hi:i<rows.length:=(List.getElem?_eq_some_iff.1 h1).1
      have hj:j<z.length:=by
       have:=(List.getElem?_eq_some_iff.1 h2).1
       rw[hW.len row (List.mem_of_getElem? h1)]at this
       exact this
      exact⟨_,hcc i j hi hj,hcx i j row x h1 h2⟩)
     (fun h0=>hfl (by omega)) hpl
    refine⟨_,_,w,loc,ob,hrun',.inl rfl,?_,.sc ⟨rfl,fits_len (Nat.le_trans (Nat.min_le_left _ _) hR.max)⟩ emp_none2⟩
    simp only
    rw[he]
    exact h2
  ·have hn0:n≠0:=by omega
   rcases hcase with⟨h1,_⟩|⟨hbd,rfl,hbf⟩
   ·exact absurd h1 hn0
   ·obtain⟨_,_,_,hb,hW,hO,vs,hcc,hcx,hfl,hpl⟩:=hat'.plainArr hq.2 (.inl (by omega)) hl
    have hzs:z.length=e.size:=hq.1
    have hk:min rs.2.length n*e.size≤news.length:=by rw[hR.nlen];exact Nat.mul_le_mul_right _ (Nat.min_le_left _ _)
    have htl:(news.take (min rs.2.length n*e.size)).length=min rs.2.length n*e.size:=by rw[List.length_take];omega
    have hle:(off+min rs.2.length n)*z.length≤rows.length*z.length:=Nat.mul_le_mul_right _ (by omega)
    rw[Nat.add_mul]at hle
    have hbn: ∀k,k<min rs.2.length n*e.size→l.base+off*l.s+k<l.base+rows.length*z.length:=fun k hk=>by rw[hs];rw[←hzs]at hk;omega
    have hst:=run_storeCells_cells (P:=P) l.g (l.base+off*l.s) (news.take (min rs.2.length n*e.size)) 0 w
     (fun k hk=>by
      rw[htl]at hk
      obtain⟨u,hu⟩:=hb.cell (o:=l.base+off*l.s+0+k) (by have:=hbn k hk;omega)
      rw[hu];rfl)
     (fun k hk=>hb.unfrozen (by rw[htl]at hk;have:=hbn k hk;omega)) (fun u hu=>hR.one u (List.mem_of_mem_take hu))
    simp only[Nat.add_zero]at hst
    have hrun':=hrun _ n cap _ hav hst
    have hF:Frame w (w.setCells l.g (l.base+off*l.s) (news.take (min rs.2.length n*e.size))) (fun g _=>g=l.g):=Frame.setCells _ _ _ _ w fun _ _=>rfl
    have hmem: ∀row∈rows.take off++rs.2.take n++rows.drop (off+min rs.2.length n),row∈rows∨row∈rs.2:=by
     intro row hr
     rw[List.mem_append,List.mem_append]at hr
     rcases hr with(hr|hr)|hr
     ·exact .inl (List.mem_of_mem_take hr)
     ·exact .inr (List.mem_of_mem_take hr)
     ·exact .inl (List.mem_of_mem_drop hr)
    have hplain: ∀row∈rows.take off++rs.2.take n++rows.drop (off+min rs.2.length n),∀x∈row,x.plain=true:=by
     intro row hr
     rcases hmem row hr with h1|h1
     ·exact hpl row h1
     ·exact hR.plain row h1
    have hwide:Wide z (rows.take off++rs.2.take n++rows.drop (off+min rs.2.length n)):=by
     refine⟨fun row hr=> ?_,fun row hr x hx=>light_known (plain_light (hplain row hr x hx))⟩
     rcases hmem row hr with h1|h1
     ·exact hW.len row h1
     ·rw[hzs];exact hR.wid row h1
    have hl2:(rows.take off++rs.2.take n++rows.drop (off+min rs.2.length n)).length=rows.length:=by
     simp only[List.length_append,List.length_take,List.length_drop]
     omega
    obtain⟨h2,h3⟩:=h.setArr hm hq.2 (by omega) hl (lvl':=max lvl rs.1) hl2 hwide hF
     (fun i j row x h1 h2=>by
      have hj:j<z.length:=by
       have:=(List.getElem?_eq_some_iff.1 h2).1
       rw[hwide.len row (List.mem_of_getElem? h1)]at this
       exact this
      rw[cutRows_get _ _ _ _ _ (by omega)]at h1
      split at h1
      ·rename_i hin
       have hlt:(i-off)*e.size+j<min rs.2.length n*e.size:=idx_lt (by omega) (by omega)
       have:=World.cell?_setCells_in l.g (news.take (min rs.2.length n*e.size)) (l.base+off*l.s) w (fun k hk=>by
        rw[htl]at hk
        obtain⟨u,hu⟩:=hb.cell (o:=l.base+off*l.s+k) (hbn k hk)
        rw[hu];rfl) ((i-off)*e.size+j) (by rw[htl];exact hlt)
       refine⟨_,?_,hR.at_ (i-off) j row x h1 h2⟩
       have e1:l.base+i*z.length+j=l.base+off*l.s+((i-off)*e.size+j):=by
        rw[hs,←hzs]
        have:i*z.length=off*z.length+(i-off)*z.length:=by rw[←Nat.add_mul];congr 1;omega
        omega
       rw[e1,this,List.getElem_take]
       simp[show(i-off)*e.size+j<news.length by omega]
      ·rename_i hout
       have hi:i<rows.length:=(List.getElem?_eq_some_iff.1 h1).1
       refine⟨vs i j,?_,hcx i j row x h1 h2⟩
       rw[World.cell?_setCells_out l.g _ _ w _ (fun _ _=>by
        simp only
        rw[htl,hs,←hzs]
        by_cases hi':i<off
        ·have:=idx_lt hi' hj
         omega
        ·have:(off+min rs.2.length n)*z.length≤i*z.length:=Nat.mul_le_mul_right _ (by omega)
         rw[Nat.add_mul]at this
         omega)]
       exact hcc i j hi hj)
     (fun h0 row hr=>by
      rcases hmem row hr with h1|h1
      ·exact hfl (by omega) row h1
      ·exact hR.flat (by omega) row h1)
     hplain
    exact⟨_,_,_,loc,ob,hrun',.inl rfl,h2,.sc ⟨rfl,fits_len (Nat.le_trans (Nat.min_le_left _ _) hR.max)⟩ emp_none2⟩
 |_=>exact(fail_some hr8).elim
theorem sem_pure{α:Type}(x:α)(w:World):(Sem.pure x:Sem α).run P w=.ok x w:=rfl
theorem run_append_in{t tx ty el:TypeId}{d:TypeDesc}{i:TI}{R:Cells}{lvl:Nat}{rows:List (List AV)}{news:List Value}{x:Value}(ht:P.underlying t=some (.slice el))(hel:TIok P el i)
  (htx:P.underlying tx=some d)(hd:(∃e,d=.slice e)∨d=.string)(hR:Rows P w R i.size x lvl rows news)(ad:Option Addr)(n cap:Nat)(hroom:n+rows.length≤cap){w':World}
  (hst:(match ad with|some ad=>storeCells (ad.add (n*i.size)) news|none=>Sem.pure ()).run P w=.ok () w'):
  (Builtin.append_ #[t,tx] ty #[.slice ad n cap,x]).run P w=.ok (.slice ad (n+rows.length) cap) w':=by
 have hrd:=hR.read rows.length w (Nat.le_refl _) rfl
 rw[←hR.nlen,List.take_length]at hrd
 have hsz:=hel.size w
 rcases hd with⟨e,rfl⟩|rfl<;>cases ad<;>simp only at hst<;>
  simp[Builtin.append_,run_underlying ht,run_underlying htx,hsz,hR.len,sem_pure,hroom,hrd,hst]
 all_goals
  rw[sem_pure]at hst
  injection hst
theorem run_append_out{t tx ty el:TypeId}{d:TypeDesc}{i:TI}{R:Cells}{lvl:Nat}{rows:List (List AV)}{news olds:List Value}{x z:Value}(ht:P.underlying t=some (.slice el))(hel:TIok P el i)
  (htx:P.underlying tx=some d)(hd:(∃e,d=.slice e)∨d=.string)(hR:Rows P w R i.size x lvl rows news)(ad:Option Addr)(n cap:Nat)(hg: ¬n+rows.length≤cap)
  (hz: ∀w',(zeroValue el).run P w'=.ok z w')(hb:0<i.bytes)(hmax:(n+rows.length)*i.bytes≤maxBytes)
  (hold:(Builtin.firstCells i.size n (.slice ad n cap)).run P w.drew=.ok olds.toArray w.drew):
  (Builtin.append_ #[t,tx] ty #[.slice ad n cap,x]).run P w=.ok (.slice (some ⟨w.heap.size,0,none⟩) (n+rows.length) (grownCap w (n+rows.length) cap el))
   (World.push w.drew (.cells (olds.toArray++news.toArray++Builtin.zeroCells z.cells (grownCap w (n+rows.length) cap el-(n+rows.length))) el)):=by
 have hrd:=hR.read rows.length w.drew (Nat.le_refl _) rfl
 rw[←hR.nlen,List.take_length]at hrd
 obtain⟨info,dd,zz,i1,i2,i3,i4,i5,i6,i7,i8,i9⟩:=hel.ex
 have hbb:info.bytes=i.bytes:=i6
 unfold maxBytes at hmax
 have h2:n+rows.length≤(n+rows.length)*i.bytes:=Nat.le_mul_of_pos_right _ hb
 have h63: ¬(9223372036854775807<((n:Int)+(rows.length:Int))):=by omega
 have h48: ¬(281474976710656<Builtin.nextslicecap (n+rows.length) cap*i.bytes):=by
  have:=growslice_fits (old:=cap) (need:=n+rows.length) (bytes:=i.bytes) (by omega) (by omega)
  omega
 rcases hd with⟨e,rfl⟩|rfl<;>
  simp[Builtin.append_,run_underlying ht,run_underlying htx,hel.size,run_typeInfo _ i1,hbb,hR.len,sem_pure,hg,h63,h48,Question.forced,hrd,hold,hz,newRow,grownCap,World.push]
 all_goals (congr 2;apply Array.ext';simp[List.append_assoc])
theorem did_clear(hT:T.ok P)(h:RelC E st a w X loc ob){c:Call}(ho:o.op=.call c)(hc:c.callee=.builtin .clear)(hr:(evBuiltin T .clear c o).run st=some r):Did P E o st a w X r:=by
 simp only[evBuiltin]at hr
 split at hr
 case h_2=>exact(fail_some hr).elim
 rename_i s hargs
 obtain⟨t,hat,hr1⟩:=argT_some hr
 obtain⟨e,he,hr3⟩:=bind_some hr1
 obtain⟨el,hdt,hel,_⟩:=sliceI_some hT he
 obtain⟨sv,hsv,hr7⟩:=bind_some hr3
 have hsv:=opnd_some h hsv
 obtain⟨hq0,hr8⟩:=req_some hr7
 simp only[Bool.and_eq_true,List.all_eq_true,decide_eq_true_eq]at hq0
 obtain⟨hs0,hzp⟩:=hq0
 have hzlen:=hel.zlen
 obtain⟨zv,hz,hzs,hzl⟩:=hel.zeroV w
 have hca:c.args=#[s]:=by have:=congrArg List.toArray hargs;simpa using this
 have hm':c.args.map a.eval=#[a.eval s]:=by simp[hca]
 have hrun0: ∀(ad:Option Addr)(cap:Nat),a.eval s=.slice ad 0 cap→(execOp a.eval o).run P w=.ok (.value (.tuple #[])) w:=by
  intro ad cap hav
  obtain⟨_,op,ty,_,_,_⟩:=o
  subst ho
  simp only[execOp]
  rw[run_builtin hc]
  simp only[builtin]
  refine run_v ?_
  rw[hm']
  simp only[Builtin.clear_,List.getElem?_toArray,List.getElem?_cons_zero,hat,hav,Sem.run_bind,run_underlying hdt,Result.andThen_ok]
  cases ad<;>rfl
 have hrun: ∀(ad:Addr)(n cap:Nat)(w':World),n≠0→a.eval s=.slice (some ad) n cap→(storeCells ad (Builtin.zeroCells zv.cells n).toList).run P w=.ok () w'→
   (execOp a.eval o).run P w=.ok (.value (.tuple #[])) w':=by
  intro ad n cap w' hn hav hst
  obtain⟨_,op,ty,_,_,_⟩:=o
  subst ho
  simp only[execOp]
  rw[run_builtin hc]
  simp only[builtin]
  refine run_v ?_
  rw[hm']
  obtain⟨n,rfl⟩: ∃k,n=k+1:=⟨n-1,by omega⟩
  simp only[Builtin.clear_,List.getElem?_toArray,List.getElem?_cons_zero,hat,hav,Sem.run_bind,run_underlying hdt,Result.andThen_ok,hz,hst]
  rfl
 have htup: ∀w':World,∀R loc,AR w' R loc (.tup []) (.tuple #[]) none2:=fun w' R loc=>.tup (fun _=>none2) rfl (fun k x v h=>by simp at h) ⟨fun g o=>⟨fun k=>k.elim,fun⟨j,hj,_⟩=>by simp at hj⟩,fun j k hj=>by simp at hj⟩
 cases sv with
 |emp=>
  obtain rfl:=val_some hr8
  obtain⟨ad,hav⟩:=hsv.inv_emp
  exact Did.pure h (v:=.tuple #[]) (hrun0 ad 0 hav) (htup _ _ _)
 |ref b off n=>
  obtain⟨news,hnews⟩: ∃l,l=(Builtin.zeroCells zv.cells n).toList:=⟨_,rfl⟩
  have hlr: ∀R:Cells,LRows w R e.size (List.replicate n e.zero) (Builtin.zeroCells zv.cells n):=fun R=>by
   have:=zero_rows (w:=w) (R:=R) (n:=n) (m:=n) hzl hzs hs0 (Nat.le_refl n)
   rw[←hzs]at this⊢
   exact this
  have hsz:news.length=n*e.size:=by rw[hnews];simp[Builtin.zeroCells,hzs]
  have hnl:news.length=(List.replicate n e.zero).length*e.size:=by rw[hsz,List.length_replicate]
  have hwid: ∀row∈List.replicate n e.zero,row.length=e.size:=(hlr (RS E w (Owned ob X))).wid
  have hpl0: ∀row∈List.replicate n e.zero,∀x∈row,x.plain=true:=fun row hr x hx=>by rw[List.eq_of_mem_replicate hr]at hx;exact hzp x hx
  have hfl0:lvlOf e.zero=0→ ∀row∈List.replicate n e.zero,∀x∈row,x.flat=true:=fun h0 row hr x hx=>by
   rw[List.eq_of_mem_replicate hr]at hx
   unfold lvlOf at h0
   split at h0
   ·rename_i hfl;exact List.all_eq_true.1 hfl x hx
   ·cases h0
  have hat_: ∀i j row x,(List.replicate n e.zero)[i]? =some row→row[j]? =some x→AR w (RS E w (Owned ob X)) noLoc x (news.getD (i*e.size+j) undef) none2:=fun i j row x h1 h2=>by
   have:=(hlr (RS E w (Owned ob X))).at_ i j row x h1 h2
   rw[hnews]
   have e:(Builtin.zeroCells zv.cells n).toList.getD (i*e.size+j) undef=(Builtin.zeroCells zv.cells n).getD (i*e.size+j) undef:=by
    rw[List.getD_eq_getElem?_getD,Array.getElem?_toList,Array.getD_eq_getD_getElem?]
   rw[e]
   exact this
  have hone: ∀u∈news,u.oneCell'=true:=fun u hu=>by
   rw[hnews]at hu
   simp only[Builtin.zeroCells,Array.toList_map,List.mem_map]at hu
   obtain⟨k,hk,rfl⟩:=hu
   have hkz:k%zv.cells.size<zv.cells.size:=Nat.mod_lt _ (by omega)
   have e1:zv.cells[k%zv.cells.size]! =zv.cells[k%zv.cells.size]:=by simp[hkz]
   rw[e1]
   have hl0:k%zv.cells.size<e.zero.length:=by rw[hzl];simpa using hkz
   have:=zero_leaf (w:=w) (R:=RS E w (Owned ob X)) (loc:=noLoc) hzl (k%zv.cells.size) e.zero[k%zv.cells.size] zv.cells[k%zv.cells.size] (by simp[hl0]) (by simp[hkz])
   exact(this.leaf_one (plain_light (hzp _ (List.getElem_mem hl0)))).2
  have hr9:=mem_some hr8
  obtain⟨blk,hm,hr10⟩:=bind_some hr9
  obtain⟨hm,harr⟩:=arrB_some hm
  obtain⟨hq,hr11⟩:=req_some hr10
  simp only[Bool.and_eq_true,beq_iff_eq,decide_eq_true_eq]at hq
  obtain rfl:=ret_some hr11
  obtain⟨l,hl,hn,ad,cap,hav,hcap,hcase⟩:=hsv.inv_ref
  obtain⟨arr,lvl,z,rows⟩:=blk
  simp only at harr hq
  subst harr
  have hat':=h.lv b _ hm
  obtain⟨hs,hln⟩:=hat'.width hl
  simp only at hs hln
  by_cases hmin:min (List.replicate n e.zero).length n=0
  ·have hn00:n=0:=by simpa using hmin
   have hrun':=hrun0 ad cap (hn00▸hav)
   by_cases h0:rows.length=0
   ·have:rows=[]:=List.eq_nil_of_length_eq_zero h0
    subst this
    have hn0:n=0:=by simp at hln;omega
    subst hn0
    refine⟨_,_,w,loc,ob,hrun',.inl rfl,?_,htup _ _ _⟩
    have:=h.setArr0 hm (max lvl (lvlOf e.zero))
    simpa using this
   ·obtain⟨_,_,_,hb,hW,hO,vs,hcc,hcx,hfl,hpl⟩:=hat'.plainArr hq.2 (.inl (by omega)) hl
    have he:rows.take off++(List.replicate n e.zero).take n++rows.drop (off+min (List.replicate n e.zero).length n)=rows:=by
     have:(List.replicate n e.zero).take n=[]:=by apply List.eq_nil_of_length_eq_zero;rw[List.length_take,Nat.min_comm];exact hmin
     rw[this,hmin]
     simp
    obtain⟨h2,h3⟩:=h.setArr hm hq.2 (by omega) hl (lvl':=max lvl (lvlOf e.zero)) (rows':=rows) rfl hW (Frame.refl w _)
     (fun i j row x h1 h2=>by
      have hi:i<rows.length:=(List.getElem?_eq_some_iff.1 h1).1
      have hj:j<z.length:=by
       have:=(List.getElem?_eq_some_iff.1 h2).1
       rw[hW.len row (List.mem_of_getElem? h1)]at this
       exact this
      exact⟨_,hcc i j hi hj,hcx i j row x h1 h2⟩)
     (fun h0=>hfl (by omega)) hpl
    refine⟨_,_,w,loc,ob,hrun',.inl rfl,?_,htup _ _ _⟩
    simp only
    rw[he]
    exact h2
  ·have hn0:n≠0:=by omega
   rcases hcase with⟨h1,_⟩|⟨hbd,rfl,hbf⟩
   ·exact absurd h1 hn0
   ·obtain⟨_,_,_,hb,hW,hO,vs,hcc,hcx,hfl,hpl⟩:=hat'.plainArr hq.2 (.inl (by omega)) hl
    have hzs:z.length=e.size:=hq.1
    have hk:min (List.replicate n e.zero).length n*e.size≤news.length:=by rw[hnl];exact Nat.mul_le_mul_right _ (Nat.min_le_left _ _)
    have htl:(news.take (min (List.replicate n e.zero).length n*e.size)).length=min (List.replicate n e.zero).length n*e.size:=by rw[List.length_take];omega
    have hle:(off+min (List.replicate n e.zero).length n)*z.length≤rows.length*z.length:=Nat.mul_le_mul_right _ (by omega)
    rw[Nat.add_mul]at hle
    have hbn: ∀k,k<min (List.replicate n e.zero).length n*e.size→l.base+off*l.s+k<l.base+rows.length*z.length:=fun k hk=>by rw[hs];rw[←hzs]at hk;omega
    have hst:=run_storeCells_cells (P:=P) l.g (l.base+off*l.s) (news.take (min (List.replicate n e.zero).length n*e.size)) 0 w
     (fun k hk=>by
      rw[htl]at hk
      obtain⟨u,hu⟩:=hb.cell (o:=l.base+off*l.s+0+k) (by have:=hbn k hk;omega)
      rw[hu];rfl)
     (fun k hk=>hb.unfrozen (by rw[htl]at hk;have:=hbn k hk;omega)) (fun u hu=>hone u (List.mem_of_mem_take hu))
    simp only[Nat.add_zero]at hst
    have hall:news.take (min (List.replicate n e.zero).length n*e.size)=(Builtin.zeroCells zv.cells n).toList:=by
     rw[←hnews,List.length_replicate,Nat.min_self,←hsz,List.take_length]
    have hrun':=hrun _ n cap _ hn0 hav (by rw[←hall];exact hst)
    have hF:Frame w (w.setCells l.g (l.base+off*l.s) (news.take (min (List.replicate n e.zero).length n*e.size))) (fun g _=>g=l.g):=Frame.setCells _ _ _ _ w fun _ _=>rfl
    have hmem: ∀row∈rows.take off++(List.replicate n e.zero).take n++rows.drop (off+min (List.replicate n e.zero).length n),row∈rows∨row∈(List.replicate n e.zero):=by
     intro row hr
     rw[List.mem_append,List.mem_append]at hr
     rcases hr with(hr|hr)|hr
     ·exact .inl (List.mem_of_mem_take hr)
     ·exact .inr (List.mem_of_mem_take hr)
     ·exact .inl (List.mem_of_mem_drop hr)
    have hplain: ∀row∈rows.take off++(List.replicate n e.zero).take n++rows.drop (off+min (List.replicate n e.zero).length n),∀x∈row,x.plain=true:=by
     intro row hr
     rcases hmem row hr with h1|h1
     ·exact hpl row h1
     ·exact hpl0 row h1
    have hwide:Wide z (rows.take off++(List.replicate n e.zero).take n++rows.drop (off+min (List.replicate n e.zero).length n)):=by
     refine⟨fun row hr=> ?_,fun row hr x hx=>light_known (plain_light (hplain row hr x hx))⟩
     rcases hmem row hr with h1|h1
     ·exact hW.len row h1
     ·rw[hzs];exact hwid row h1
    have hl2:(rows.take off++(List.replicate n e.zero).take n++rows.drop (off+min (List.replicate n e.zero).length n)).length=rows.length:=by
     simp only[List.length_append,List.length_take,List.length_drop]
     omega
    obtain⟨h2,h3⟩:=h.setArr hm hq.2 (by omega) hl (lvl':=max lvl (lvlOf e.zero)) hl2 hwide hF
     (fun i j row x h1 h2=>by
      have hj:j<z.length:=by
       have:=(List.getElem?_eq_some_iff.1 h2).1
       rw[hwide.len row (List.mem_of_getElem? h1)]at this
       exact this
      rw[cutRows_get _ _ _ _ _ (by omega)]at h1
      split at h1
      ·rename_i hin
       have hlt:(i-off)*e.size+j<min (List.replicate n e.zero).length n*e.size:=idx_lt (by omega) (by omega)
       have:=World.cell?_setCells_in l.g (news.take (min (List.replicate n e.zero).length n*e.size)) (l.base+off*l.s) w (fun k hk=>by
        rw[htl]at hk
        obtain⟨u,hu⟩:=hb.cell (o:=l.base+off*l.s+k) (hbn k hk)
        rw[hu];rfl) ((i-off)*e.size+j) (by rw[htl];exact hlt)
       refine⟨_,?_,hat_ (i-off) j row x h1 h2⟩
       have e1:l.base+i*z.length+j=l.base+off*l.s+((i-off)*e.size+j):=by
        rw[hs,←hzs]
        have:i*z.length=off*z.length+(i-off)*z.length:=by rw[←Nat.add_mul];congr 1;omega
        omega
       rw[e1,this,List.getElem_take]
       simp[show(i-off)*e.size+j<news.length by omega]
      ·rename_i hout
       have hi:i<rows.length:=(List.getElem?_eq_some_iff.1 h1).1
       refine⟨vs i j,?_,hcx i j row x h1 h2⟩
       rw[World.cell?_setCells_out l.g _ _ w _ (fun _ _=>by
        simp only
        rw[htl,hs,←hzs]
        by_cases hi':i<off
        ·have:=idx_lt hi' hj
         omega
        ·have:(off+min (List.replicate n e.zero).length n)*z.length≤i*z.length:=Nat.mul_le_mul_right _ (by omega)
         rw[Nat.add_mul]at this
         omega)]
       exact hcc i j hi hj)
     (fun h0 row hr=>by
      rcases hmem row hr with h1|h1
      ·exact hfl (by omega) row h1
      ·exact hfl0 (by omega) row h1)
     hplain
    exact⟨_,_,_,loc,ob,hrun',.inl rfl,h2,htup _ _ _⟩
 |_=>exact(fail_some hr8).elim
end
end Go.Abs
