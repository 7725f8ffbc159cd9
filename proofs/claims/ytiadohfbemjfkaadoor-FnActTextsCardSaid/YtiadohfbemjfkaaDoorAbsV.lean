/- The abstract layer, 9: new arrays. -/
import Derived.Test.YtiadohfbemjfkaaDoorAbsU
import Derived.IntWalk
set_option linter.unusedVariables false
set_option linter.unusedSimpArgs false
noncomputable section
namespace Go.Abs
open Go
section
variable{P:Program}{T:TT}{E:Env}{o:Oper}{st:St}{a:Act}{w:World}{X:Cells}{loc:Locs}{ob:Nat→Cells}{r:Res}
structure LRows(w:World)(R:Cells)(s:Nat)(rows:List (List AV))(cells:Array Value):Prop where
 size:rows.length*s≤cells.size
 wid: ∀row∈rows,row.length=s
 at_: ∀i j row x,rows[i]? =some row→row[j]? =some x→AR w R noLoc x (cells.getD (i*s+j) undef) none2
theorem idx_lt{i j n s:Nat}(hi:i<n)(hj:j<s):i*s+j<n*s:=by
 have:(i+1)*s≤n*s:=Nat.mul_le_mul_right _ hi
 rw[Nat.add_mul,Nat.one_mul]at this
 omega
theorem idx_mod{i j s:Nat}(hj:j<s):(i*s+j)%s=j:=by rw[Nat.mul_comm,Nat.mul_add_mod];exact Nat.mod_eq_of_lt hj
theorem zero_rows{R:Cells}{z:Value}{l:List AV}{s n m:Nat}(hl:l=z.cells.toList.map ofVal)(hs:z.cells.size=s)(h0:0<s)(hn:n≤m):
  LRows w R s (List.replicate n l) ((Array.range (m*s)).map (z.cells[· %z.cells.size]!)):=by
 have hle:n*s≤m*s:=Nat.mul_le_mul_right _ hn
 refine⟨by simpa using hle,fun row hr=>by rw[List.eq_of_mem_replicate hr,hl];simpa using hs,fun i j row x h1 h2=> ?_⟩
 have hi:i<n:=by have:=(List.getElem?_eq_some_iff.1 h1).1;simpa using this
 obtain rfl:l=row:=by
  rw[List.getElem?_replicate,if_pos hi]at h1
  injection h1
 have hj:j<s:=by have:=(List.getElem?_eq_some_iff.1 h2).1;rw[hl]at this;simp at this;omega
 have hlt:=idx_lt hi hj
 have hc:((Array.range (m*s)).map (z.cells[· %z.cells.size]!)).getD (i*s+j) undef=z.cells[j]! :=by
  have:i*s+j<m*s:=by omega
  simp[this,hs,idx_mod hj]
 rw[hc]
 have hz:z.cells.toList[j]? =some z.cells[j]! :=by
  have:j<z.cells.size:=by omega
  simp[this]
 exact zero_leaf hl j x _ h2 hz
theorem putRows_len: ∀(ps:List (Nat × AV))(rows:List (List AV)),(putRows rows ps).length=rows.length
 |[],_=>rfl
 |(i,v)::ps,rows=>by simp only[putRows];rw[putRows_len ps];simp
theorem fill_rows{R:Cells}{loc:Locs}{s:Nat}: ∀(ps:List (Nat × AV))(cps:List (Nat × Value))(rows:List (List AV))(cells:Array Value),LRows w R s rows cells→ps.length=cps.length→
  (∀(k:Nat) p c,ps[k]? =some p→cps[k]? =some c→p.1=c.1∧AR w R loc p.2 c.2 none2∧p.2.leaves.all AV.plain=true∧p.2.leaves.length=s∧p.1<rows.length)→
  ∃cells',Instr.fill (fun i=>some (i*s,s)) cells cps=some cells'∧LRows w R s (putRows rows ps) cells'∧cells'.size=cells.size
 |[],[],rows,cells,h,_,_=>⟨cells,rfl,h,rfl⟩
 |[],_::_,_,_,_,h,_=>by simp at h
 |_::_,[],_,_,_,h,_=>by simp at h
 |(i,x)::ps,(i',v)::cps,rows,cells,hl,hlen,hp=>by
  obtain⟨rfl,hx,hpl,hxs,hi⟩:=hp 0 (i,x) (i',v) (by simp) (by simp)
  simp only at hx hpl hxs hi
  have hlt:x.leaves.all AV.light=true:=List.all_eq_true.2 fun y hy=>plain_light (List.all_eq_true.1 hpl y hy)
  obtain⟨hn,hone,hxx⟩:=hx.leaves hlt
  have hsz:v.cells.size=s:=by rw[←hxs];simpa using hn
  obtain⟨f1,f2⟩:=fold_set v.cells.toList (i*s) 0 cells
  have hfold:v.cells.zipIdx.foldl (fun cs(p:Value × Nat)=>cs.setIfInBounds (i*s+p.2) p.1) cells=(v.cells.toList.zipIdx 0).foldl (fun cs p=>cs.setIfInBounds (i*s+p.2) p.1) cells:=by
   rw[←Array.foldl_toList]
   simp
  have hl':LRows w R s (rows.set i x.leaves) (v.cells.zipIdx.foldl (fun cs(p:Value × Nat)=>cs.setIfInBounds (i*s+p.2) p.1) cells):=by
   rw[hfold]
   refine⟨by rw[f1];simpa using hl.size,fun row hr=> ?_,fun i' j row y h1 h2=> ?_⟩
   ·rcases List.mem_or_eq_of_mem_set hr with hr|rfl
    ·exact hl.wid row hr
    ·exact hxs
   ·have hi':i'<rows.length:=by have:=(List.getElem?_eq_some_iff.1 h1).1;simpa using this
    have hsp:=hl.size
    simp only[Array.length_toList,hsz,Nat.add_zero]at f2
    by_cases he:i'=i
    ·subst he
     rw[List.getElem?_set_self hi']at h1
     injection h1 with h1
     subst h1
     have hj:j<s:=by rw[←hxs];exact(List.getElem?_eq_some_iff.1 h2).1
     have hb:=idx_lt hi' hj
     have:=f2 (i'*s+j)
     rw[if_pos ⟨by omega,by omega,by omega⟩]at this
     have hc:v.cells.toList[j]? =some (v.cells.getD j undef):=by simp[hsz,hj]
     rw[show i'*s+j-i'*s=j by omega,hc]at this
     have e:((v.cells.toList.zipIdx 0).foldl (fun cs(p:Value × Nat)=>cs.setIfInBounds (i'*s+p.2) p.1) cells).getD (i'*s+j) undef=v.cells.getD j undef:=by
      rw[Array.getD_eq_getD_getElem?,this];rfl
     rw[e]
     exact(hxx j y _ h2 hc).plain_loc (List.all_eq_true.1 hpl y (List.mem_of_getElem? h2))
    ·rw[List.getElem?_set_ne (Ne.symm he)]at h1
     have hj:j<s:=by
      have:=(List.getElem?_eq_some_iff.1 h2).1
      rw[hl.wid row (List.mem_of_getElem? h1)]at this
      exact this
     have:=f2 (i'*s+j)
     have hout: ¬(i*s≤i'*s+j∧i'*s+j<i*s+s∧i'*s+j<cells.size):=by
      rintro ⟨ha,hb,_⟩
      rcases Nat.lt_or_gt_of_ne he with hc|hc
      ·have:=idx_lt hc hj;omega
      ·have:(i+1)*s≤i'*s:=Nat.mul_le_mul_right _ hc
       rw[Nat.add_mul,Nat.one_mul]at this
       omega
     rw[if_neg hout]at this
     have e:((v.cells.toList.zipIdx 0).foldl (fun cs(p:Value × Nat)=>cs.setIfInBounds (i*s+p.2) p.1) cells).getD (i'*s+j) undef=cells.getD (i'*s+j) undef:=by
      rw[Array.getD_eq_getD_getElem?,this,←Array.getD_eq_getD_getElem?]
     rw[e]
     exact hl.at_ i' j row y h1 h2
  obtain⟨cells',h3,h4,h5⟩:=fill_rows (loc:=loc) ps cps _ _ hl' (by simpa using hlen) (fun k p c h1 h2=>by
   have:=hp (k+1) p c (by simpa using h1) (by simpa using h2)
   exact⟨this.1,this.2.1,this.2.2.1,this.2.2.2.1,by simpa using this.2.2.2.2⟩)
  refine⟨cells',?_,h4,?_⟩
  ·simp only[Instr.fill]
   have hle:(i+1)*s≤rows.length*s:=Nat.mul_le_mul_right _ hi
   rw[Nat.add_mul,Nat.one_mul]at hle
   have hsp:=hl.size
   have: ¬((decide (v.cells.size≠s)||decide (i*s+v.cells.size>cells.size))=true):=by
    simp only[Bool.or_eq_true,decide_eq_true_eq,not_or]
    rw[hsz]
    omega
   rw[if_neg this]
   exact h3
  ·rw[h5,hfold,f1]
theorem putRows_mem: ∀(ps:List (Nat × AV))(rows:List (List AV))(row:List AV),row∈putRows rows ps→row∈rows∨ ∃p∈ps,row=p.2.leaves
 |[],rows,row,h=>.inl h
 |(i,v)::ps,rows,row,h=>by
  simp only[putRows]at h
  rcases putRows_mem ps _ row h with h|⟨p,hp,rfl⟩
  ·rcases List.mem_or_eq_of_mem_set h with h|rfl
   ·exact .inl h
   ·exact .inr ⟨(i,v),by simp,rfl⟩
  ·exact .inr ⟨p,by simp[hp],rfl⟩
theorem sliceI_some(hT:T.ok P){t:TypeId}{e:TI}(he:(sliceI T t).run st=some e): ∃el,P.underlying t=some (.slice el)∧TIok P el e∧T.get el=some e:=by
 unfold sliceI at he
 split at he
 case h_2=>exact(fail_some he).elim
 rename_i i hi
 split at he
 case h_2=>exact(fail_some he).elim
 rename_i el hu
 obtain⟨d,hd,hut⟩:=(hT.at hi).und
 have:=und_slice (hut.symm.trans hu)
 subst this
 have he:=TI_some he
 exact⟨el,hd,hT.at he,he⟩
theorem did_buildSlice(hT:T.ok P)(h:RelC E st a w X loc ob){t:TypeId}{n:Nat}{ps:Array (Nat × Operand)}(ho:o.op=.buildSlice t n ps){d:Nat}(hr:(evBuildSlice T t n ps.toList d).run st=some r):Did P E o st a w X r:=by
 obtain⟨hd,hr1⟩:=newB_some hr
 obtain⟨e,he,hr2⟩:=bind_some hr1
 obtain⟨el,hdt,hel,_⟩:=sliceI_some hT he
 obtain⟨vs,hvs,hr3⟩:=bind_some hr2
 obtain⟨hq,hr4⟩:=req_some hr3
 simp only[Bool.and_eq_true,List.all_eq_true,decide_eq_true_eq,beq_iff_eq]at hq
 obtain⟨⟨⟨⟨hpl,hzp⟩,hs0⟩,hns⟩,hps⟩:=hq
 obtain⟨hvl,hx⟩:=opnds_some h hvs
 obtain⟨z,hz,hzs,hzl⟩:=hel.zeroV w
 have hzlen:=hel.zlen
 have hcall: ∀cells,Instr.fill (fun i=>some (i*e.size,e.size)) ((Array.range (n*e.size)).map ((if n*e.size=0 then(#[]:Array Value)else z.cells)[· %(if n*e.size=0 then(#[]:Array Value)else z.cells).size]!)) (ps.toList.map fun p=>(p.1,a.eval p.2))=some cells→
   (execOp a.eval o).run P w=.ok (.value (.slice (some ⟨w.heap.size,0,none⟩) n n)) (World.push w (.cells cells el)):=by
  intro cells hf
  obtain⟨_,op,_,_,_,_⟩:=o
  subst ho
  simp only[execOp]
  refine run_v ?_
  have h1: ¬n*e.size>2 ^ 24:=by
   have:(2:Nat) ^ 24=16777216:=by decide
   omega
  have hpl':(ps.map fun(p:Nat × Operand)=>(p.1,a.eval p.2)).toList=ps.toList.map fun p=>(p.1,a.eval p.2):=by simp
  simp only[Instr.buildSlice,Sem.run_bind,run_underlying hdt,Result.andThen_ok,hel.size w,h1,if_false,Sem.run_pure]
  by_cases h0:n*e.size=0
  ·rw[if_pos h0]at hf⊢
   simp only[Sem.run_bind,Sem.run_pure,Result.andThen_ok]
   rw[hpl',hf]
   simp only[Sem.run_bind,run_newRow,Result.andThen_ok,Sem.run_pure]
  ·rw[if_neg h0]at hf⊢
   simp only[Sem.run_bind,Sem.run_pure,Result.andThen_ok,hz]
   rw[hpl',hf]
   simp only[Sem.run_bind,run_newRow,Result.andThen_ok,Sem.run_pure]
 by_cases hn:n=0
 ·subst hn
  rw[if_pos rfl]at hr4
  obtain rfl:=val_some hr4
  have hpe:ps.toList=[]:=by
   cases hl:ps.toList with
   |nil=>rfl
   |cons p l=>exact absurd (hps p (by rw[hl];simp)) (by omega)
  have hc:=hcall #[] (by rw[hpe];simp[Instr.fill])
  obtain⟨h1,h2⟩:=h.world (Frame.push w (.cells #[] el) none2)
  exact⟨_,_,_,loc,ob,hc,.inl rfl,h1,.sc ⟨_,rfl⟩ emp_none2⟩
 ·rw[if_neg hn]at hr4
  obtain rfl:=ret_some hr4
  have hns0: ¬n*e.size=0:=by
   intro h0
   rcases Nat.mul_eq_zero.1 h0 with h0|h0<;>omega
  simp only[hns0,if_false]at hcall
  have hz0:=zero_rows (w:=w) (R:=RS E w (Owned ob X)) (n:=n) (m:=n) hzl hzs hs0 (Nat.le_refl _)
  obtain⟨cells,hf,hlr,hcs⟩:=fill_rows (loc:=loc) ((ps.toList.map (·.1)).zip vs) (ps.toList.map fun p=>(p.1,a.eval p.2)) _ _ hz0 (by simp[hvl]) (fun k p c h1 h2=>by
   simp only[List.getElem?_map,Option.map_eq_some_iff]at h2
   obtain⟨q,hq1,rfl⟩:=h2
   rw[List.getElem?_zip_eq_some]at h1
   obtain⟨h3,h4⟩:=h1
   simp only[List.getElem?_map,hq1,Option.map_some]at h3
   injection h3 with h3
   have:=hpl p.2 (List.mem_of_getElem? h4)
   refine⟨h3.symm,hx k p.2 q.2 h4 (by simp[hq1]),List.all_eq_true.2 this.1,this.2,?_⟩
   rw[←h3]
   simpa using hps q (List.mem_of_getElem? hq1))
  have hlen:(putRows (List.replicate n e.zero) ((ps.toList.map (·.1)).zip vs)).length=n:=by rw[putRows_len];simp
  have hleaf: ∀row∈putRows (List.replicate n e.zero) ((ps.toList.map (·.1)).zip vs),(∀x∈row,x∈e.zero)∨ ∃v∈vs,row=v.leaves:=by
   intro row hr
   rcases putRows_mem _ _ row hr with hr|⟨p,hp,rfl⟩
   ·rw[List.eq_of_mem_replicate hr];exact .inl fun x hx=>hx
   ·exact .inr ⟨p.2,(List.of_mem_zip hp).2,rfl⟩
  have hplain: ∀row∈putRows (List.replicate n e.zero) ((ps.toList.map (·.1)).zip vs),∀x∈row,x.plain=true:=by
   intro row hr x hx
   rcases hleaf row hr with h1|⟨v,hv,rfl⟩
   ·exact hzp x (h1 x hx)
   ·exact(hpl v hv).1 x hx
  obtain⟨ob',h2,h3,h4⟩:=h.newArr hd (z:=e.zero) (lvl:=if(vs.all fun v=>v.leaves.all AV.flat)&&e.zero.all AV.flat then 0 else 1) cells el (0,0) (fun i _ h=>by simp at h)
   ⟨fun row hr=>by rw[hlr.wid row hr,hzlen],fun row hr x hx=>light_known (plain_light (hplain row hr x hx))⟩ (by rw[hzlen];exact hlr.size) (by rw[hzlen];exact hlr.at_)
   (fun h0 row hr x hx=>by
    split at h0
    ·rename_i hfl
     simp only[Bool.and_eq_true,List.all_eq_true]at hfl
     rcases hleaf row hr with h1|⟨v,hv,rfl⟩
     ·exact hfl.2 x (h1 x hx)
     ·exact hfl.1 v hv x hx
    ·cases h0)
   (fun _=>hplain) (by
    rw[hlen]
    have:n≤n*e.size:=Nat.le_mul_of_pos_right _ hs0
    unfold maxLn
    omega)
  refine⟨_,_,_,_,ob',hcall cells hf,.inl rfl,h2,h4 n n hlen.symm (Nat.le_refl _) ?_⟩
  rw[hzlen,hcs]
  simp
theorem wrap_small{n:Nat}(h:n≤maxBytes):IntKind.i64.wrap (n:Int)=n:=by
 unfold maxBytes at h
 exact IntWalk.i64_in _ (by omega)
theorem did_makeSlice(hT:T.ok P)(h:RelC E st a w X loc ob){t:TypeId}{l c:Operand}(ho:o.op=.makeSlice t l c){d:Nat}(hr:(evMakeSlice T t l c d).run st=some r):Did P E o st a w X r:=by
 obtain⟨hd,hr1⟩:=newB_some hr
 obtain⟨e,he,hr2⟩:=bind_some hr1
 obtain⟨el,hdt,hel,_⟩:=sliceI_some hT he
 obtain⟨lv,hlv,hr3⟩:=bind_some hr2
 have hlv:=opnd_some h hlv
 obtain⟨cv,hcv,hr4⟩:=bind_some hr3
 have hcv:=opnd_some h hcv
 obtain⟨n,hn,hr5⟩:=bind_some hr4
 obtain⟨m,hm,hr6⟩:=bind_some hr5
 obtain⟨k1,i1,rfl,hp1,rfl⟩:=asNat_some hn
 obtain⟨k2,i2,rfl,hp2,rfl⟩:=asNat_some hm
 obtain⟨hq,hr7⟩:=req_some hr6
 simp only[Bool.and_eq_true,List.all_eq_true,decide_eq_true_eq]at hq
 obtain⟨⟨⟨⟨hq1,hq2⟩,hq3⟩,hs0⟩,hzp⟩:=hq
 obtain rfl:=ret_some hr7
 obtain⟨n,rfl⟩:=Int.eq_ofNat_of_zero_le hp1
 obtain⟨m,rfl⟩:=Int.eq_ofNat_of_zero_le hp2
 simp only[Int.toNat_natCast]at*
 obtain⟨z,hz,hzs,hzl⟩:=hel.zeroV w
 have hzlen:=hel.zlen
 have hcells: ∃cells,LRows w (RS E w (Owned ob X)) e.size (List.replicate n e.zero) cells∧cells.size=m*e.size∧
   (execOp a.eval o).run P w=.ok (.value (.slice (some ⟨w.heap.size,0,none⟩) n m)) (World.push w (.cells cells el)):=by
  obtain⟨info,dd,zz,i1,i2,i3,i4,i5,i6,i7,i8,i9⟩:=hel.ex
  have hwn:=wrap_small (n:=n) (by omega)
  have hwm:=wrap_small (n:=m) hq3
  have hbig: ¬(((e.bytes*m:Nat):Int)>2 ^ 48):=by
   have:(2:Int) ^ 48=281474976710656:=by decide
   rw[Nat.mul_comm]at hq2
   unfold maxBytes at hq2
   omega
  have hroom: ¬m*e.bytes>roomBytes:=by
   have:roomBytes=140737488355328:=by decide
   unfold maxBytes at hq2
   omega
  refine⟨(Array.range (m*e.size)).map ((if m*e.size=0 then(#[]:Array Value)else z.cells)[· %(if m*e.size=0 then(#[]:Array Value)else z.cells).size]!),?_,by simp,?_⟩
  ·by_cases h0:m*e.size=0
   ·have hn0:n=0:=by
     rcases Nat.mul_eq_zero.1 h0 with h0|h0<;>omega
    subst hn0
    exact⟨by simp,fun row hr=>by simp at hr,fun i j row x h1=>by simp at h1⟩
   ·rw[if_neg h0]
    exact zero_rows hzl hzs hs0 hq1
  ·obtain⟨_,op,_,_,_,_⟩:=o
   subst ho
   simp only[execOp]
   refine run_v ?_
   have hti:=run_typeInfo (P:=P) w i1
   have hb:(info.bytes:Nat)=e.bytes:=i6
   have c1: ¬((n:Int)<0):=by omega
   have c2: ¬((m:Int)<0):=by omega
   have c3: ¬((n:Int)>m):=by omega
   have hbig': ¬((e.bytes:Int)*m>2 ^ 48):=by rw[←Int.natCast_mul];exact hbig
   simp only[Instr.makeSlice,Sem.run_bind,run_underlying hdt,Result.andThen_ok,hlv.inv_int,hcv.inv_int,asInt,asIntOf,Sem.run_pure,hti,hwn,hwm,hb,decide_eq_false c1,decide_eq_false c2,decide_eq_false c3,decide_eq_false hbig',Bool.or_false,Bool.false_eq_true,if_false,run_askRoom,Int.toNat_natCast,hel.size w]
   by_cases h0:m*e.size=0
   ·simp only[h0,if_true,Sem.run_bind,Sem.run_pure,Result.andThen_ok,run_newRow]
   ·simp only[h0,if_false,Sem.run_bind,Sem.run_pure,Result.andThen_ok,hz,run_newRow]
 obtain⟨cells,hlr,hcs,hrun⟩:=hcells
 obtain⟨ob',h2,h3,h4⟩:=h.newArr hd (rows:=List.replicate n e.zero) (z:=e.zero) (lvl:=lvlOf e.zero) cells el (0,0) (fun i _ h=>by simp at h)
  ⟨fun row hr=>by rw[List.eq_of_mem_replicate hr],fun row hr x hx=>by rw[List.eq_of_mem_replicate hr]at hx;exact light_known (plain_light (hzp x hx))⟩
  (by rw[hzlen];exact hlr.size) (by rw[hzlen];exact hlr.at_)
  (fun h0 row hr x hx=>by
   rw[List.eq_of_mem_replicate hr]at hx
   unfold lvlOf at h0
   split at h0
   ·rename_i hfl;exact List.all_eq_true.1 hfl x hx
   ·cases h0)
  (fun _ row hr x hx=>by rw[List.eq_of_mem_replicate hr]at hx;exact hzp x hx) (by
   rw[List.length_replicate]
   unfold maxBytes at hq3
   unfold maxLn
   omega)
 refine⟨_,_,_,_,ob',hrun,.inl rfl,h2,h4 n m (by simp) hq1 ?_⟩
 rw[hzlen,hcs]
 exact Nat.le_refl _
end
end Go.Abs
