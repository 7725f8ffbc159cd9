/- The abstract layer, 11: what is read to be copied. -/
import Derived.Test.YtiadohfbemjfkaaDoorAbsW
import Derived.Laws.Append
set_option linter.unusedVariables false
set_option linter.unusedSimpArgs false
noncomputable section
namespace Go.Abs
open Go
section
variable{P:Program}{T:TT}{E:Env}{o:Oper}{st:St}{a:Act}{w:World}{X:Cells}{loc:Locs}{ob:Nat→Cells}{r:Res}
structure Rows(P:Program)(w:World)(R:Cells)(s:Nat)(v:Value)(lvl:Nat)(rows:List (List AV))(news:List Value):Prop where
 len:Builtin.lenOf v=Sem.pure rows.length
 nlen:news.length=rows.length*s
 read: ∀n w',n≤rows.length→w'.heap=w.heap→(Builtin.firstCells s n v).run P w'=.ok (news.take (n*s)).toArray w'
 one: ∀u∈news,u.oneCell'=true
 wid: ∀row∈rows,row.length=s
 at_: ∀i j row x,rows[i]? =some row→row[j]? =some x→AR w R noLoc x (news.getD (i*s+j) undef) none2
 lvl1:lvl≤1
 flat:lvl=0→ ∀row∈rows,∀x∈row,x.flat=true
 plain: ∀row∈rows,∀x∈row,x.plain=true
 max:rows.length≤maxLn
theorem div_idx{i j s:Nat}(hj:j<s):(i*s+j)/s=i:=by
 rw[Nat.mul_comm,Nat.mul_add_div (by omega),Nat.div_eq_of_lt hj,Nat.add_zero]
theorem rows_slice{R:Cells}{g o s lvl cap:Nat}{rows:List (List AV)}(vs:Nat→Nat→Value)(hs:0<s∨rows=[])(hc: ∀i j,i<rows.length→j<s→w.cell? ⟨g,o+i*s+j,none⟩=some (vs i j))
  (hw: ∀row∈rows,row.length=s)(hx: ∀i j row x,rows[i]? =some row→row[j]? =some x→AR w R noLoc x (vs i j) none2)
  (l1:lvl≤1)(fl:lvl=0→ ∀row∈rows,∀x∈row,x.flat=true)(pl: ∀row∈rows,∀x∈row,x.plain=true)(mx:rows.length≤maxLn):
  ∃news,Rows P w R s (.slice (some ⟨g,o,none⟩) rows.length cap) lvl rows news:=by
 have hget: ∀k,k<rows.length*s→((List.range (rows.length*s)).map fun k=>vs (k/s) (k%s))[k]? =some (vs (k/s) (k%s)):=fun k hk=>by simp[hk]
 have hij: ∀k,k<rows.length*s→k/s<rows.length∧k%s<s:=by
  intro k hk
  have hs0:0<s:=by
   rcases hs with h|h
   ·exact h
   ·subst h;simp at hk
  exact⟨Nat.div_lt_of_lt_mul (by rw[Nat.mul_comm];exact hk),Nat.mod_lt _ hs0⟩
 refine⟨(List.range (rows.length*s)).map fun k=>vs (k/s) (k%s),rfl,by simp,fun n w' hn hh=> ?_,fun u hu=> ?_,hw,fun i j row x h1 h2=> ?_,l1,fl,pl,mx⟩
 ·have hle:n*s≤rows.length*s:=Nat.mul_le_mul_right _ hn
  refine run_firstCells_some w' s n ⟨g,o,none⟩ rows.length cap _ (by rw[List.length_take,List.length_map,List.length_range];omega) fun j v hj=> ?_
  rw[List.getElem?_take]at hj
  split at hj
  ·rename_i hjn
   rw[hget j (by omega)]at hj
   injection hj with hj
   subst hj
   obtain⟨h1,h2⟩:=hij j (by omega)
   have:=hc _ _ h1 h2
   rw[add_plain']
   simp only[World.cell?,hh]at this⊢
   have e:o+j/s*s+j%s=o+j:=by
    have:=Nat.div_add_mod j s
    rw[Nat.mul_comm]at this
    omega
   rwa [e]at this
  ·cases hj
 ·simp only[List.mem_map,List.mem_range]at hu
  obtain⟨k,hk,rfl⟩:=hu
  obtain⟨h1,h2⟩:=hij k hk
  have hr:rows[k/s]? =some rows[k/s]:=by simp[h1]
  have hlen:=hw rows[k/s] (List.getElem_mem h1)
  have hj':k%s<rows[k/s].length:=by omega
  exact((hx _ _ _ _ hr (List.getElem?_eq_getElem hj')).leaf_one (plain_light (pl _ (List.getElem_mem h1) _ (List.getElem_mem hj')))).2
 ·have hi:i<rows.length:=(List.getElem?_eq_some_iff.1 h1).1
  have hj:j<s:=by
   have:=(List.getElem?_eq_some_iff.1 h2).1
   rw[hw row (List.mem_of_getElem? h1)]at this
   exact this
  have hlt:=idx_lt hi hj
  have:((List.range (rows.length*s)).map fun k=>vs (k/s) (k%s)).getD (i*s+j) undef=vs i j:=by
   rw[List.getD_eq_getElem?_getD,hget _ hlt,div_idx hj,idx_mod hj]
   rfl
  rw[this]
  exact hx i j row x h1 h2
theorem rows_nil{R:Cells}{s cap:Nat}{ad:Option Addr}:Rows P w R s (.slice ad 0 cap) 0 [] []:=by
 refine⟨rfl,by simp,fun n w' hn hh=> ?_,fun u hu=>by simp at hu,fun _ h=>by simp at h,fun i j row x h1=>by simp at h1,by omega,fun _ _ h=>by simp at h,fun _ h=>by simp at h,Nat.zero_le _⟩
 have:n=0:=by simpa using hn
 subst this
 cases ad with
 |none=>rw[List.take_nil];exact run_firstCells_none w' s 0 0 cap
 |some ad=>rw[List.take_nil];exact run_firstCells_some w' s 0 ad 0 cap [] (by simp) (fun j v h=>by simp at h)
theorem Rows.up{R:Cells}{s:Nat}{v:Value}{rows:List (List AV)}{news:List Value}{lvl:Nat}(h:Rows P w R s v lvl rows news):Rows P w R s v 1 rows news:=
 ⟨h.len,h.nlen,h.read,h.one,h.wid,h.at_,Nat.le_refl _,fun h=>by omega,h.plain,h.max⟩
theorem rowsOf_some(h:RelC E st a w X loc ob){z:List AV}{x:AV}{v:Value}(hx:AR w (RS E w (Owned ob X)) loc x v none2){rs:Nat × List (List AV)}(hr:(rowsOf z x).run st=some rs)(hz:0<z.length):
  ∃news,Rows P w (RS E w (Owned ob X)) z.length v rs.1 rs.2 news:=by
 cases x with
 |emp=>
  obtain rfl:=ret_some (st:=st) hr
  obtain⟨ad,rfl⟩:=hx.inv_emp
  exact⟨[],rows_nil⟩
 |ro z' rows=>
  obtain⟨hq,hr⟩:=req_some hr
  have hzz:z'.length=z.length:=by simpa using hq
  obtain rfl:=ret_some hr
  obtain⟨ad,cap,rfl,hcap,hcase⟩:=hx.inv_ro
  rcases hcase with rfl|⟨g,off,vs,hpos,rfl,hg,hW,hc,hxx,hpp⟩
  ·exact⟨[],rows_nil.up⟩
  ·rw[←hzz]
   exact rows_slice vs (.inl (by omega)) (fun i j hi hj=>(hc i j hi hj).1) hW.len hxx (Nat.le_refl _) (fun h=>by omega) hpp hx.ro_len
 |ref b off len=>
  have hr:=mem_some hr
  obtain⟨blk,hm,hr⟩:=bind_some hr
  obtain⟨hm,harr⟩:=arrB_some hm
  obtain⟨hq,hr⟩:=req_some hr
  simp only[Bool.and_eq_true,beq_iff_eq,decide_eq_true_eq]at hq
  obtain rfl:=ret_some hr
  obtain⟨l,hl,hn,ad,cap,rfl,hcap,hcase⟩:=hx.inv_ref
  obtain⟨arr,lvl,z',rows⟩:=blk
  simp only at harr hq
  subst harr
  have hat:=h.lv b _ hm
  obtain⟨hs,hln⟩:=hat.width hl
  simp only at hs hln
  have hsl:(subA rows off len).length=len:=by simp[subA];omega
  by_cases h0:len=0
  ·have:subA rows off len=[]:=List.eq_nil_of_length_eq_zero (by rw[hsl,h0])
   simp only[this]
   subst h0
   have hnil:Rows P w (RS E w (Owned ob X)) z.length (.slice ad 0 cap) 0 [] []:=rows_nil
   have hl01:lvl=0∨lvl=1:=by omega
   rcases hl01 with rfl|rfl
   ·exact⟨[],hnil⟩
   ·exact⟨[],hnil.up⟩
  ·rcases hcase with⟨h1,_⟩|⟨hbd,rfl,hbf⟩
   ·exact absurd h1 h0
   ·obtain⟨_,_,_,hb,hW,hO,vs,hcc,hcx,hfl,hpl⟩:=hat.plainArr hq.2 (.inl (by omega)) hl
    have hget: ∀i,i<len→(subA rows off len)[i]? =rows[off+i]? :=fun i hi=>by simp[subA,hi]
    have hmem: ∀row∈subA rows off len,row∈rows:=fun row hr=>List.mem_of_mem_drop (List.mem_of_mem_take hr)
    have:=rows_slice (P:=P) (w:=w) (R:=RS E w (Owned ob X)) (g:=l.g) (o:=l.base+off*l.s) (s:=z.length) (lvl:=lvl) (cap:=cap) (rows:=subA rows off len) (fun i j=>vs (off+i) j) (.inl hz)
     (fun i j hi hj=>by
      have:=hcc (off+i) j (by omega) (by omega)
      rw[Nat.add_mul,←Nat.add_assoc]at this
      rw[hs]
      rw[←hq.1]
      exact this)
     (fun row hr=>(hW.len row (hmem row hr)).trans hq.1)
     (fun i j row x h1 h2=>hcx (off+i) j row x (by rw[←hget i (by have:=(List.getElem?_eq_some_iff.1 h1).1;omega)];exact h1) h2)
     hq.2 (fun h0 row hr=>hfl h0 row (hmem row hr)) (fun row hr=>hpl row (hmem row hr)) (by rw[hsl];exact hx.ref_len)
    rw[hsl]at this
    exact this
 |str s=>
  obtain⟨hq,hr⟩:=req_some hr
  have hz1:z.length=1:=by simpa using hq
  obtain rfl:=ret_some hr
  have hsm:=hx.str_len
  have:=hx.inv_str
  subst this
  rw[hz1]
  refine⟨s.map fun b=>Value.int .u8 b.toNat,?_,by simp[u8rows],fun n w' hn hh=> ?_,fun u hu=> ?_,fun row hr=> ?_,fun i j row x h1 h2=> ?_,by omega,fun _ row hr x hx=> ?_,fun row hr x hx=> ?_,by simpa[u8rows]using hsm⟩
  ·simp[Builtin.lenOf,u8rows,ByteArray.size];rfl
  ·simp only[Builtin.firstCells]
   simp only[Nat.mul_one]
   have:((ByteArray.mk s.toArray).extract 0 n).data.map (fun b:UInt8=>Value.int IntKind.u8 (b.toNat:Int))=((s.map fun b=>Value.int .u8 b.toNat).take n).toArray:=by
    apply Array.ext'
    simp[ByteArray.data_extract,List.map_take,List.extract]
   rw[this]
   rfl
  ·simp only[List.mem_map]at hu
   obtain⟨b,_,rfl⟩:=hu
   rfl
  ·simp only[u8rows,List.mem_map]at hr
   obtain⟨b,_,rfl⟩:=hr
   rfl
  ·simp only[u8rows,List.getElem?_map,Option.map_eq_some_iff]at h1
   obtain⟨b,hb,rfl⟩:=h1
   have hj:j=0:=by
    have:=(List.getElem?_eq_some_iff.1 h2).1
    simpa using this
   subst hj
   simp only[List.getElem?_cons_zero,Option.some.injEq]at h2
   subst h2
   refine .sc ?_ emp_none2
   exact⟨by simp[hb],fits_u8 b⟩
  ·simp only[u8rows,List.mem_map]at hr
   obtain⟨b,_,rfl⟩:=hr
   simp at hx
   subst hx
   rfl
  ·simp only[u8rows,List.mem_map]at hr
   obtain⟨b,_,rfl⟩:=hr
   simp at hx
   subst hx
   rfl
 |_=>exact(fail_some hr).elim
theorem srcOk_some(hT:T.ok P){t:TypeId}{u:Unit}(hr:(srcOk T t).run st=some u): ∃d,P.underlying t=some d∧((∃e,d=.slice e)∨d=.string):=by
 obtain⟨i,hi,hr⟩:=bind_some hr
 have hti:=hT.at (TI_some hi)
 obtain⟨d,hd,hut⟩:=hti.und
 refine⟨d,hd,?_⟩
 split at hr
 ·rename_i e hu
  rw[hut]at hu
  exact .inl ⟨e,und_slice hu⟩
 ·rename_i hu
  rw[hut]at hu
  exact .inr (und_str hu)
 ·exact(fail_some hr).elim
end
end Go.Abs
