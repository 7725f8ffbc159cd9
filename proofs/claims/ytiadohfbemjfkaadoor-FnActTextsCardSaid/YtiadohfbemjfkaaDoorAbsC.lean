/- The abstract layer, 14: conversions. -/
import Derived.Test.YtiadohfbemjfkaaDoorAbsZ
import Derived.Laws.IdiomStrings
set_option linter.unusedVariables false
set_option linter.unusedSimpArgs false
noncomputable section
namespace Go.Abs
open Go
section
variable{P:Program}{T:TT}{E:Env}{o:Oper}{st:St}{a:Act}{w:World}{X:Cells}{loc:Locs}{ob:Nat→Cells}{r:Res}
theorem bytes_rows: ∀(rows:List (List AV))(b:List UInt8),bytesOfRows rows=some b→ ∃ns:List Int,rows=ns.map (fun n=>[AV.int .u8 n])∧b=ns.map (fun n=>UInt8.ofNat n.toNat)
 |[],b,h=>by
  simp only[bytesOfRows,Option.some.injEq]at h
  exact⟨[],rfl,h.symm⟩
 |r::l,b,h=>by
  simp only[bytesOfRows]at h
  split at h
  ·rename_i n
   rw[Option.map_eq_some_iff]at h
   obtain⟨s,h1,rfl⟩:=h
   obtain⟨ns,rfl,rfl⟩:=bytes_rows l s h1
   exact⟨n::ns,rfl,rfl⟩
  ·cases h
theorem fold_push: ∀(ns:List Int)(r:ByteArray),ns.foldl (fun r n=>r.push (UInt8.ofNat n.toNat)) r=⟨r.data++(ns.map fun n=>UInt8.ofNat n.toNat).toArray⟩
 |[],r=>by simp
 |n::l,r=>by
  simp only[List.map_cons,List.foldl_cons]
  rw[fold_push l]
  simp[ByteArray.push]
theorem did_convert(hT:T.ok P)(h:RelC E st a w X loc ob){s t:TypeId}{x:Operand}(ho:o.op=.convert s t x){d:Nat}(hr:(evConvert T s t x d).run st=some r):Did P E o st a w X r:=by
 obtain⟨i,hi,hr1⟩:=bind_some hr
 have hti:=hT.at (TI_some hi)
 obtain⟨ds,hds,hus⟩:=hti.und
 obtain⟨j,hj,hr2⟩:=bind_some hr1
 have htj:=hT.at (TI_some hj)
 obtain⟨dt,hdt,hut⟩:=htj.und
 obtain⟨v,hv0,hr3⟩:=bind_some hr2
 have hv:=opnd_some h hv0
 clear hv0
 have hrun: ∀u w',(convert s t (a.eval x)).run P w=.ok u w'→(execOp a.eval o).run P w=.ok (.value u) w':=by
  intro u w' hu
  obtain⟨_,op,ty,_,_,_⟩:=o
  subst ho
  simp only[execOp]
  exact run_v hu
 unfold convA at hr3
 split at hr3
 case h_1=>
  rename_i k hk
  rw[hut]at hk
  obtain rfl:=und_int hk
  split at hr3
  ·rename_i k' n
   obtain rfl:=val_some hr3
   have hev:=hv.inv_int
   refine Did.pure h (v:=.int k (k.wrap n)) (hrun _ _ ?_) (.sc ⟨rfl,fits_wrap _ _⟩ emp_none2)
   rw[hev]
   cases ds<;>simp[convert,run_underlying hds,run_underlying hdt,Conv.intToInt]
  ·exact(fail_some hr3).elim
 case h_2=>
  rename_i hk
  rw[hut]at hk
  obtain rfl:=und_str hk
  split at hr3
  ·rename_i b
   obtain rfl:=val_some hr3
   have hev:=hv.inv_str
   refine Did.pure h (v:=.string ⟨b.toArray⟩) (hrun _ _ ?_) (.sc ⟨rfl,hv.str_len⟩ emp_none2)
   rw[hev]
   cases ds<;>simp[convert,run_underlying hds,run_underlying hdt]
  ·rename_i v' hns
   split at hr3
   ·rename_i e he
    rw[hus]at he
    obtain rfl:=und_slice he
    obtain⟨je,hje,hr4⟩:=bind_some hr3
    have hte:=hT.at (TI_some hje)
    obtain⟨de,hde,hue⟩:=hte.und
    split at hr4
    ·rename_i hu8
     rw[hue]at hu8
     obtain rfl:=und_int hu8
     obtain⟨rs,hrs,hr5⟩:=bind_some hr4
     obtain⟨b,hb,hr6⟩:=bind_some hr5
     have hb:=ofOpt_some hb
     obtain rfl:=val_some hr6
     obtain⟨news,hR⟩:=rowsOf_some (P:=P) h hv hrs (by simp)
     obtain⟨ns,hns',rfl⟩:=bytes_rows _ _ hb
     have hrl:rs.2.length=ns.length:=by rw[hns'];simp
     have hnl:=hR.nlen
     have hnn:news=ns.map (Value.int .u8):=by
      apply List.ext_getElem?
      intro k
      by_cases hk:k<ns.length
      ·have h1:rs.2[k]? =some [AV.int .u8 ns[k]]:=by rw[hns'];simp[hk]
       have:=hR.at_ k 0 _ (AV.int .u8 ns[k]) h1 (by simp)
       have hval:=this.inv_int
       simp only[List.length_cons,List.length_nil,Nat.zero_add,Nat.mul_one,Nat.add_zero]at hval hnl
       have hk':k<news.length:=by omega
       rw[List.getD_eq_getElem?_getD,List.getElem?_eq_getElem hk']at hval
       simp only[Option.getD_some]at hval
       rw[List.getElem?_eq_getElem hk',hval]
       simp[hk]
      ·simp only[List.length_cons,List.length_nil,Nat.zero_add,Nat.mul_one]at hnl
       rw[List.getElem?_eq_none (by omega),List.getElem?_eq_none (by simp;omega)]
     have hsl: ∃ad cap,a.eval x=.slice ad rs.2.length cap:=by
      have hlen:=hR.len
      cases v with
      |str s=>exact absurd rfl (hns s)
      |emp=>
       obtain⟨ad,hav⟩:=hv.inv_emp
       have h0:rs.2.length=0:=by rw[hav]at hlen;injection hlen with hlen;exact hlen.symm
       exact⟨ad,0,by rw[h0];exact hav⟩
      |ro z rows=>
       obtain⟨ad,cap,hav,_⟩:=hv.inv_ro
       have h0:rs.2.length=rows.length:=by rw[hav]at hlen;injection hlen with hlen;exact hlen.symm
       exact⟨ad,cap,by rw[h0];exact hav⟩
      |ref b' off len=>
       obtain⟨_,_,_,ad,cap,hav,_⟩:=hv.inv_ref
       have h0:rs.2.length=len:=by rw[hav]at hlen;injection hlen with hlen;exact hlen.symm
       exact⟨ad,cap,by rw[h0];exact hav⟩
      |_=>exact(fail_some hrs).elim
     obtain⟨ad,cap,hav⟩:=hsl
     have hrd:=hR.read rs.2.length w (Nat.le_refl _) rfl
     rw[←hnl,List.take_length,hnn,hav]at hrd
     refine Did.pure h (v:=.string ⟨(ns.map fun(n:Int)=>UInt8.ofNat n.toNat).toArray⟩) (hrun _ _ ?_) (.sc ⟨rfl,by rw[List.length_map,←hrl];exact hR.max⟩ emp_none2)
     rw[hav,run_convert_bytes_string w s t e ad rs.2.length cap hds hde hdt]
     cases ad with
     |none=>
      have h0:ns=[]:=by
       simp only[Builtin.firstCells,Sem.run_pure]at hrd
       injection hrd with hrd
       have:=congrArg Array.toList hrd
       simpa using this.symm
      subst h0
      rfl
     |some ad=>
      simp only[Builtin.firstCells,List.length_cons,List.length_nil,Nat.zero_add,Nat.mul_one]at hrd
      rw[run_bytesToString w ad _ cap ns hrd,fold_push]
      simp
    ·exact(fail_some hr4).elim
   ·exact(fail_some hr3).elim
 case h_3=>
  rename_i e he
  rw[hut]at he
  obtain rfl:=und_slice he
  split at hr3
  ·rename_i b
   split at hr3
   case h_2=>exact(fail_some hr3).elim
   rename_i hsu
   rw[hus]at hsu
   obtain rfl:=und_str hsu
   obtain⟨je,hje,hr4⟩:=bind_some hr3
   have hte:=hT.at (TI_some hje)
   obtain⟨de,hde,hue⟩:=hte.und
   split at hr4
   ·rename_i hu8
    rw[hue]at hu8
    obtain rfl:=und_int hu8
    obtain⟨hd,hr5⟩:=newB_some hr4
    obtain rfl:=ret_some hr5
    have hev:=hv.inv_str
    have hss:(ByteArray.mk b.toArray).size=b.length:=by simp[ByteArray.size]
    have hge:=grownCap_ge w b.length 0 e
    obtain⟨h2,h3⟩:=h.world (w':=w.drew) (Frame.drew w _ none2)
    have hcs:(bytesRow ⟨b.toArray⟩ (grownCap w b.length 0 e)).size=grownCap w b.length 0 e:=by
     simp only[bytesRow,Array.size_append,Array.size_map,Array.size_replicate,hss,List.size_toArray]
     omega
    obtain⟨ob',h4,h5,h6⟩:=h2.newArr hd (lvl:=0) (z:=[.int .u8 0]) (rows:=u8rows b) (bytesRow ⟨b.toArray⟩ (grownCap w b.length 0 e)) e (grownCap w b.length 0 e,grownCap w b.length 0 e+1)
     (fun i hi=>by rw[hcs]at hi;omega)
     ⟨fun row hr=>by simp only[u8rows,List.mem_map]at hr;obtain⟨c,_,rfl⟩:=hr;rfl,fun row hr x hx=>by
      simp only[u8rows,List.mem_map]at hr
      obtain⟨c,_,rfl⟩:=hr
      simp only[List.mem_singleton]at hx
      subst hx
      rfl⟩
     (by rw[hcs];simpa[u8rows]using hge)
     (fun i' j' row x h1 h2=>by
      simp only[u8rows,List.getElem?_map,Option.map_eq_some_iff]at h1
      obtain⟨c,hc,rfl⟩:=h1
      have hj:j'=0:=by
       have:=(List.getElem?_eq_some_iff.1 h2).1
       simpa using this
      subst hj
      simp only[List.getElem?_cons_zero,Option.some.injEq]at h2
      subst h2
      have hi':i'<b.length:=(List.getElem?_eq_some_iff.1 hc).1
      refine .sc ⟨?_,fits_u8 c⟩ emp_none2
      simp only[bytesRow,List.length_cons,List.length_nil,Nat.zero_add,Nat.mul_one,Nat.add_zero]
      rw[Array.getD_eq_getD_getElem?,Array.getElem?_append_left (by simpa using hi')]
      simp[hc])
     (fun _ row hr x hx=>by
      simp only[u8rows,List.mem_map]at hr
      obtain⟨c,_,rfl⟩:=hr
      simp only[List.mem_singleton]at hx
      subst hx
      rfl)
     (fun _ row hr x hx=>by
      simp only[u8rows,List.mem_map]at hr
      obtain⟨c,_,rfl⟩:=hr
      simp only[List.mem_singleton]at hx
      subst hx
      rfl) (by simpa[u8rows]using hv.str_len)
    refine⟨_,_,_,_,ob',hrun _ _ ?_,.inl rfl,h4,h6 b.length (grownCap w b.length 0 e) (by simp[u8rows]) hge (by rw[hcs];simp)⟩
    have:=run_bytes_of_string w s t e ⟨b.toArray⟩ hds hdt hde
    rw[hss,hcs]at this
    rw[hev]
    exact this
   ·exact(fail_some hr4).elim
  ·rename_i b off len
   split at hr3
   case h_2=>exact(fail_some hr3).elim
   rename_i hsame
   obtain rfl:s=t:=Nat.eq_of_beq_eq_true hsame
   rw[hds]at hdt
   injection hdt with hdt
   subst hdt
   obtain⟨je,hje,hr4⟩:=bind_some hr3
   have hte:=hT.at (TI_some hje)
   obtain⟨de,hde,hue⟩:=hte.und
   split at hr4
   ·rename_i hu8
    rw[hue]at hu8
    obtain rfl:=und_int hu8
    obtain⟨hq,hr5⟩:=req_some hr4
    have hq:=of_decide_eq_true hq
    have hr5:=mem_some hr5
    obtain⟨blk,hm,hr6⟩:=bind_some hr5
    obtain⟨hm,harr⟩:=arrB_some hm
    obtain rfl:=val_some hr6
    obtain⟨l,hl,hle,ad,cap,hev,hcap,hcs⟩:=hv.inv_ref
    rcases hcs with⟨h0,_⟩|⟨hbd,rfl,hbf⟩
    ·omega
    have hbr:=h.lv b blk hm
    have hO: ∀o,ob b l.g o:=by
     cases hbr with
     |arr0 l' hl' hn=>rw[hl]at hl';injection hl' with hl';subst hl';omega
     |arr l' vs os hl' hbd' hs hn hb hw hc hx hO=>rw[hl]at hl';injection hl' with hl';subst hl';exact fun o=>(hO _ _).2 (.inl rfl)
     |var=>cases harr
    obtain⟨c,e',fz,hcell,hsz,hf1,hf2⟩:=hbf
    have hF:Frame w (w.freeze ⟨l.g,c.size,none⟩ 1) (fun g _=>g=l.g):=Frame.freeze w _ ⟨0,rfl⟩ hcell rfl hf1 hf2
    have hK:Keeps w (w.freeze ⟨l.g,c.size,none⟩ 1) (fun _ _=>True):=⟨hF.size,hF.bf,fun g o _=>freeze_cell g o⟩
    have hRS: ∀g o,RS E w (Owned ob X) g o→True∧RS E (w.freeze ⟨l.g,c.size,none⟩ 1) (Owned ob X) g o:=fun g o k=>⟨trivial,RS.sub hF.size (fun _ _ k=>.inl k) g o k⟩
    refine⟨_,.slice (some ⟨l.g,l.base+off*l.s,none⟩) len cap,w.freeze ⟨l.g,c.size,none⟩ 1,loc,ob,hrun _ _ ?_,.inl rfl,?_,hev▸(hv.keep hK hRS (fun _ _ _=>trivial) fun _ _ k=>k)⟩
    ·rw[hev]
     have hsh:w.shape? l.g=some (e',c.size):=by simp[World.shape?,hcell]
     simp[convert,run_underlying hds,run_underlying hde,markStringish,shape,freeze,Sem.run,hsh]
    ·refine h.go (fun g _=>g=l.g) rfl rfl hF (fun g o k=>⟨.inl k,Nat.lt_of_lt_of_le (h.lt g o k) hF.size⟩) (fun g o k=>.inl ⟨b,k▸hO o⟩) (fun _ _ k=>k) (fun b'=> ?_) h.db h.dx
     by_cases hbb:b'=b
     ·subst hbb
      refine .inr ?_
      show BF1 _ _ _ _ _ (st.m b') _
      rw[hm]
      exact hbr.keep hK hRS (fun _ _ _=>trivial) fun _ _ k=>k
     ·exact .inl ⟨rfl,rfl,rfl,fun g o hw k=>h.db b' b hbb g o k (hw▸hO o)⟩
   ·exact(fail_some hr4).elim
  ·exact(fail_some hr3).elim
 case h_4=>exact(fail_some hr3).elim
end
end Go.Abs
