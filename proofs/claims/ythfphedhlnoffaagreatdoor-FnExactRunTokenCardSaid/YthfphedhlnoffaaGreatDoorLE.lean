import Derived.Test.YthfphedhlnoffaaGreatDoorLD
import Derived.Laws.IdiomStrings
import Derived.Lib.LaidTab
import Derived.Lib.ItoaNum
import Derived.Lib.TrailingZeros
import Derived.Lib.Space
/- The abstract layer, 14: conversions. -/
set_option linter.unusedVariables false
set_option linter.unusedSimpArgs false
noncomputable section
namespace Go.Abs
open Go
section
variable{P:Program}{T:TT}{E:Env}{o:Oper}{st:St}{a:Act}{w:World}{X:Cells}{loc:bG}{ob:Nat→Cells}{r:di}
theorem qq: ∀(rows:List (List AV))(b:List UInt8),cI rows=some b→ ∃ns:List Int,rows=ns.map (fun n=>[AV.int .u8 n])∧b=ns.map (fun n=>UInt8.ofNat n.toNat)
 |[],b,h=>by
  simp only[cI,Option.some.injEq]at h
  exact⟨[],rfl,h.symm⟩
 |r::l,b,h=>by
  simp only[cI]at h
  split at h
  ·rename_i n
   rw[Option.map_eq_some_iff]at h
   obtain⟨s,h1,rfl⟩:=h
   obtain⟨ns,rfl,rfl⟩:=qq l s h1
   exact⟨n::ns,rfl,rfl⟩
  ·cases h
theorem sH: ∀(ns:List Int)(r:ByteArray),ns.foldl (fun r n=>r.push (UInt8.ofNat n.toNat)) r=⟨r.data++(ns.map fun n=>UInt8.ofNat n.toNat).toArray⟩
 |[],r=>by simp
 |n::l,r=>by
  simp only[List.map_cons,List.foldl_cons]
  rw[sH l]
  simp[ByteArray.push]
theorem vh(hT:T.ok P)(h:RelC E st a w X loc ob){s t:TypeId}{x:Operand}(ho:o.op=.convert s t x){d:Nat}(hr:(fB T s t x d).run st=some r):Did P E o st a w X r:=by
 obtain⟨i,hi,hr1⟩:=bind_some hr
 have hti:=hT.at (cL hi)
 obtain⟨ds,hds,hus⟩:=hti.und
 obtain⟨j,hj,hr2⟩:=bind_some hr1
 have htj:=hT.at (cL hj)
 obtain⟨dt,hdt,hut⟩:=htj.und
 obtain⟨v,hv0,hr3⟩:=bind_some hr2
 have hv:=bp h hv0
 clear hv0
 have hrun: ∀u w',(convert s t (a.eval x)).run P w=.ok u w'→(execOp a.eval o).run P w=.ok (.value u) w':=by
  intro u w' hu
  obtain⟨_,op,ty,_,_,_⟩:=o
  subst ho
  simp only[execOp]
  exact eF hu
 unfold py at hr3
 split at hr3
 case h_1=>
  rename_i k hk
  rw[hut]at hk
  obtain rfl:=nO hk
  split at hr3
  ·rename_i k' n
   obtain rfl:=bA hr3
   have hev:=hv.inv_int
   refine Did.pure h (v:=.int k (k.wrap n)) (hrun _ _ ?_) (.sc ⟨rfl,jk _ _⟩ ah)
   rw[hev]
   cases ds<;>simp[convert,run_underlying hds,run_underlying hdt,Conv.intToInt]
  ·exact(ay hr3).elim
 case h_2=>
  rename_i hk
  rw[hut]at hk
  obtain rfl:=jD hk
  split at hr3
  ·rename_i b
   obtain rfl:=bA hr3
   have hev:=hv.inv_str
   refine Did.pure h (v:=.string ⟨b.toArray⟩) (hrun _ _ ?_) (.sc ⟨rfl,hv.str_len⟩ ah)
   rw[hev]
   cases ds<;>simp[convert,run_underlying hds,run_underlying hdt]
  ·rename_i v' hns
   split at hr3
   ·rename_i e he
    rw[hus]at he
    obtain rfl:=fC he
    obtain⟨je,hje,hr4⟩:=bind_some hr3
    have hte:=hT.at (cL hje)
    obtain⟨de,hde,hue⟩:=hte.und
    split at hr4
    ·rename_i hu8
     rw[hue]at hu8
     obtain rfl:=nO hu8
     obtain⟨rs,hrs,hr5⟩:=bind_some hr4
     obtain⟨b,hb,hr6⟩:=bind_some hr5
     have hb:=jR hb
     obtain rfl:=bA hr6
     obtain⟨news,hR⟩:=lg (P:=P) h hv hrs (by simp)
     obtain⟨ns,hns',rfl⟩:=qq _ _ hb
     have hrl:rs.2.length=ns.length:=by rw[hns'];simp
     have hnl:=hR.nlen
     have hnn:news=ns.map (Value.int .u8):=by
      apply List.ext_getElem?
      intro k
      by_cases hk:k<ns.length
      ·have h1:rs.2[k]? =some [AV.int .u8 ns[k]]:=by rw[hns'];simp[hk]
       have:=hR.at_ k 0 _ (AV.int .u8 ns[k]) h1 (by simp)
       have hval:=this.inv_int
       simp only[List.length_cons,List.length_nil,Nat.zero_add,Nat.mul_one,Nat.add_zero]at hval hnl
       have hk':k<news.length:=by omega
       rw[List.getD_eq_getElem?_getD,List.getElem?_eq_getElem hk']at hval
       simp only[Option.getD_some]at hval
       rw[List.getElem?_eq_getElem hk',hval]
       simp[hk]
      ·simp only[List.length_cons,List.length_nil,Nat.zero_add,Nat.mul_one]at hnl
       rw[List.getElem?_eq_none (by omega),List.getElem?_eq_none (by simp;omega)]
     have hsl: ∃ad cap,a.eval x=.slice ad rs.2.length cap:=by
      have hlen:=hR.len
      cases v with
      |str s=>exact absurd rfl (hns s)
      |emp=>
       obtain⟨ad,hav⟩:=hv.inv_emp
       have h0:rs.2.length=0:=by rw[hav]at hlen;injection hlen with hlen;exact hlen.symm
       exact⟨ad,0,by rw[h0];exact hav⟩
      |ro z rows=>
       obtain⟨ad,cap,hav,_⟩:=hv.inv_ro
       have h0:rs.2.length=rows.length:=by rw[hav]at hlen;injection hlen with hlen;exact hlen.symm
       exact⟨ad,cap,by rw[h0];exact hav⟩
      |ref b' off len=>
       obtain⟨_,_,_,ad,cap,hav,_⟩:=hv.inv_ref
       have h0:rs.2.length=len:=by rw[hav]at hlen;injection hlen with hlen;exact hlen.symm
       exact⟨ad,cap,by rw[h0];exact hav⟩
      |_=>exact(ay hrs).elim
     obtain⟨ad,cap,hav⟩:=hsl
     have hrd:=hR.read rs.2.length w (Nat.le_refl _) rfl
     rw[←hnl,List.take_length,hnn,hav]at hrd
     refine Did.pure h (v:=.string ⟨(ns.map fun(n:Int)=>UInt8.ofNat n.toNat).toArray⟩) (hrun _ _ ?_) (.sc ⟨rfl,by rw[List.length_map,←hrl];exact hR.max⟩ ah)
     rw[hav,run_convert_bytes_string w s t e ad rs.2.length cap hds hde hdt]
     cases ad with
     |none=>
      have h0:ns=[]:=by
       simp only[Builtin.firstCells,Sem.run_pure]at hrd
       injection hrd with hrd
       have:=congrArg Array.toList hrd
       simpa using this.symm
      subst h0
      rfl
     |some ad=>
      simp only[Builtin.firstCells,List.length_cons,List.length_nil,Nat.zero_add,Nat.mul_one]at hrd
      rw[run_bytesToString w ad _ cap ns hrd,sH]
      simp
    ·exact(ay hr4).elim
   ·exact(ay hr3).elim
 case h_3=>
  rename_i e he
  rw[hut]at he
  obtain rfl:=fC he
  split at hr3
  ·rename_i b
   split at hr3
   case h_2=>exact(ay hr3).elim
   rename_i hsu
   rw[hus]at hsu
   obtain rfl:=jD hsu
   obtain⟨je,hje,hr4⟩:=bind_some hr3
   have hte:=hT.at (cL hje)
   obtain⟨de,hde,hue⟩:=hte.und
   split at hr4
   ·rename_i hu8
    rw[hue]at hu8
    obtain rfl:=nO hu8
    obtain⟨hd,hr5⟩:=gH hr4
    obtain rfl:=au hr5
    have hev:=hv.inv_str
    have hss:(ByteArray.mk b.toArray).size=b.length:=by simp[ByteArray.size]
    have hge:=grownCap_ge w b.length 0 e
    obtain⟨h2,h3⟩:=h.world (w':=w.drew) (Frame.drew w _ ae)
    have hcs:(bytesRow ⟨b.toArray⟩ (grownCap w b.length 0 e)).size=grownCap w b.length 0 e:=by
     simp only[bytesRow,Array.size_append,Array.size_map,Array.size_replicate,hss,List.size_toArray]
     omega
    obtain⟨ob',h4,h5,h6⟩:=h2.newArr hd (lvl:=0) (z:=[.int .u8 0]) (rows:=dq b) (bytesRow ⟨b.toArray⟩ (grownCap w b.length 0 e)) e (grownCap w b.length 0 e,grownCap w b.length 0 e+1)
     (fun i hi=>by rw[hcs]at hi;omega)
     ⟨fun row hr=>by simp only[dq,List.mem_map]at hr;obtain⟨c,_,rfl⟩:=hr;rfl,fun row hr x hx=>by
      simp only[dq,List.mem_map]at hr
      obtain⟨c,_,rfl⟩:=hr
      simp only[List.mem_singleton]at hx
      subst hx
      rfl⟩
     (by rw[hcs];simpa[dq]using hge)
     (fun i' j' row x h1 h2=>by
      simp only[dq,List.getElem?_map,Option.map_eq_some_iff]at h1
      obtain⟨c,hc,rfl⟩:=h1
      have hj:j'=0:=by
       have:=(List.getElem?_eq_some_iff.1 h2).1
       simpa using this
      subst hj
      simp only[List.getElem?_cons_zero,Option.some.injEq]at h2
      subst h2
      have hi':i'<b.length:=(List.getElem?_eq_some_iff.1 hc).1
      refine .sc ⟨?_,yw c⟩ ah
      simp only[bytesRow,List.length_cons,List.length_nil,Nat.zero_add,Nat.mul_one,Nat.add_zero]
      rw[Array.getD_eq_getD_getElem?,Array.getElem?_append_left (by simpa using hi')]
      simp[hc])
     (fun _ row hr x hx=>by
      simp only[dq,List.mem_map]at hr
      obtain⟨c,_,rfl⟩:=hr
      simp only[List.mem_singleton]at hx
      subst hx
      rfl)
     (fun _ row hr x hx=>by
      simp only[dq,List.mem_map]at hr
      obtain⟨c,_,rfl⟩:=hr
      simp only[List.mem_singleton]at hx
      subst hx
      rfl) (by simpa[dq]using hv.str_len)
    refine⟨_,_,_,_,ob',hrun _ _ ?_,.inl rfl,h4,h6 b.length (grownCap w b.length 0 e) (by simp[dq]) hge (by rw[hcs];simp)⟩
    have:=run_bytes_of_string w s t e ⟨b.toArray⟩ hds hdt hde
    rw[hss,hcs]at this
    rw[hev]
    exact this
   ·exact(ay hr4).elim
  ·rename_i b off len
   split at hr3
   case h_2=>exact(ay hr3).elim
   rename_i hsame
   obtain rfl:s=t:=Nat.eq_of_beq_eq_true hsame
   rw[hds]at hdt
   injection hdt with hdt
   subst hdt
   obtain⟨je,hje,hr4⟩:=bind_some hr3
   have hte:=hT.at (cL hje)
   obtain⟨de,hde,hue⟩:=hte.und
   split at hr4
   ·rename_i hu8
    rw[hue]at hu8
    obtain rfl:=nO hu8
    obtain⟨hq,hr5⟩:=bb hr4
    have hq:=of_decide_eq_true hq
    have hr5:=cM hr5
    obtain⟨blk,hm,hr6⟩:=bind_some hr5
    obtain⟨hm,harr⟩:=dC hm
    obtain rfl:=bA hr6
    obtain⟨l,hl,hle,ad,cap,hev,hcap,hcs⟩:=hv.inv_ref
    rcases hcs with⟨h0,_⟩|⟨hbd,rfl,hbf⟩
    ·omega
    have hbr:=h.lv b blk hm
    have hO: ∀o,ob b l.g o:=by
     cases hbr with
     |arr0 l' hl' hn=>rw[hl]at hl';injection hl' with hl';subst hl';omega
     |arr l' vs os hl' hbd' hs hn hb hw hc hx hO=>rw[hl]at hl';injection hl' with hl';subst hl';exact fun o=>(hO _ _).2 (.inl rfl)
     |var=>cases harr
    obtain⟨c,e',fz,hcell,hsz,hf1,hf2⟩:=hbf
    have hF:Frame w (w.freeze ⟨l.g,c.size,none⟩ 1) (fun g _=>g=l.g):=Frame.freeze w _ ⟨0,rfl⟩ hcell rfl hf1 hf2
    have hK:Keeps w (w.freeze ⟨l.g,c.size,none⟩ 1) (fun _ _=>True):=⟨hF.size,hF.bf,fun g o _=>pq g o⟩
    have hRS: ∀g o,RS E w (al ob X) g o→True∧RS E (w.freeze ⟨l.g,c.size,none⟩ 1) (al ob X) g o:=fun g o k=>⟨trivial,RS.sub hF.size (fun _ _ k=>.inl k) g o k⟩
    refine⟨_,.slice (some ⟨l.g,l.base+off*l.s,none⟩) len cap,w.freeze ⟨l.g,c.size,none⟩ 1,loc,ob,hrun _ _ ?_,.inl rfl,?_,hev▸(hv.keep hK hRS (fun _ _ _=>trivial) fun _ _ k=>k)⟩
    ·rw[hev]
     have hsh:w.shape? l.g=some (e',c.size):=by simp[World.shape?,hcell]
     simp[convert,run_underlying hds,run_underlying hde,markStringish,shape,freeze,Sem.run,hsh]
    ·refine h.go (fun g _=>g=l.g) rfl rfl hF (fun g o k=>⟨.inl k,Nat.lt_of_lt_of_le (h.lt g o k) hF.size⟩) (fun g o k=>.inl ⟨b,k▸hO o⟩) (fun _ _ k=>k) (fun b'=> ?_) h.db h.dx
     by_cases hbb:b'=b
     ·subst hbb
      refine .inr ?_
      show pf _ _ _ _ _ (st.m b') _
      rw[hm]
      exact hbr.keep hK hRS (fun _ _ _=>trivial) fun _ _ k=>k
     ·exact .inl ⟨rfl,rfl,rfl,fun g o hw k=>h.db b' b hbb g o k (hw▸hO o)⟩
   ·exact(ay hr4).elim
  ·exact(ay hr3).elim
 case h_4=>exact(ay hr3).elim
end
end Go.Abs

/- The abstract layer, 15: every operation but a call. -/
noncomputable section
namespace Go.Abs
open Go
section
variable{P:Program}{T:TT}{E:Env}{o:Oper}{st:St}{a:Act}{w:World}{X:Cells}{loc:bG}{ob:Nat→Cells}{r:di}
theorem DV(hT:T.ok P)(h:RelC E st a w X loc ob)(hr:(io T o).run st=some r):Did P E o st a w X r:=by
 unfold io at hr
 split at hr
 ·rename_i x ho;exact vq h (.inl ho) hr
 ·rename_i x ho;exact vq h (.inr ho) hr
 ·rename_i ho;exact Cf h ho hr
 ·rename_i ho;obtain⟨d,_,hr⟩:=fQ hr;exact zP hT h ho hr
 ·rename_i ho;obtain⟨d,_,hr⟩:=fQ hr;exact Di h ho hr
 ·rename_i ho;exact zM hT h ho hr
 ·rename_i ho;obtain⟨d,_,hr⟩:=fQ hr;exact qu hT h ho hr
 ·rename_i ho;exact AK hT h ho hr
 ·rename_i ho;exact yX hT h ho hr
 ·rename_i ho;exact Dd h ho hr
 ·rename_i ho;exact Dz hT h ho hr
 ·rename_i ho;exact F5 h ho hr
 ·rename_i ho;obtain⟨d,_,hr⟩:=fQ hr;exact vh hT h ho hr
 ·rename_i ho;exact vO h ho hr
 ·rename_i ho;exact zF hT h ho hr
 ·rename_i ho;exact sV h ho hr
 ·rename_i ho;obtain⟨d,_,hr⟩:=fQ hr;exact rN hT h ho hr
 ·rename_i mx ho
  split at hr
  ·exact zf hT h ho hr
  ·exact(ay hr).elim
 ·rename_i ho;exact rO hT h ho hr
 ·rename_i ho;exact rM hT h ho hr
 ·rename_i ho;exact yW h hT ho hr
 ·rename_i c ho
  split at hr
  ·rename_i b hc
   cases b with
   |len=>exact D7 hT h ho hc hr
   |max=>exact rv (T:=T) h ho (.inl hc) (by rw[hc];exact hr)
   |min=>exact rv (T:=T) h ho (.inr hc) (by rw[hc];exact hr)
   |append=>exact wD hT h ho hc hr
   |copy=>exact B5 hT h ho hc hr
   |_=>exact(ay hr).elim
  ·exact(ay hr).elim
 ·exact(ay hr).elim
def St.after(s:St)(o:Oper)(r:di):St:=(s.mws r.2).put o.dst r.1
theorem fE(l:List (Nat × MB)): ∀s:St,(s.mws l).n=s.n:=by
 induction l with
 |nil=>intro s;rfl
 |cons x l ih=>intro s;exact(ih _).trans rfl
theorem oq(l:List (Nat × MB)): ∀s:St,(s.mws l).an=s.an:=by
 induction l with
 |nil=>intro s;rfl
 |cons x l ih=>intro s;exact(ih _).trans rfl
theorem vw(l:List (Nat × MB)): ∀s:St,(s.mws l).t=s.t:=by
 induction l with
 |nil=>intro s;rfl
 |cons x l ih=>intro s;exact(ih _).trans rfl
theorem uo(hd:st.dstOk o.dst=true)(hr:Did P E o st a w X r): ∃nx a' w',(execOp a.eval o).run P w=.ok nx w'∧((∃v,nx=.value v∧a'=a.put o.dst v)∨(nx=.skip∧a'=a.put o.dst undef))∧Rel E (st.after o r) a' w' X:=by
 obtain⟨nx,v,w',loc',ob',h1,h2,h3,h4⟩:=hr
 refine⟨nx,a.put o.dst v,w',h1,?_,loc',ob',h3.put o.dst r.1 v ?_ fun _=>h4⟩
 ·rcases h2 with h2|⟨h2,rfl⟩
  ·exact .inl ⟨v,h2,rfl⟩
  ·exact .inr ⟨h2,rfl⟩
 ·unfold St.dstOk at*
  rw[fE]
  exact hd
end
end Go.Abs

/- The abstract layer, 16: what goes into a call and what comes out of it. -/
noncomputable section
namespace Go.Abs
open Go
def AV.nr0:AV→Bool
 | .undef=>true
 | .int _ _=>true
 | .bool _=>true
 | .str _=>true
 | .nilp=>true
 | .nilfn=>true
 | .emp=>true
 | .own lvl _ _=>lvl==0
 | .fn _ caps=>caps.isEmpty
 |_=>false
def AV.nr1:AV→Bool
 | .agg cs=>cs.all AV.nr0
 |v=>v.nr0
def AV.nr:AV→Bool
 | .tup vs=>vs.all AV.nr1
 |v=>v.nr1
def eu(b:Nat):AV→AV × List (Nat × MB)
 | .own lvl z rows=>(.ref b 0 rows.length,[(b,.live ⟨true,lvl,z,rows⟩)])
 |v=>(v,[])
def cG:AV→Bool
 | .own _ _ _=>true
 |v=>v.light
def aD(b:Nat):List AV→List AV × List (Nat × MB)
 |[]=>([],[])
 |x::l=>((eu b x).1::(aD (b+1) l).1,(eu b x).2++(aD (b+1) l).2)
def fU(b:Nat):AV→AV × List (Nat × MB)
 | .agg cs=>(.agg (aD b cs).1,(aD b cs).2)
 |v=>eu b v
def cN:AV→Bool
 | .agg cs=>cs.all cG
 |v=>cG v
def bV(b:Nat):List AV→List AV × List (Nat × MB)
 |[]=>([],[])
 |x::l=>((fU b x).1::(bV (b+x.leaves.length) l).1,(fU b x).2++(bV (b+x.leaves.length) l).2)
def gP(b:Nat):AV→AV × List (Nat × MB)
 | .tup vs=>(.tup (bV b vs).1,(bV b vs).2)
 | .obj cs=>(.ptr b 0 0,(aD (b+1) cs).2++[(b,.live ⟨false,0,List.replicate cs.length .undef,[(aD (b+1) cs).1]⟩)])
 |v=>fU b v
def gm:AV→Bool
 | .tup vs=>vs.all cN
 | .obj cs=>cs.all cG
 |v=>cN v
section
variable{P:Program}{T:TT}{E:Env}{o:Oper}{st:St}{a:Act}{w:World}{X:Cells}{loc:bG}{ob:Nat→Cells}{r:di}
def Parts(w:World)(R:Cells)(loc:bG):List AV→List Value→Cells→Prop
 |[],[],O=>Emp O
 |x::l,v::vs,O=> ∃O1 O2,(∀g o,O g o↔O1 g o∨O2 g o)∧Disj O1 O2∧AR w R loc x v O1∧Parts w R loc l vs O2
 |_,_,_=>False
theorem dh{R:Cells}: ∀(l:List AV)(vs:List Value)(os:Nat→Cells)(O:Cells),vs.length=l.length→
  (∀(k:Nat) x v,l[k]? =some x→vs[k]? =some v→AR w R loc x v (os k))→Uni l.length os O→Parts w R loc l vs O
 |[],[],os,O,_,_,hu=>fun g o k=>by
  obtain⟨j,hj,_⟩:=(hu.iff g o).1 k
  simp at hj
 |[],_::_,_,_,h,_,_=>by simp at h
 |_::_,[],_,_,h,_,_=>by simp at h
 |x::l,v::vs,os,O,hl,hx,hu=>by
  let O2:Cells:=fun g o=> ∃j,j<l.length∧os (j+1) g o
  refine⟨os 0,O2,fun g o=> ?_,fun g o k1 k2=> ?_,hx 0 x v (by simp) (by simp),dh l vs (fun k=>os (k+1)) O2 (by simpa using hl) (fun k y u h1 h2=>hx (k+1) y u (by simpa using h1) (by simpa using h2)) ⟨fun g o=>Iff.rfl,fun j k hj hk hne=>hu.dis (j+1) (k+1) (by simpa using hj) (by simpa using hk) (by omega)⟩⟩
  ·rw[hu.iff]
   constructor
   ·rintro ⟨j,hj,k⟩
    cases j with
    |zero=>exact .inl k
    |succ j=>exact .inr ⟨j,by simpa using hj,k⟩
   ·rintro (k|⟨j,hj,k⟩)
    ·exact⟨0,by simp,k⟩
    ·exact⟨j+1,by simpa using hj,k⟩
  ·obtain⟨j,hj,k2⟩:=k2
   exact hu.dis 0 (j+1) (by simp) (by simpa using hj) (by omega) g o k1 k2
theorem aL{R:Cells}: ∀(l:List AV)(vs:List Value)(O:Cells),Parts w R loc l vs O→
  vs.length=l.length∧ ∃os:Nat→Cells,(∀(k:Nat) x v,l[k]? =some x→vs[k]? =some v→AR w R loc x v (os k))∧Uni l.length os O
 |[],[],O,h=>⟨rfl,fun _=>ae,fun k x v h1=>by simp at h1,fun g o=>⟨fun k=>(h g o k).elim,fun⟨j,hj,_⟩=>by simp at hj⟩,fun j k hj=>by simp at hj⟩
 |[],_::_,_,h=>h.elim
 |_::_,[],_,h=>h.elim
 |x::l,v::vs,O,h=>by
  obtain⟨O1,O2,hO,hd,hx,hp⟩:=h
  obtain⟨hl,os,h1,h2⟩:=aL l vs O2 hp
  refine⟨by simp[hl],fun k=>match k with|0=>O1|k+1=>os k,fun k y u h3 h4=> ?_,fun g o=> ?_,fun j k hj hk hne=> ?_⟩
  ·cases k with
   |zero=>
    simp only[List.getElem?_cons_zero,Option.some.injEq]at h3 h4
    subst h3;subst h4
    exact hx
   |succ k=>exact h1 k y u (by simpa using h3) (by simpa using h4)
  ·rw[hO,h2.iff]
   constructor
   ·rintro (k|⟨j,hj,k⟩)
    ·exact⟨0,by simp,k⟩
    ·exact⟨j+1,by simpa using hj,k⟩
   ·rintro ⟨j,hj,k⟩
    cases j with
    |zero=>exact .inl k
    |succ j=>exact .inr ⟨j,by simpa using hj,k⟩
  ·cases j with
   |zero=>
    cases k with
    |zero=>exact absurd rfl hne
    |succ k=>intro g o k1 k2;exact hd g o k1 ((h2.iff g o).2 ⟨k,by simpa using hk,k2⟩)
   |succ j=>
    cases k with
    |zero=>intro g o k1 k2;exact hd g o k2 ((h2.iff g o).2 ⟨j,by simpa using hj,k1⟩)
    |succ k=>exact h2.dis j k (by simpa using hj) (by simpa using hk) (by omega)
theorem Parts.mono{R R':Cells}{loc loc':bG}(hR: ∀g o,R g o→R' g o)(hl: ∀b l,loc b=some l→loc' b=some l): ∀(l:List AV)(vs:List Value)(O:Cells),Parts w R loc l vs O→Parts w R' loc' l vs O
 |[],[],_,h=>h
 |[],_::_,_,h=>h.elim
 |_::_,[],_,h=>h.elim
 |x::l,v::vs,O,⟨O1,O2,h1,h2,h3,h4⟩=>⟨O1,O2,h1,h2,h3.weak hR hl,Parts.mono hR hl l vs O2 h4⟩
theorem AR.flat_any{R R':Cells}{loc loc':bG}{x:AV}{v:Value}{O:Cells}(h:AR w R loc x v O)(hx:x.flat=true):AR w R' loc' x v O:=by
 cases h with
 |sc h e=>exact .sc h e
 |_=>simp[AV.flat]at hx
theorem AR.nr0_any{R R':Cells}{loc:bG}{x:AV}{v:Value}{O:Cells}(h:AR w R loc x v O)(hx:x.nr0=true):AR w R' loc x v O:=by
 cases h with
 |sc h e=>exact .sc h e
 |own0 e=>exact .own0 e
 | @own _ lvl z rows g o cap O vs os hcap hb hw hc hxx hO hd hdd h0 h1 hm=>
  have:lvl=0:=by simpa[AV.nr0]using hx
  exact .own vs os hcap hb hw hc (fun i j row x h2 h3=>(hxx i j row x h2 h3).flat_any (h0 this row (List.mem_of_getElem? h2) x (List.mem_of_getElem? h3))) hO hd hdd h0 h1 hm
 | @fn _ f caps vs O os hn hxx hu=>
  have:caps=[]:=by simpa[AV.nr0]using hx
  subst this
  exact .fn os hn (fun k x v h1=>by simp at h1) hu
 |_=>simp[AV.nr0]at hx
theorem AR.nr1_any{R R':Cells}{loc:bG}{x:AV}{v:Value}{O:Cells}(h:AR w R loc x v O)(hx:x.nr1=true):AR w R' loc x v O:=by
 cases x with
 |agg cs=>
  cases h with
  |sc h e=>exact h.elim
  |agg os hn hxx hu=>
   simp only[AV.nr1,List.all_eq_true]at hx
   exact .agg os hn (fun k x v h1 h2=>(hxx k x v h1 h2).nr0_any (hx x (List.mem_of_getElem? h1))) hu
 |_=>exact h.nr0_any hx
theorem AR.nr_any{R R':Cells}{loc:bG}{x:AV}{v:Value}{O:Cells}(h:AR w R loc x v O)(hx:x.nr=true):AR w R' loc x v O:=by
 cases x with
 |tup cs=>
  cases h with
  |sc h e=>exact h.elim
  |tup os hn hxx hu=>
   simp only[AV.nr,List.all_eq_true]at hx
   exact .tup os hn (fun k x v h1 h2=>(hxx k x v h1 h2).nr1_any (hx x (List.mem_of_getElem? h1))) hu
 |_=>exact h.nr1_any hx
structure Landed(E:Env)(st:St)(a:Act)(w:World)(X:Cells)(loc:bG)(ob:Nat→Cells)(st':St)(Y:Cells)(loc':bG)(ob':Nat→Cells):Prop where
 rel:RelC E st' a w Y loc' ob'
 own:al ob' Y=al ob X
 ext: ∀b l,loc b=some l→loc' b=some l
theorem Landed.refl(h:RelC E st a w X loc ob){Y:Cells}(hY: ∀g o,X g o↔Y g o):Landed E st a w X loc ob st Y loc ob:=by
 have:X=Y:=by funext g o;exact propext (hY g o)
 subst this
 exact⟨h,rfl,fun _ _ k=>k⟩
theorem uz(h:RelC E st a w X loc ob){x:AV}{v:Value}{O Y:Cells}(hX: ∀g o,X g o↔O g o∨Y g o)(hd:Disj O Y)(hx:AR w (RS E w (al ob X)) aC x v O)(hok:cG x=true){b:Nat}
  (hb: ∀p∈(eu b x).2,st.m p.1=.abs):
  ∃loc' ob',Landed E st a w X loc ob (st.mws (eu b x).2) Y loc' ob'∧AR w (RS E w (al ob' Y)) loc' (eu b x).1 v ae:=by
 have rest:x.light=true→eu b x=(x,[])→ ∃loc' ob',Landed E st a w X loc ob (st.mws (eu b x).2) Y loc' ob'∧AR w (RS E w (al ob' Y)) loc' (eu b x).1 v ae:=by
  intro hl he
  have hemp:Emp O:=hx.light_emp hl
  rw[he]
  have hL:=Landed.refl h (Y:=Y) fun g o=>by rw[hX];exact⟨fun k=>k.resolve_left (hemp g o),.inr⟩
  refine⟨loc,ob,hL,?_⟩
  rw[hL.own]
  exact(hx.emp_weak hemp ah).weak (fun _ _ k=>k) (fun _ _ k=>by cases k)
 cases x with
 |own lvl z rows=>
  have hbb:=hb (b,.live ⟨true,lvl,z,rows⟩) (by simp[eu])
  simp only at hbb
  have hab:=h.ab b hbb
  have go: ∀(l:Loc),(∀ow:Cells,(∀g o,al ob X g o↔ow g o)→BR w (RS E w ow) (bi loc b (some l)) b ⟨true,lvl,z,rows⟩ O)→
    Landed E st a w X loc ob (st.mws [(b,.live ⟨true,lvl,z,rows⟩)]) Y (bi loc b (some l)) (bi ob b O):=by
   intro l hbr
   have hob:al (bi ob b O) Y=al ob X:=by
    funext g o
    apply propext
    constructor
    ·rintro (⟨b',k⟩|k)
     ·by_cases hbb':b'=b
      ·subst hbb'
       simp only[bi,if_true]at k
       exact .inr ((hX g o).2 (.inl k))
      ·simp only[bi,hbb',if_false]at k
       exact .inl ⟨b',k⟩
     ·exact .inr ((hX g o).2 (.inr k))
    ·rintro (⟨b',k⟩|k)
     ·by_cases hbb':b'=b
      ·subst hbb'
       exact(hab.2 g o k).elim
      ·exact .inl ⟨b',by simpa only[bi,hbb',if_false]using k⟩
     ·rcases(hX g o).1 k with k|k
      ·exact .inl ⟨b,by simpa only[bi,if_true]using k⟩
      ·exact .inr k
   have hloc: ∀b' l',loc b'=some l'→bi loc b (some l) b'=some l':=fun b' l' hl=>by
    have hne:b'≠b:=fun e=>by rw[e,hab.1]at hl;cases hl
    simp[bi,hne,hl]
   refine⟨h.go ae rfl rfl (Frame.refl w _) (fun g o k=>⟨.inl (hob▸k),h.lt g o (hob▸k)⟩) (fun _ _ k=>k.elim) hloc (fun b'=> ?_) (fun b1 b2 hne g o k1 k2=> ?_) (fun b1 g o k1 k2=> ?_),hob,hloc⟩
   ·by_cases hbb':b'=b
    ·subst hbb'
     right
     simp only[St.mws,bi,if_true,pf]
     rw[hob]
     exact hbr _ fun g o=>Iff.rfl
    ·left
     exact⟨by simp[St.mws,bi,hbb'],by simp[bi,hbb'],by simp[bi,hbb'],fun _ _ k=>k.elim⟩
   ·by_cases h1:b1=b
    ·subst h1
     have h2: ¬b2=b1:=fun e=>hne e.symm
     simp only[bi,if_true,h2,if_false]at k1 k2
     exact h.dx b2 g o k2 ((hX g o).2 (.inl k1))
    ·simp only[bi,h1,if_false]at k1
     by_cases h2:b2=b
     ·subst h2
      simp only[bi,if_true]at k2
      exact h.dx b1 g o k1 ((hX g o).2 (.inl k2))
     ·simp only[bi,h2,if_false]at k2
      exact h.db b1 b2 hne g o k1 k2
   ·by_cases h1:b1=b
    ·subst h1
     simp only[bi,if_true]at k1
     exact hd g o k1 k2
    ·simp only[bi,h1,if_false]at k1
     exact h.dx b1 g o k1 ((hX g o).2 (.inr k2))
  cases hx with
  |sc hs e=>exact hs.elim
  |own0 e=>
   have hL:=go ⟨0,0,z.length,0,false⟩ fun ow how=>.arr0 ⟨0,0,z.length,0,false⟩ (by simp[bi]) rfl rfl rfl e
   exact⟨_,_,hL,.ref0 ⟨0,0,z.length,0,false⟩ ah (by simp[bi]) (Nat.le_refl _)⟩
  | @own _ _ _ _ g oo cap _ vs os hcap hbf hw hc hxx hO hdo hdd h0 h1 hm=>
   have hL:=go ⟨g,oo,z.length,rows.length,true⟩ fun ow how=>.arr ⟨g,oo,z.length,rows.length,true⟩ vs os (by simp[bi]) rfl rfl rfl
    (hbf.mono (Nat.add_le_add_left (Nat.mul_le_mul_right _ hcap) _)) hw hc (fun i j row x h1 h2=>(hxx i j row x h1 h2).weak (fun g o k=>⟨k.1,k.2.1,fun hk=>k.2.2 ((how g o).2 hk)⟩) (fun _ _ k=>k)) hO hdo hdd h0 h1 hm
   refine⟨_,_,hL,?_⟩
   have:=AR.ref (w:=w) (R:=RS E w (al (bi ob b O) Y)) (loc:=bi loc b (some ⟨g,oo,z.length,rows.length,true⟩)) (b:=b) (off:=0) (len:=rows.length) (cap:=cap) (O:=ae) ⟨g,oo,z.length,rows.length,true⟩ ah (by simp[bi]) rfl (by simp) hcap (by simpa using hbf) hm
   simpa[eu]using this
 |_=>exact rest (by simpa[cG]using hok) rfl
theorem cx(l l':List (Nat × MB)): ∀s:St,s.mws (l++l')=(s.mws l).mws l':=by
 induction l with
 |nil=>intro s;rfl
 |cons x l ih=>intro s;exact ih _
theorem dJ{b:Nat}: ∀(l:List (Nat × MB))(s:St),(∀p∈l,p.1≠b)→(s.mws l).m b=s.m b
 |[],_,_=>rfl
 |x::l,s,h=>by
  refine(dJ l _ fun p hp=>h p (by simp[hp])).trans ?_
  have:b≠x.1:=fun e=>h x (by simp) e.symm
  simp[bi,this]
theorem Landed.trans{st1 st2:St}{X Y Z:Cells}{loc loc1 loc2:bG}{ob ob1 ob2:Nat→Cells}(h1:Landed E st a w X loc ob st1 Y loc1 ob1)(h2:Landed E st1 a w Y loc1 ob1 st2 Z loc2 ob2):Landed E st a w X loc ob st2 Z loc2 ob2:=
 ⟨h2.rel,h2.own.trans h1.own,fun b l hl=>h2.ext b l (h1.ext b l hl)⟩
theorem kz(b:Nat)(x:AV): ∀p∈(eu b x).2,p.1=b:=by
 intro p hp
 cases x<;>simp[eu]at hp
 rw[hp]
theorem en: ∀(l:List AV)(b:Nat),∀p∈(aD b l).2,b≤p.1∧p.1<b+l.length
 |[],_,p,h=>by simp[aD]at h
 |x::l,b,p,h=>by
  simp only[aD,List.mem_append]at h
  rcases h with h|h
  ·have:=kz b x p h
   simp only[List.length_cons]
   omega
  ·have:=en l (b+1) p h
   simp only[List.length_cons]
   omega
theorem mO(b:Nat)(x:AV): ∀p∈(fU b x).2,b≤p.1∧p.1<b+x.leaves.length:=by
 intro p hp
 have leaf:x.leaves=[x]→fU b x=eu b x→b≤p.1∧p.1<b+x.leaves.length:=by
  intro h1 h2
  rw[h2]at hp
  have:=kz b x p hp
  rw[h1]
  simp only[List.length_cons,List.length_nil]
  omega
 cases x with
 |agg cs=>exact en cs b p hp
 |_=>exact leaf rfl rfl
theorem pc: ∀(l:List AV)(b:Nat),∀p∈(bV b l).2,b≤p.1
 |[],_,p,h=>by simp[bV]at h
 |x::l,b,p,h=>by
  simp only[bV,List.mem_append]at h
  rcases h with h|h
  ·exact(mO b x p h).1
  ·have:=pc l _ p h
   omega
theorem ib: ∀(l:List AV)(vs:List Value)(st:St)(X O Y:Cells)(loc:bG)(ob:Nat→Cells)(b:Nat),RelC E st a w X loc ob→(∀g o,X g o↔O g o∨Y g o)→Disj O Y→
  Parts w (RS E w (al ob X)) aC l vs O→l.all cG=true→(∀p∈(aD b l).2,st.m p.1=.abs)→
  ∃loc' ob',Landed E st a w X loc ob (st.mws (aD b l).2) Y loc' ob'∧Parts w (RS E w (al ob' Y)) loc' (aD b l).1 vs ae
 |[],[],st,X,O,Y,loc,ob,b,h,hX,hd,hp,hok,hb=>by
  have hL:=Landed.refl h (Y:=Y) fun g o=>by rw[hX];exact⟨fun k=>k.resolve_left (hp g o),.inr⟩
  exact⟨loc,ob,hL,ah⟩
 |[],_::_,_,_,_,_,_,_,_,_,_,_,h,_,_=>h.elim
 |_::_,[],_,_,_,_,_,_,_,_,_,_,h,_,_=>h.elim
 |x::l,v::vs,st,X,O,Y,loc,ob,b,h,hX,hd,hp,hok,hb=>by
  obtain⟨O1,O2,hO,hdd,hx,hrest⟩:=hp
  simp only[List.all_cons,Bool.and_eq_true]at hok
  let Y1:Cells:=fun g o=>O2 g o∨Y g o
  obtain⟨loc1,ob1,hL1,hy1⟩:=uz h (O:=O1) (Y:=Y1) (fun g o=>by rw[hX,hO];simp only[Y1];rw[or_assoc]) (fun g o k1 k2=>by
   rcases k2 with k2|k2
   ·exact hdd g o k1 k2
   ·exact hd g o ((hO g o).2 (.inl k1)) k2) hx hok.1 (b:=b) (fun p hp=>hb p (by simp[aD,hp]))
  have hRS:RS E w (al ob1 Y1)=RS E w (al ob X):=by rw[hL1.own]
  obtain⟨loc2,ob2,hL2,hy2⟩:=ib l vs _ Y1 O2 Y loc1 ob1 (b+1) hL1.rel (fun g o=>Iff.rfl) (fun g o k1 k2=>hd g o ((hO g o).2 (.inr k1)) k2) (by rw[hRS];exact hrest) hok.2
   (fun p hp=>by
    rw[dJ _ _ fun q hq=>by
     have h1:=kz b x q hq
     have h2:=en l (b+1) p hp
     omega]
    exact hb p (by simp[aD,hp]))
  refine⟨loc2,ob2,?_,ae,ae,fun g o=>by simp[ae],ah.disj,?_,hy2⟩
  ·have:=hL1.trans hL2
   rw[←cx]at this
   exact this
  ·refine hy1.weak (fun g o k=> ?_) hL2.ext
   rw[hL2.own]
   exact k
theorem tn(h:RelC E st a w X loc ob){x:AV}{v:Value}{O Y:Cells}(hX: ∀g o,X g o↔O g o∨Y g o)(hd:Disj O Y)(hx:AR w (RS E w (al ob X)) aC x v O)(hok:cN x=true){b:Nat}
  (hb: ∀p∈(fU b x).2,st.m p.1=.abs):
  ∃loc' ob',Landed E st a w X loc ob (st.mws (fU b x).2) Y loc' ob'∧AR w (RS E w (al ob' Y)) loc' (fU b x).1 v ae:=by
 cases x with
 |agg cs=>
  cases hx with
  |sc hs e=>exact hs.elim
  | @agg _ _ vs _ os hn hxx hu=>
   have hp:=dh cs vs.toList os O (by simpa using hn) (fun k x v h1 h2=>hxx k x v h1 (by simpa using h2)) hu
   obtain⟨loc',ob',hL,hp'⟩:=ib cs vs.toList st X O Y loc ob b h hX hd hp hok hb
   obtain⟨hl,os',h1,h2⟩:=aL _ _ _ hp'
   exact⟨loc',ob',hL,.agg os' (by simpa using hl) (fun k x v h3 h4=>h1 k x v h3 (by simpa using h4)) h2⟩
 |_=>exact uz (b:=b) h hX hd hx hok hb
theorem mY: ∀(l:List AV)(vs:List Value)(st:St)(X O Y:Cells)(loc:bG)(ob:Nat→Cells)(b:Nat),RelC E st a w X loc ob→(∀g o,X g o↔O g o∨Y g o)→Disj O Y→
  Parts w (RS E w (al ob X)) aC l vs O→l.all cN=true→(∀p∈(bV b l).2,st.m p.1=.abs)→
  ∃loc' ob',Landed E st a w X loc ob (st.mws (bV b l).2) Y loc' ob'∧Parts w (RS E w (al ob' Y)) loc' (bV b l).1 vs ae
 |[],[],st,X,O,Y,loc,ob,b,h,hX,hd,hp,hok,hb=>by
  have hL:=Landed.refl h (Y:=Y) fun g o=>by rw[hX];exact⟨fun k=>k.resolve_left (hp g o),.inr⟩
  exact⟨loc,ob,hL,ah⟩
 |[],_::_,_,_,_,_,_,_,_,_,_,_,h,_,_=>h.elim
 |_::_,[],_,_,_,_,_,_,_,_,_,_,h,_,_=>h.elim
 |x::l,v::vs,st,X,O,Y,loc,ob,b,h,hX,hd,hp,hok,hb=>by
  obtain⟨O1,O2,hO,hdd,hx,hrest⟩:=hp
  simp only[List.all_cons,Bool.and_eq_true]at hok
  let Y1:Cells:=fun g o=>O2 g o∨Y g o
  obtain⟨loc1,ob1,hL1,hy1⟩:=tn h (O:=O1) (Y:=Y1) (fun g o=>by rw[hX,hO];simp only[Y1];rw[or_assoc]) (fun g o k1 k2=>by
   rcases k2 with k2|k2
   ·exact hdd g o k1 k2
   ·exact hd g o ((hO g o).2 (.inl k1)) k2) hx hok.1 (b:=b) (fun p hp=>hb p (by simp[bV,hp]))
  have hRS:RS E w (al ob1 Y1)=RS E w (al ob X):=by rw[hL1.own]
  obtain⟨loc2,ob2,hL2,hy2⟩:=mY l vs _ Y1 O2 Y loc1 ob1 (b+x.leaves.length) hL1.rel (fun g o=>Iff.rfl) (fun g o k1 k2=>hd g o ((hO g o).2 (.inr k1)) k2) (by rw[hRS];exact hrest) hok.2
   (fun p hp=>by
    rw[dJ _ _ fun q hq=>by
     have h1:=mO b x q hq
     have h2:=pc l _ p hp
     omega]
    exact hb p (by simp[bV,hp]))
  refine⟨loc2,ob2,?_,ae,ae,fun g o=>by simp[ae],ah.disj,?_,hy2⟩
  ·have:=hL1.trans hL2
   rw[←cx]at this
   exact this
  ·refine hy1.weak (fun g o k=> ?_) hL2.ext
   rw[hL2.own]
   exact k
theorem RelC.birth(h:RelC E st a w X loc ob){b:Nat}(hb:st.m b=.abs){l:Loc}{m:MB}{Ob X':Cells}(hown: ∀g o,al (bi ob b Ob) X' g o↔al ob X g o)(hbr:pf E w (al ob X) (bi loc b (some l)) b m Ob)
  (hd: ∀b',b'≠b→Disj (ob b') Ob)(hx: ∀b',b'≠b→Disj (ob b') X')(hbx:Disj Ob X'):RelC E (st.mws [(b,m)]) a w X' (bi loc b (some l)) (bi ob b Ob):=by
 have hab:=h.ab b hb
 have he:al (bi ob b Ob) X'=al ob X:=by funext g o;exact propext (hown g o)
 have hloc: ∀b' l',loc b'=some l'→bi loc b (some l) b'=some l':=fun b' l' hl=>by
  have hne:b'≠b:=fun e=>by rw[e,hab.1]at hl;cases hl
  simp[bi,hne,hl]
 refine h.go ae rfl rfl (Frame.refl w _) (fun g o k=>⟨.inl (he▸k),h.lt g o (he▸k)⟩) (fun _ _ k=>k.elim) hloc (fun b'=> ?_) (fun b1 b2 hne g o k1 k2=> ?_) (fun b1 g o k1 k2=> ?_)
 ·by_cases hb:b'=b
  ·subst hb
   right
   have e1:(st.mws [(b',m)]).m b'=m:=by simp[St.mws,bi]
   have e2:bi ob b' Ob b'=Ob:=by simp[bi]
   rw[e1,e2,he]
   exact hbr
  ·left
   exact⟨by simp[St.mws,bi,hb],by simp[bi,hb],by simp[bi,hb],fun _ _ k=>k.elim⟩
 ·by_cases h1:b1=b
  ·subst h1
   have h2: ¬b2=b1:=fun e=>hne e.symm
   simp only[bi,if_true,h2,if_false]at k1 k2
   exact hd b2 h2 g o k2 k1
  ·by_cases h2:b2=b
   ·subst h2
    simp only[bi,if_true,h1,if_false]at k1 k2
    exact hd b1 h1 g o k1 k2
   ·simp only[bi,h1,h2,if_false]at k1 k2
    exact h.db b1 b2 hne g o k1 k2
 ·by_cases h1:b1=b
  ·subst h1
   simp only[bi,if_true]at k1
   exact hbx g o k1 k2
  ·simp only[bi,h1,if_false]at k1
   exact hx b1 h1 g o k1 k2
theorem iU: ∀(l:List AV)(b:Nat),(aD b l).1.length=l.length
 |[],_=>rfl
 |x::l,b=>by simp[aD,iU l]
theorem gp: ∀(l:List AV)(b:Nat),l.all cG=true→ ∀x∈(aD b l).1,x.isUndef=false
 |[],_,_,x,hx=>by simp[aD]at hx
 |y::l,b,hk,x,hx=>by
  simp only[List.all_cons,Bool.and_eq_true]at hk
  simp only[aD,List.mem_cons]at hx
  rcases hx with rfl|hx
  ·cases y<;>first|rfl|(simp[cG,AV.light]at hk)
  ·exact gp l _ hk.2 x hx
theorem DD(h:RelC E st a w X loc ob){cs:List AV}{v:Value}{O Y:Cells}(hX: ∀g o,X g o↔O g o∨Y g o)(hd:Disj O Y)(hx:AR w (RS E w (al ob X)) aC (.obj cs) v O)(hok:cs.all cG=true){b:Nat}
  (hb: ∀p∈(aD (b+1) cs).2++[(b,MB.live ⟨false,0,List.replicate cs.length .undef,[(aD (b+1) cs).1]⟩)],st.m p.1=.abs):
  ∃loc' ob',Landed E st a w X loc ob (st.mws ((aD (b+1) cs).2++[(b,MB.live ⟨false,0,List.replicate cs.length .undef,[(aD (b+1) cs).1]⟩)])) Y loc' ob'∧AR w (RS E w (al ob' Y)) loc' (.ptr b 0 0) v ae:=by
 have hbb:st.m b=.abs:=hb (b,.live ⟨false,0,List.replicate cs.length .undef,[(aD (b+1) cs).1]⟩) (by simp)
 cases hx with
 |sc h _=>exact h.elim
 | @obj _ _ g oo _ vs os hbf hkn hc hxx hO hdo hdd=>
  let n:=cs.length
  let C:Cells:=fun g' o'=>g'=g∧oo≤o'∧o'<oo+cs.length
  let O2:Cells:=fun g o=> ∃k,k<cs.length∧os k g o
  have hO': ∀g o,O g o↔C g o∨O2 g o:=hO
  have hCO2:Disj C O2:=fun g o ⟨e1,e2,e3⟩⟨k,k1,k2⟩=>by subst e1;exact hdo k k1 o e2 e3 k2
  let vl:List Value:=(List.range n).map vs
  have hpl:Parts w (RS E w (al ob X)) aC cs vl O2:=dh cs vl os O2 (by simp[vl,n]) (fun k x v h1 h2=>by
   have hk:k<n:=(List.getElem?_eq_some_iff.1 h1).1
   have:v=vs k:=by simpa[vl,hk]using h2.symm
   subst this
   exact hxx k x h1) ⟨fun g o=>Iff.rfl,hdd⟩
  let Y1:Cells:=fun g o=>C g o∨Y g o
  obtain⟨loc',ob',hL,hpi⟩:=ib cs vl st X O2 Y1 loc ob (b+1) h (fun g o=>by
   rw[hX,hO']
   exact⟨fun k=>k.elim (fun k=>k.elim (fun k=>.inr (.inl k)) .inl) fun k=>.inr (.inr k),fun k=>k.elim (fun k=>.inl (.inr k)) fun k=>k.elim (fun k=>.inl (.inl k)) .inr⟩)
   (fun g o k1 k2=>k2.elim (fun k2=>hCO2 g o k2 k1) fun k2=>hd g o ((hO' g o).2 (.inr k1)) k2) hpl hok (fun p hp=>hb p (by simp[hp]))
  have hmb:(st.mws (aD (b+1) cs).2).m b=.abs:=by
   rw[dJ _ _ fun p hp e=>by have:=en cs (b+1) p hp;omega]
   exact hbb
  obtain⟨hil,os1,hi1,hi2⟩:=aL _ _ _ hpi
  have hin:=iU cs (b+1)
  have hlk:=gp cs (b+1) hok
  have habs:=hL.rel.ab b hmb
  let l:Loc:=⟨g,oo,n,1,true⟩
  have hext: ∀b' l',loc' b'=some l'→bi loc' b (some l) b'=some l':=fun b' l' hl=>by
   have hne:b'≠b:=fun e=>by rw[e,habs.1]at hl;cases hl
   simp[bi,hne,hl]
  have hbr:pf E w (al ob' Y1) (bi loc' b (some l)) b (.live ⟨false,0,List.replicate cs.length .undef,[(aD (b+1) cs).1]⟩) C:=by
   refine BR.var l vs (fun _=>ae) (by simp[bi]) rfl (by simp[l,n]) rfl (by simp[hin]) (by simpa using hbf) (fun k c h1 h2=> ?_) (fun k c h1 h2=> ?_) (fun g' o'=> ?_) (fun _ _ _ _ _ _ _ _ k=>k) (fun _ _ _ _ _ _ _ _ _ _ _ k=>k.elim)
   ·have hk:k<cs.length:=by rw[←hin];exact(List.getElem?_eq_some_iff.1 h1).1
    exact hc k hk
   ·have hk:k<(aD (b+1) cs).1.length:=(List.getElem?_eq_some_iff.1 h1).1
    refine((hi1 k c (vs k) h1 (by simp only[vl,List.getElem?_map];rw[List.getElem?_range (by rw[hin]at hk;exact hk)];rfl)).emp_weak (fun g o m=>(hi2.iff g o).2 ⟨k,hk,m⟩) ah).weak (fun _ _ k=>k) hext
   ·constructor
    ·rintro ⟨rfl,k1,k2⟩
     have hk:o'-oo<(aD (b+1) cs).1.length:=by omega
     exact⟨o'-oo,_,List.getElem?_eq_getElem hk,hlk _ (List.getElem_mem _),.inl ⟨rfl,by show o'=oo+(o'-oo);omega⟩⟩
    ·rintro ⟨k,c,e1,e2,⟨rfl,rfl⟩|e3⟩
     ·have hk:k<cs.length:=by rw[←hin];exact(List.getElem?_eq_some_iff.1 e1).1
      exact⟨rfl,by show oo≤oo+k;omega,by show oo+k<oo+cs.length;omega⟩
     ·exact e3.elim
  have hown: ∀g o,al (bi ob' b C) Y g o↔al ob' Y1 g o:=by
   intro g o
   constructor
   ·rintro (⟨b',k⟩|k)
    ·by_cases hbb:b'=b
     ·subst hbb;simp only[bi,if_true]at k;exact .inr (.inl k)
     ·simp only[bi,hbb,if_false]at k;exact .inl ⟨b',k⟩
    ·exact .inr (.inr k)
   ·rintro (⟨b',k⟩|k|k)
    ·by_cases hbb:b'=b
     ·subst hbb;exact(habs.2 g o k).elim
     ·exact .inl ⟨b',by simpa only[bi,hbb,if_false]using k⟩
    ·exact .inl ⟨b,by simp only[bi,if_true];exact k⟩
    ·exact .inr k
  have hfin:=hL.rel.birth hmb hown hbr (fun b' hne g o k1 k2=>hL.rel.dx b' g o k1 (.inl k2)) (fun b' hne g o k1 k2=>hL.rel.dx b' g o k1 (.inr k2)) (fun g o k1 k2=>hd g o ((hO' g o).2 (.inl k1)) k2)
  rw[←cx]at hfin
  have hfo:al (bi ob' b C) Y=al ob X:=by rw[←hL.own];funext g o;exact propext (hown g o)
  refine⟨_,_,⟨hfin,hfo,fun b' l' hl=>hext _ _ (hL.ext _ _ hl)⟩,?_⟩
  have:=AR.ptr (w:=w) (R:=RS E w (al (bi ob' b C) Y)) (loc:=bi loc' b (some l)) (b:=b) (i:=0) (j:=0) (O:=ae) l ah (by simp[bi]) rfl (by simp[l])
  simpa[l]using this
theorem Ed(h:RelC E st a w X loc ob){x:AV}{v:Value}{O Y:Cells}(hX: ∀g o,X g o↔O g o∨Y g o)(hd:Disj O Y)(hx:AR w (RS E w (al ob X)) aC x v O)(hok:gm x=true){b:Nat}
  (hb: ∀p∈(gP b x).2,st.m p.1=.abs):
  ∃loc' ob',Landed E st a w X loc ob (st.mws (gP b x).2) Y loc' ob'∧AR w (RS E w (al ob' Y)) loc' (gP b x).1 v ae:=by
 cases x with
 |tup cs=>
  cases hx with
  |sc hs e=>exact hs.elim
  | @tup _ _ vs _ os hn hxx hu=>
   have hp:=dh cs vs.toList os O (by simpa using hn) (fun k x v h1 h2=>hxx k x v h1 (by simpa using h2)) hu
   obtain⟨loc',ob',hL,hp'⟩:=mY cs vs.toList st X O Y loc ob b h hX hd hp hok hb
   obtain⟨hl,os',h1,h2⟩:=aL _ _ _ hp'
   exact⟨loc',ob',hL,.tup os' (by simpa using hl) (fun k x v h3 h4=>h1 k x v h3 (by simpa using h4)) h2⟩
 |obj cs=>exact DD (b:=b) h hX hd hx hok hb
 |_=>exact tn (b:=b) h hX hd hx hok hb
end
end Go.Abs

/- The abstract layer, 17: contracts; a call. -/
noncomputable section
namespace Go.Abs
open Go
def AV.hasRef0:AV→Bool
 | .ref _ _ _=>true
 |_=>false
def AV.hasRef:AV→Bool
 | .agg cs=>cs.any AV.hasRef0
 |v=>v.hasRef0
def AV.goes:AV→Bool
 | .undef=>true
 | .rp _ _=>true
 | .fn _ caps=>caps.isEmpty
 |v=>v.plain
def ec(x:AV):RP AV:=match x with
 | .ref b off n=>.mem b fun m=>(kC m).bind fun blk=>.req (decide (blk.lvl≤1)) (.ret (match blk with|⟨_,_,z,rows⟩=>.ro z (am rows off n)))
 |v=>.req v.goes (.ret v)
def ef:List AV→RP (List AV)
 |[]=>.ret []
 |x::l=>(ec x).bind fun y=>(ef l).bind fun ys=>.ret (y::ys)
def jM(x:AV):RP AV:=match x with
 | .agg cs=>(ef cs).bind fun ys=>.ret (.agg ys)
 |v=>ec v
def ea:List AV→RP (List AV)
 |[]=>.ret []
 |x::l=>(jM x).bind fun y=>(ea l).bind fun ys=>.ret (y::ys)
def DU(w:World)(R O:Cells)(vals:List Value)(os:List AV)(res:AV):Ending→World→Prop
 | .returned v,w'=> ∃O',Frame w w' O∧(∀g o,O' g o→(O g o∨w.heap.size≤g)∧g<w'.heap.size)∧Parts w' (RS ⟨w,R,O,aC⟩ w' O') aC (res::os) (v::vals) O'
 |_,_=>False
def wE(P:Program)(f:FuncId):Prop:= ∃fn,P.funcs[f]? =some fn∧(fn.name== "runtime.NumGoroutine")=false∧fn.body.isNone=false
def uP:List (String × Array Value):=[("strings.asciiSpace",(Lib.asciiSpaceTab.map fun z=>Value.int .u8 z).toArray),("internal/strconv.uint64pow10",(Lib.pow10Tab.map fun z=>Value.int .u64 z).toArray),("math/bits.deBruijn64tab",(Lib.deBruijn64tab.map fun z:Nat=>Value.int .u8 z).toArray)]
def Tabs(P:Program)(w:World)(O:Cells):Prop:= ∀x∈uP,∀g,P.globalNamed x.1=some g→(∃e fz,w.heap[g]? =some (.cells x.2 e fz))∧ ∀o,¬O g o
structure Con(P:Program)(f:FuncId)(as os:List AV)(res:AV):Prop where
 ok:wE P f
 calls: ∀(w:World)(R O:Cells)(vals:List Value),Parts w R aC as vals O→(∀g o,R g o→g<w.heap.size∧ ¬O g o)→(∀g o,O g o→g<w.heap.size)→Tabs P w O→Calls P f vals.toArray w (DU w R O vals os res)
def aa(l:List AV):List AV:=l.map fun _=>.undef
section
variable{P:Program}{T:TT}{E:Env}{o:Oper}{st:St}{a:Act}{w:World}{X:Cells}{loc:bG}{ob:Nat→Cells}{r:di}
theorem AR.goes_emp{R R':Cells}{loc loc':bG}{x:AV}{v:Value}{O:Cells}(h:AR w R loc x v O)(hx:x.goes=true)(hR: ∀g o,R g o→R' g o):AR w R' loc' x v O∧Emp O:=by
 cases h with
 |sc h e=>exact⟨.sc h e,e⟩
 |ro0 e=>exact⟨.ro0 e,e⟩
 |ro vs e h1 h2 h3 h4 h5 h6 h7 h8=>exact⟨.ro vs e h1 h2 h3 h4 (fun i j hi hj=>⟨(h5 i j hi hj).1,hR _ _ (h5 i j hi hj).2⟩) (fun i j row x k1 k2=>(h6 i j row x k1 k2).weak hR (fun _ _ k=>k)) h7 h8,e⟩
 |rp vs e h1 h2 h3 h4=>exact⟨.rp vs e h1 h2 (fun k hk=>⟨(h3 k hk).1,hR _ _ (h3 k hk).2⟩) (fun k x k1=>(h4 k x k1).weak hR (fun _ _ k=>k)),e⟩
 | @fn _ f caps vs O os hn hxx hu=>
  have:caps=[]:=by simpa[AV.goes]using hx
  subst this
  exact⟨.fn os hn (fun k x v h1=>by simp at h1) hu,fun g o k=>by obtain⟨j,hj,_⟩:=(hu.iff g o).1 k;simp at hj⟩
 |_=>simp[AV.goes,AV.plain]at hx
theorem oN(h:RelC E st a w X loc ob){b off n:Nat}{v:Value}(hx:AR w (RS E w (al ob X)) loc (.ref b off n) v ae){blk:Blk}(hm:st.m b=.live blk)(harr:blk.arr=true)(hl:blk.lvl≤1):
  (n=0∧ ∃ad,v=.slice ad 0 0)∨ ∃(g oo cap:Nat)(vs:Nat→Nat→Value),v=.slice (some ⟨g,oo,none⟩) n cap∧n≤cap∧BF w g (oo+cap*blk.z.length)∧(am blk.rows off n).length=n∧Wide blk.z (am blk.rows off n)∧
   (∀g' o',ob b g' o'↔g'=g)∧
   (∀i j,i<n→j<blk.z.length→w.cell? ⟨g,oo+i*blk.z.length+j,none⟩=some (vs i j))∧
   (∀i j row x,(am blk.rows off n)[i]? =some row→row[j]? =some x→AR w (RS E w (al ob X)) aC x (vs i j) ae)∧
   (blk.lvl=0→ ∀row∈am blk.rows off n,∀x∈row,x.flat=true)∧(∀row∈am blk.rows off n,∀x∈row,x.plain=true):=by
 obtain⟨arr,lvl,z,rows⟩:=blk
 simp only at harr hl
 subst harr
 obtain⟨l,hll,hn,ad,cap,rfl,hcap,hcase⟩:=hx.inv_ref
 have hat:=h.lv b _ hm
 obtain⟨hs,hln⟩:=hat.width hll
 simp only at hs hln
 rcases hcase with⟨rfl,rfl⟩|⟨hbd,rfl,hbf⟩
 ·exact .inl ⟨rfl,ad,rfl⟩
 ·right
  obtain⟨_,_,_,hb,hW,hO,vs,hcc,hcx,hfl,hpl⟩:=hat.plainArr hl (.inr hbd) hll
  have hsl:(am rows off n).length=n:=by simp[am];omega
  have hget: ∀i,i<n→(am rows off n)[i]? =rows[off+i]? :=fun i hi=>by simp[am,hi]
  have hmem: ∀row∈am rows off n,row∈rows:=fun row hr=>List.mem_of_mem_drop (List.mem_of_mem_take hr)
  refine⟨l.g,l.base+off*l.s,cap,fun i j=>vs (off+i) j,rfl,hcap,?_,hsl,⟨fun row hr=>hW.len row (hmem row hr),fun row hr=>hW.known row (hmem row hr)⟩,hO,fun i j hi hj=> ?_,fun i j row x h1 h2=> ?_,fun h0 row hr=>hfl h0 row (hmem row hr),fun row hr=>hpl row (hmem row hr)⟩
  ·refine hbf.mono ?_
   simp only
   rw[hs,Nat.add_mul]
   omega
  ·have:=hcc (off+i) j (by omega) hj
   rw[Nat.add_mul,←Nat.add_assoc]at this
   rw[hs]
   exact this
  ·have hi:i<n:=by have:=(List.getElem?_eq_some_iff.1 h1).1;simp only[hsl]at this;exact this
   simp only at h1
   rw[hget i hi]at h1
   exact hcx (off+i) j row x h1 h2
theorem iK(h:RelC E st a w X loc ob){x y:AV}{v:Value}(hx:AR w (RS E w (al ob X)) loc x v ae)(hr:(ec x).run st=some y){Rc:Cells}(hR: ∀g o,RS E w (al ob X) g o→Rc g o)
  (hb:x.hasRef0=true→ ∀b g o,ob b g o→Rc g o):AR w Rc aC y v ae:=by
 cases x with
 |ref b off n=>
  have hr:=cM hr
  obtain⟨blk,hm,hr⟩:=bind_some hr
  obtain⟨hm,harr⟩:=dC hm
  obtain⟨hq,hr⟩:=bb hr
  obtain rfl:=au hr
  have hb:=hb rfl
  rcases oN h hx hm harr (of_decide_eq_true hq)with⟨rfl,ad,rfl⟩|⟨g,oo,cap,vs,rfl,hcap,hbf,hsl,hW,hO,hc,hxx,_,hpl⟩
  ·have:am blk.rows off 0=[]:=by simp[am]
   show AR w Rc aC (.ro blk.z (am blk.rows off 0)) _ ae
   rw[this]
   exact .ro0 ah
  ·by_cases h0:n=0
   ·subst h0
    have:am blk.rows off 0=[]:=by simp[am]
    show AR w Rc aC (.ro blk.z (am blk.rows off 0)) _ ae
    rw[this]
    exact .ro0 ah
   ·have:=AR.ro (w:=w) (R:=Rc) (loc:=aC) (z:=blk.z) (rows:=am blk.rows off n) (g:=g) (o:=oo) (cap:=cap) (O:=ae) vs ah (by omega) (by omega) hbf.lt hW
     (fun i j hi hj=>⟨hc i j (by omega) hj,hb b _ _ ((hO _ _).2 rfl)⟩) (fun i j row x h1 h2=>(hxx i j row x h1 h2).weak hR (fun _ _ k=>k)) hpl
    rw[hsl]at this
    exact this hx.ref_len
 |_=>
  obtain⟨hq,hr⟩:=bb hr
  obtain rfl:=au hr
  exact(hx.goes_emp hq hR).1
theorem iZ(h:RelC E st a w X loc ob){Rc:Cells}(hR: ∀g o,RS E w (al ob X) g o→Rc g o): ∀(l ys:List AV)(vs:List Value),vs.length=l.length→(ef l).run st=some ys→
  (∀(k:Nat) x v,l[k]? =some x→vs[k]? =some v→AR w (RS E w (al ob X)) loc x v ae)→(l.any AV.hasRef0=true→ ∀b g o,ob b g o→Rc g o)→
  ys.length=l.length∧ ∀(k:Nat) y v,ys[k]? =some y→vs[k]? =some v→AR w Rc aC y v ae
 |[],ys,vs,hl,hr,hx,hb=>by
  obtain rfl:=au (st:=st) hr
  exact⟨rfl,fun k y v h1=>by simp at h1⟩
 |x::l,ys,[],hl,_,_,_=>by simp at hl
 |x::l,ys,v::vs,hl,hr,hx,hb=>by
  obtain⟨y,h1,hr⟩:=bind_some hr
  obtain⟨ys',h2,hr⟩:=bind_some hr
  obtain rfl:=au hr
  have hy:=iK h (hx 0 x v (by simp) (by simp)) h1 hR (fun hh=>hb (by simp[hh]))
  obtain⟨h3,h4⟩:=iZ h hR l ys' vs (by simpa using hl) h2 (fun k y u k1 k2=>hx (k+1) y u (by simpa using k1) (by simpa using k2)) (fun hh=>hb (by simp only[List.any_cons,hh,Bool.or_true]))
  refine⟨by simp[h3],fun k y' u k1 k2=> ?_⟩
  cases k with
  |zero=>
   simp only[List.getElem?_cons_zero,Option.some.injEq]at k1 k2
   subst k1;subst k2
   exact hy
  |succ k=>exact h4 k y' u (by simpa using k1) (by simpa using k2)
theorem nL(n:Nat):Uni n (fun _=>ae) ae:=⟨fun g o=>⟨fun k=>k.elim,fun⟨_,_,k⟩=>k.elim⟩,fun _ _ _ _ _ _ _ k=>k.elim⟩
theorem vW(h:RelC E st a w X loc ob){x y:AV}{v:Value}(hx:AR w (RS E w (al ob X)) loc x v ae)(hr:(jM x).run st=some y){Rc:Cells}(hR: ∀g o,RS E w (al ob X) g o→Rc g o)
  (hb:x.hasRef=true→ ∀b g o,ob b g o→Rc g o):AR w Rc aC y v ae:=by
 cases x with
 |agg cs=>
  obtain⟨ys,h1,hr⟩:=bind_some hr
  obtain rfl:=au hr
  obtain⟨vs,rfl,hvl,hvx⟩:=hx.inv_agg
  obtain⟨h3,h4⟩:=iZ h hR cs ys vs.toList (by simpa using hvl) h1 (fun k x v h5 h6=>hvx k x v h5 (by simpa using h6)) hb
  exact .agg (fun _=>ae) (by omega) (fun k x v h5 h6=>h4 k x v h5 (by simpa using h6)) (nL _)
 |_=>exact iK h hx hr hR hb
theorem iC(h:RelC E st a w X loc ob){Rc:Cells}(hR: ∀g o,RS E w (al ob X) g o→Rc g o): ∀(l ys:List AV)(vs:List Value),vs.length=l.length→(ea l).run st=some ys→
  (∀(k:Nat) x v,l[k]? =some x→vs[k]? =some v→AR w (RS E w (al ob X)) loc x v ae)→(l.any AV.hasRef=true→ ∀b g o,ob b g o→Rc g o)→Parts w Rc aC ys vs ae
 |[],ys,[],hl,hr,hx,hb=>by
  obtain rfl:=au (st:=st) hr
  exact ah
 |[],ys,_::_,hl,_,_,_=>by simp at hl
 |x::l,ys,[],hl,_,_,_=>by simp at hl
 |x::l,ys,v::vs,hl,hr,hx,hb=>by
  obtain⟨y,h1,hr⟩:=bind_some hr
  obtain⟨ys',h2,hr⟩:=bind_some hr
  obtain rfl:=au hr
  exact⟨ae,ae,fun g o=>by simp[ae],ah.disj,vW h (hx 0 x v (by simp) (by simp)) h1 hR (fun hh=>hb (by simp[hh])),
   iC h hR l ys' vs (by simpa using hl) h2 (fun k y u k1 k2=>hx (k+1) y u (by simpa using k1) (by simpa using k2)) (fun hh=>hb (by simp only[List.any_cons,hh,Bool.or_true]))⟩
theorem gz{R:Cells}: ∀(l:List AV)(vs:List Value)(O:Cells),Parts w R loc (aa l) vs O→Emp O
 |[],[],O,h=>h
 |[],_::_,O,h=>h.elim
 |_::_,[],O,h=>h.elim
 |x::l,v::vs,O,⟨O1,O2,h1,h2,h3,h4⟩=>by
  have e2:=gz l vs O2 h4
  cases h3 with
  |sc _ e1=>exact fun g o k=>((h1 g o).1 k).elim (e1 g o) (e2 g o)
theorem RelC.back(h:RelC E st a w X loc ob){w':World}{O' Rc:Cells}(hF:Frame w w' X)(hO: ∀g o,O' g o→(X g o∨w.heap.size≤g)∧g<w'.heap.size):RelC E st a w' O' loc ob:=by
 have hdisj: ∀b,Disj (ob b) O':=fun b g o k1 k2=>by
  rcases(hO g o k2).1 with k|k
  ·exact h.dx b g o k1 k
  ·have:=h.lt g o (.inl ⟨b,k1⟩);omega
 refine h.go X rfl rfl hF (fun g o k=> ?_) (fun g o k=>.inr k) (fun _ _ k=>k) (fun b=>.inl ⟨rfl,rfl,rfl,fun g o k1 k2=>h.dx b g o k2 k1⟩) h.db hdisj
 rcases k with⟨b,k⟩|k
 ·exact⟨.inl (.inl ⟨b,k⟩),Nat.lt_of_lt_of_le (h.lt g o (.inl ⟨b,k⟩)) hF.size⟩
 ·rcases(hO g o k).1 with k1|k1
  ·exact⟨.inl (.inr k1),(hO g o k).2⟩
  ·exact⟨.inr k1,(hO g o k).2⟩
theorem RelC.drop(h:RelC E st a w X loc ob):RelC E st a w ae loc ob:=by
 refine h.go ae rfl rfl (Frame.refl w _) (fun g o k=> ?_) (fun _ _ k=>k.elim) (fun _ _ k=>k) (fun b=>.inl ⟨rfl,rfl,rfl,fun _ _ k=>k.elim⟩) h.db (fun b g o _ k=>k.elim)
 rcases k with k|k
 ·exact⟨.inl (.inl k),h.lt g o (.inl k)⟩
 ·exact k.elim
def qv(o:Oper)(st:St)(res:AV)(st':St):Prop:=match o.dst with
 |none=>st'=st
 |some d=>gm res=true∧(∀p∈(gP (EF d 0) res).2,st.m p.1=.abs)∧d<st.n∧st'=(st.mws (gP (EF d 0) res).2).put (some d) (gP (EF d 0) res).1
theorem nN(h:RelC E st a w X loc ob){x:AV}{v:Value}(hx:AR w (RS E w (al ob X)) aC x v X){st':St}(ht:qv o st x st'):Rel E st' (a.put o.dst v) w ae:=by
 unfold qv at ht
 split at ht
 ·rename_i hd
  subst ht
  rw[hd]
  exact⟨loc,ob,h.drop⟩
 ·rename_i d hd
  obtain⟨h1,h2,h3,rfl⟩:=ht
  rw[hd]
  obtain⟨loc',ob',hL,hy⟩:=Ed h (O:=X) (Y:=ae) (fun g o=>by simp[ae]) ah.disj' hx h1 h2
  refine⟨loc',ob',hL.rel.put (some d) _ v ?_ fun _=>hy⟩
  unfold St.dstOk
  rw[fE]
  exact decide_eq_true h3
theorem rh{ρ:Operand→Value}{c:Call}{ty:TypeId}{fo:Operand}{f:FuncId}{caps:Array Value}(hc:c.callee=.value fo)(hf:ρ fo=.func (.func f) #[] caps)(hok:wE P f):
  (do let d ←resolve ρ c ty;invoke d.target d.args:Sem Next).run P w=.ok (.enter f (c.args.map ρ++caps)) w:=by
 obtain⟨fn,h1,h2,h3⟩:=hok
 simp only[resolve,hc,hf,Deferred.ofValue,Sem.run_bind,Sem.run_pure,Result.andThen_ok,invoke,callFunc,program]
 have hp:(Sem.program Sem.pure:Sem Program).run P w=.ok P w:=rfl
 simp only[Sem.run_bind,hp,Result.andThen_ok,h1,h2,h3,Bool.false_eq_true,if_false,Array.empty_append,Sem.run_pure]
def dr(x:AV):RP (AV × List (Nat × MB)):=match x with
 | .ref b off n=>.mem b fun m=>(kC m).bind fun blk=>.req (decide (blk.lvl≤1)) (.ret (match blk with|⟨_,lvl,z,rows⟩=>.own lvl z (am rows off n),[(b,.dead)]))
 |v=>.req v.goes (.ret (v,[]))
structure Left(E:Env)(a:Act)(w:World)(X:Cells)(loc:bG)(ob:Nat→Cells)(st':St)(X':Cells)(ob':Nat→Cells)(O:Cells):Prop where
 rel:RelC E st' a w X' loc ob'
 iff: ∀g o,X' g o↔X g o∨O g o
 dis:Disj X O
 own: ∀g o,al ob' X' g o→al ob X g o
theorem Left.refl(h:RelC E st a w X loc ob):Left E a w X loc ob st X ob ae:=⟨h,fun g o=>by simp[ae],ah.disj',fun _ _ k=>k⟩
theorem Left.trans{st1 st2:St}{X1 X2:Cells}{ob1 ob2:Nat→Cells}{O1 O2:Cells}(h1:Left E a w X loc ob st1 X1 ob1 O1)(h2:Left E a w X1 loc ob1 st2 X2 ob2 O2):Left E a w X loc ob st2 X2 ob2 (fun g o=>O1 g o∨O2 g o)∧Disj O1 O2:=by
 refine⟨⟨h2.rel,fun g o=>by rw[h2.iff,h1.iff,or_assoc],fun g o k1 k2=> ?_,fun g o k=>h1.own g o (h2.own g o k)⟩,fun g o k1 k2=>h2.dis g o ((h1.iff g o).2 (.inr k1)) k2⟩
 rcases k2 with k2|k2
 ·exact h1.dis g o k1 k2
 ·exact h2.dis g o ((h1.iff g o).2 (.inl k1)) k2
theorem Left.RS{st':St}{X' O:Cells}{ob':Nat→Cells}(h:Left E a w X loc ob st' X' ob' O): ∀g o,RS E w (al ob X) g o→RS E w (al ob' X') g o:=fun g o k=>⟨k.1,k.2.1,fun n=>k.2.2 (h.own g o n)⟩
theorem jv(h:RelC E st a w X loc ob){x:AV}{v:Value}(hx:AR w (RS E w (al ob X)) loc x v ae){p:AV × List (Nat × MB)}(hr:(dr x).run st=some p):
  ∃X' ob' O,Left E a w X loc ob (st.mws p.2) X' ob' O∧AR w (RS E w (al ob' X')) aC p.1 v O:=by
 have rest:x.goes=true→p=(x,[])→ ∃X' ob' O,Left E a w X loc ob (st.mws p.2) X' ob' O∧AR w (RS E w (al ob' X')) aC p.1 v O:=by
  intro hg hp
  subst hp
  exact⟨X,ob,ae,Left.refl h,(hx.goes_emp hg fun _ _ k=>k).1⟩
 cases x with
 |ref b off n=>
  have hr:=cM hr
  obtain⟨blk,hm,hr⟩:=bind_some hr
  obtain⟨hm,harr⟩:=dC hm
  obtain⟨hq,hr⟩:=bb hr
  obtain rfl:=au hr
  have hl1:=of_decide_eq_true hq
  rcases oN h hx hm harr hl1 with⟨rfl,ad,rfl⟩|⟨g,oo,cap,vs,rfl,hcap,hbf,hsl,hW,hO,hc,hxx,hfl,hpl⟩
  ·have:am blk.rows off 0=[]:=by simp[am]
   simp only[this]
   obtain⟨h1,h2⟩:=h.kill hm
   refine⟨X,_,ae,⟨h1,fun g o=>by simp[ae],ah.disj',fun g o k=> ?_⟩,.own0 ah⟩
   rcases k with⟨b',k⟩|k
   ·by_cases hbb:b'=b
    ·subst hbb;simp only[bi,if_true]at k;exact k.elim
    ·simp only[bi,hbb,if_false]at k;exact .inl ⟨b',k⟩
   ·exact .inr k
  ·let X':Cells:=fun g o=>X g o∨ob b g o
   have hown: ∀g o,al (bi ob b ae) X' g o↔al ob X g o:=by
    intro g o
    constructor
    ·rintro (⟨b',k⟩|k|k)
     ·by_cases hbb:b'=b
      ·subst hbb;simp only[bi,if_true]at k;exact k.elim
      ·simp only[bi,hbb,if_false]at k;exact .inl ⟨b',k⟩
     ·exact .inr k
     ·exact .inl ⟨b,k⟩
    ·rintro (⟨b',k⟩|k)
     ·by_cases hbb:b'=b
      ·subst hbb;exact .inr (.inr k)
      ·exact .inl ⟨b',by simpa only[bi,hbb,if_false]using k⟩
     ·exact .inr (.inl k)
   have hrel:RelC E (st.mws [(b,.dead)]) a w X' loc (bi ob b ae):=by
    refine h.go ae rfl rfl (Frame.refl w _) (fun g o k=>⟨.inl ((hown g o).1 k),h.lt g o ((hown g o).1 k)⟩) (fun _ _ k=>k.elim) (fun _ _ k=>k) (fun b'=> ?_) (fun b1 b2 hne g o k1 k2=> ?_) (fun b1 g o k1 k2=> ?_)
    ·by_cases hbb:b'=b
     ·subst hbb
      right
      simp only[St.mws,bi,if_true,pf]
      obtain⟨l,hl⟩:=(h.lv b' _ hm).loc_some
      exact⟨by rw[hl];rfl,ah⟩
     ·left
      exact⟨by simp[St.mws,bi,hbb],by simp[bi,hbb],rfl,fun _ _ k=>k.elim⟩
    ·by_cases h1:b1=b
     ·subst h1;simp only[bi,if_true]at k1;exact k1.elim
     ·by_cases h2:b2=b
      ·subst h2;simp only[bi,if_true]at k2;exact k2.elim
      ·simp only[bi,h1,h2,if_false]at k1 k2
       exact h.db b1 b2 hne g o k1 k2
    ·by_cases h1:b1=b
     ·subst h1;simp only[bi,if_true]at k1;exact k1.elim
     ·simp only[bi,h1,if_false]at k1
      rcases k2 with k2|k2
      ·exact h.dx b1 g o k1 k2
      ·exact h.db b1 b h1 g o k1 k2
   have hL:Left E a w X loc ob (st.mws [(b,.dead)]) X' (bi ob b ae) (ob b):=⟨hrel,fun g o=>Iff.rfl,fun g o k1 k2=>h.dx b g o k2 k1,fun g o k=>(hown g o).1 k⟩
   refine⟨X',_,ob b,hL,?_⟩
   have:=AR.own (w:=w) (R:=RS E w (al (bi ob b ae) X')) (loc:=aC) (lvl:=blk.lvl) (z:=blk.z) (rows:=am blk.rows off n) (g:=g) (o:=oo) (cap:=cap) (O:=ob b) vs (fun _ _=>ae) (by omega) hbf hW
    (fun i j hi hj=>hc i j (by omega) hj) (fun i j row x h1 h2=>(hxx i j row x h1 h2).weak hL.RS fun _ _ k=>k)
    (fun g' o'=>by rw[hO];exact⟨.inl,fun k=>k.elim (fun k=>k) fun⟨_,_,_,_,k⟩=>k.elim⟩) (fun _ _ _ _ _ k=>k.elim) (fun _ _ _ _ _ _ _ _ _ _ _ k=>k.elim) hfl (fun _=>hpl)
   rw[hsl]at this
   exact this hx.ref_len
 |_=>
  obtain⟨hq,hr⟩:=bb hr
  exact rest hq (au hr).symm
theorem ff{α β:Type}{r:RP α}{f:α→RP β}{st:St}{a:α}{b:β}(h1:r.run st=some a)(h2:(f a).run st=some b):(r.bind f).run st=some b:=by
 rw[run_bind,h1]
 exact h2
theorem mr{b:Nat}{x y:AV}(h:(ec x).run (st.mws [(b,.dead)])=some y):(ec x).run st=some y:=by
 cases x with
 |ref b' off n=>
  by_cases hb:b'=b
  ·subst hb
   have h:=cM h
   obtain⟨blk,hm,_⟩:=bind_some h
   obtain⟨hm,_⟩:=dC hm
   simp[St.mws,bi]at hm
  ·have e:(st.mws [(b,.dead)]).m b'=st.m b':=by simp[St.mws,bi,hb]
   simp only[ec,RP.run]at h⊢
   rw[e]at h
   cases hm:st.m b' with
   |live blk=>
    rw[hm]at h
    exact h
   |_=>rw[hm]at h;simp[kC,gX,RP.bind,RP.run]at h
 |_=>exact h
theorem jW{b:Nat}: ∀{l ys:List AV},(ef l).run (st.mws [(b,.dead)])=some ys→(ef l).run st=some ys
 |[],ys,h=>h
 |x::l,ys,h=>by
  obtain⟨y,h1,h⟩:=bind_some h
  obtain⟨ys',h2,h⟩:=bind_some h
  obtain rfl:=au h
  exact ff (mr h1) (ff (jW h2) rfl)
theorem tN{b:Nat}{x y:AV}(h:(jM x).run (st.mws [(b,.dead)])=some y):(jM x).run st=some y:=by
 cases x with
 |agg cs=>
  obtain⟨ys',h2,h⟩:=bind_some h
  obtain rfl:=au h
  exact ff (jW h2) rfl
 |_=>unfold jM at h⊢;exact mr h
theorem mi{b:Nat}: ∀{l ys:List AV},(ea l).run (st.mws [(b,.dead)])=some ys→(ea l).run st=some ys
 |[],ys,h=>h
 |x::l,ys,h=>by
  obtain⟨y,h1,h⟩:=bind_some h
  obtain⟨ys',h2,h⟩:=bind_some h
  obtain rfl:=au h
  exact ff (tN h1) (ff (mi h2) rfl)
def AV.refs0:AV→List Nat
 | .ref b _ _=>[b]
 |_=>[]
def pa:List AV→List Nat
 |[]=>[]
 |x::l=>x.refs0++pa l
def AV.refs:AV→List Nat
 | .agg cs=>pa cs
 |v=>v.refs0
def hN:List AV→List Nat
 |[]=>[]
 |x::l=>x.refs++hN l
def mK:List Nat→List (Nat × MB)
 |[]=>[]
 |b::l=>(b,.dead)::mK l
def jy(as:List AV):List (Nat × MB):=mK (hN as)
theorem lO: ∀(bs:List Nat)(s:St)(b:Nat),(s.mws (mK bs)).m b=if b∈bs then .dead else s.m b
 |[],s,b=>by simp[mK,St.mws]
 |c::bs,s,b=>by
  show(St.mws {s with m:=bi s.m c .dead} (mK bs)).m b=_
  rw[lO bs]
  by_cases h:b∈bs
  ·simp[h]
  ·by_cases h2:b=c
   ·subst h2;simp[h,bi]
   ·simp[h,h2,bi]
theorem RelC.kills(h:RelC E st a w X loc ob)(bs:List Nat)(hb: ∀b∈bs,(loc b).isSome):RelC E (st.mws (mK bs)) a w X loc (fun b=>if b∈bs then ae else ob b):=by
 have hob: ∀b g o,(if b∈bs then ae else ob b) g o→ob b g o:=by
  intro b g o k
  by_cases h:b∈bs
  ·rw[if_pos h]at k;exact k.elim
  ·rw[if_neg h]at k;exact k
 have hsub: ∀g o,al (fun b=>if b∈bs then ae else ob b) X g o→al ob X g o:=by
  rintro g o (⟨b,k⟩|k)
  ·exact .inl ⟨b,hob b g o k⟩
  ·exact .inr k
 refine h.go ae (fE _ _) (vw _ _) (Frame.refl w _) (fun g o k=>⟨.inl (hsub g o k),h.lt g o (hsub g o k)⟩) (fun _ _ k=>k.elim) (fun _ _ k=>k) (fun b=> ?_) (fun b1 b2 hne g o k1 k2=>h.db b1 b2 hne g o (hob _ _ _ k1) (hob _ _ _ k2)) (fun b1 g o k1 k2=>h.dx b1 g o (hob _ _ _ k1) k2) (oq _ _)
 by_cases hbb:b∈bs
 ·right
  rw[lO,if_pos hbb]
  simp only[hbb,if_true]
  exact⟨hb b hbb,ah⟩
 ·left
  exact⟨by rw[lO,if_neg hbb],by simp[hbb],rfl,fun _ _ k=>k.elim⟩
section
variable{bs:List Nat}
theorem mG(h:RelC E st a w X loc ob){x y:AV}{v:Value}(hx:AR w (RS E w (al ob X)) loc x v ae)(hr:(ec x).run st=some y)(hb: ∀b∈x.refs0,b∈bs):
  AR w (RS E w (al (fun b=>if b∈bs then ae else ob b) X)) aC y v ae∧ ∀b∈x.refs0,(loc b).isSome:=by
 have hsub: ∀g o,al (fun b=>if b∈bs then ae else ob b) X g o→al ob X g o:=by
  rintro g o (⟨b,k⟩|k)
  ·by_cases h:b∈bs
   ·simp only[h,if_true]at k;exact k.elim
   ·simp only[h,if_false]at k;exact .inl ⟨b,k⟩
  ·exact .inr k
 have hR: ∀g o,RS E w (al ob X) g o→RS E w (al (fun b=>if b∈bs then ae else ob b) X) g o:=fun g o k=>⟨k.1,k.2.1,fun n=>k.2.2 (hsub g o n)⟩
 cases x with
 |ref b off n=>
  have hbb:b∈bs:=hb b (by simp[AV.refs0])
  have hcell: ∀g o,ob b g o→RS E w (al (fun b=>if b∈bs then ae else ob b) X) g o:=fun g o k=>⟨.inr (h.sub g o (.inl ⟨b,k⟩)),h.lt g o (.inl ⟨b,k⟩),fun m=>by
   rcases m with⟨b',m⟩|m
   ·by_cases h':b'∈bs
    ·simp only[h',if_true]at m;exact m.elim
    ·simp only[h',if_false]at m
     exact h.db b' b (fun e=>h' (e▸hbb)) g o m k
   ·exact h.dx b g o k m⟩
  have hr:=cM hr
  obtain⟨blk,hm,hr⟩:=bind_some hr
  obtain⟨hm,harr⟩:=dC hm
  obtain⟨hq,hr⟩:=bb hr
  obtain rfl:=au hr
  refine⟨?_,fun c hc=>by
   simp only[AV.refs0,List.mem_singleton]at hc
   subst hc
   obtain⟨l,hl,_⟩:=hx.inv_ref
   rw[hl];rfl⟩
  rcases oN h hx hm harr (of_decide_eq_true hq)with⟨rfl,ad,rfl⟩|⟨g,oo,cap,vs,rfl,hcap,hbf,hsl,hW,hO,hc,hxx,_,hpl⟩
  ·have:am blk.rows off 0=[]:=by simp[am]
   show AR w _ aC (.ro blk.z (am blk.rows off 0)) _ ae
   rw[this]
   exact .ro0 ah
  ·by_cases h0:n=0
   ·subst h0
    have:am blk.rows off 0=[]:=by simp[am]
    show AR w _ aC (.ro blk.z (am blk.rows off 0)) _ ae
    rw[this]
    exact .ro0 ah
   ·have:=AR.ro (w:=w) (R:=RS E w (al (fun b=>if b∈bs then ae else ob b) X)) (loc:=aC) (z:=blk.z) (rows:=am blk.rows off n) (g:=g) (o:=oo) (cap:=cap) (O:=ae) vs ah (by omega) (by omega) hbf.lt hW
     (fun i j hi hj=>⟨hc i j (by omega) hj,hcell _ _ ((hO _ _).2 rfl)⟩) (fun i j row x h1 h2=>(hxx i j row x h1 h2).weak hR (fun _ _ k=>k)) hpl
    rw[hsl]at this
    exact this hx.ref_len
 |_=>
  obtain⟨hq,hr⟩:=bb hr
  obtain rfl:=au hr
  exact⟨(hx.goes_emp hq hR).1,fun b hb=>by simp[AV.refs0]at hb⟩
theorem ni(h:RelC E st a w X loc ob): ∀(l ys:List AV)(vs:List Value),vs.length=l.length→(ef l).run st=some ys→
  (∀(k:Nat) x v,l[k]? =some x→vs[k]? =some v→AR w (RS E w (al ob X)) loc x v ae)→(∀b∈pa l,b∈bs)→
  ys.length=l.length∧(∀b∈pa l,(loc b).isSome)∧ ∀(k:Nat) y v,ys[k]? =some y→vs[k]? =some v→AR w (RS E w (al (fun b=>if b∈bs then ae else ob b) X)) aC y v ae
 |[],ys,vs,hl,hr,hx,hb=>by
  obtain rfl:=au (st:=st) hr
  exact⟨rfl,fun b hb=>by simp[pa]at hb,fun k y v h1=>by simp at h1⟩
 |x::l,ys,[],hl,_,_,_=>by simp at hl
 |x::l,ys,v::vs,hl,hr,hx,hb=>by
  obtain⟨y,h1,hr⟩:=bind_some hr
  obtain⟨ys',h2,hr⟩:=bind_some hr
  obtain rfl:=au hr
  obtain⟨hy,hs⟩:=mG h (hx 0 x v (by simp) (by simp)) h1 (fun b k=>hb b (by simp[pa,k]))
  obtain⟨h3,h5,h4⟩:=ni h l ys' vs (by simpa using hl) h2 (fun k y u k1 k2=>hx (k+1) y u (by simpa using k1) (by simpa using k2)) (fun b k=>hb b (by simp[pa,k]))
  refine⟨by simp[h3],fun b hb=> ?_,fun k y' u k1 k2=> ?_⟩
  ·simp only[pa,List.mem_append]at hb
   exact hb.elim (hs b) (h5 b)
  ·cases k with
   |zero=>
    simp only[List.getElem?_cons_zero,Option.some.injEq]at k1 k2
    subst k1;subst k2
    exact hy
   |succ k=>exact h4 k y' u (by simpa using k1) (by simpa using k2)
theorem yS(h:RelC E st a w X loc ob){x y:AV}{v:Value}(hx:AR w (RS E w (al ob X)) loc x v ae)(hr:(jM x).run st=some y)(hb: ∀b∈x.refs,b∈bs):
  AR w (RS E w (al (fun b=>if b∈bs then ae else ob b) X)) aC y v ae∧ ∀b∈x.refs,(loc b).isSome:=by
 cases x with
 |agg cs=>
  obtain⟨ys,h1,hr⟩:=bind_some hr
  obtain rfl:=au hr
  obtain⟨vs,rfl,hvl,hvx⟩:=hx.inv_agg
  obtain⟨h3,h5,h4⟩:=ni h cs ys vs.toList (by simpa using hvl) h1 (fun k x v h5 h6=>hvx k x v h5 (by simpa using h6)) hb
  exact⟨.agg (fun _=>ae) (by omega) (fun k x v h5 h6=>h4 k x v h5 (by simpa using h6)) (nL _),h5⟩
 |_=>exact mG h hx hr hb
theorem qB(h:RelC E st a w X loc ob): ∀(l ys:List AV)(vs:List Value),vs.length=l.length→(ea l).run st=some ys→
  (∀(k:Nat) x v,l[k]? =some x→vs[k]? =some v→AR w (RS E w (al ob X)) loc x v ae)→(∀b∈hN l,b∈bs)→Parts w (RS E w (al (fun b=>if b∈bs then ae else ob b) X)) aC ys vs ae∧ ∀b∈hN l,(loc b).isSome
 |[],ys,[],hl,hr,hx,hb=>by
  obtain rfl:=au (st:=st) hr
  exact⟨ah,fun b hb=>by simp[hN]at hb⟩
 |[],ys,_::_,hl,_,_,_=>by simp at hl
 |x::l,ys,[],hl,_,_,_=>by simp at hl
 |x::l,ys,v::vs,hl,hr,hx,hb=>by
  obtain⟨y,h1,hr⟩:=bind_some hr
  obtain⟨ys',h2,hr⟩:=bind_some hr
  obtain rfl:=au hr
  obtain⟨hy,hs⟩:=yS h (hx 0 x v (by simp) (by simp)) h1 (fun b k=>hb b (by simp[hN,k]))
  obtain⟨hp,hs2⟩:=qB h l ys' vs (by simpa using hl) h2 (fun k y u k1 k2=>hx (k+1) y u (by simpa using k1) (by simpa using k2)) (fun b k=>hb b (by simp[hN,k]))
  exact⟨⟨ae,ae,fun g o=>by simp[ae],ah.disj,hy,hp⟩,fun b hb=>by
   simp only[hN,List.mem_append]at hb
   exact hb.elim (hs b) (hs2 b)⟩
end
end
end Go.Abs
