/- The abstract layer, 8: cutting slices; struct literals. -/
import Derived.Test.YtiadohfbemjfkaaDoorAbsT
set_option linter.unusedVariables false
set_option linter.unusedSimpArgs false
noncomputable section
namespace Go.Abs
open Go
section
variable{P:Program}{T:TT}{E:Env}{o:Oper}{st:St}{a:Act}{w:World}{X:Cells}{loc:Locs}{ob:Nat→Cells}{r:Res}
theorem natOr_some(h:RelC E st a w X loc ob){x:Option Operand}{n m:Nat}(hr:(natOr x n).run st=some m):
  (x=none∧m=n)∨ ∃y k,x=some y∧a.eval y=.int k m:=by
 cases x with
 |none=>exact .inl ⟨rfl,(ret_some (st:=st) hr).symm⟩
 |some y=>
  obtain⟨v,hv,hr⟩:=bind_some hr
  have hv:=opnd_some h hv
  obtain⟨k,i,rfl,h0,rfl⟩:=asNat_some hr
  refine .inr ⟨y,k,rfl,?_⟩
  rw[hv.inv_int]
  congr 1
  omega
theorem run_sliceBound{k:IntKind}{n y:Nat}(code:BoundsCode)(hn:n≤y)(w:World):(Instr.sliceBound (.int k n) y code).run P w=.ok n w:=by
 simp only[Instr.sliceBound,Sem.run_bind,run_asIntOf,Result.andThen_ok]
 have:(0:Int)≤n∧(n:Int)≤y:=⟨by omega,by omega⟩
 simp only[this,and_self,if_true]
 rfl
theorem run_sliceBounds(h:RelC E st a w X loc ob){lo hi:Option Operand}{l hh len cap:Nat}(b:Bool)(hl:(natOr lo 0).run st=some l)(hh':(natOr hi len).run st=some hh)(h1:l≤hh)(h2:hh≤cap)(h3:len≤cap):
  (Instr.sliceBounds b len cap (lo.map a.eval) (hi.map a.eval) none).run P w=.ok (l,hh,cap) w:=by
 have eL:(match lo.map a.eval with
   |some v=>do
    let l ←Instr.sliceBound v hh (if(none:Option Value).isSome then .slice3C else .sliceB)
    pure (l,hh,cap)
   |none=>do
    let l ←pure 0
    pure (l,hh,cap):Sem (Nat × Nat × Nat)).run P w=.ok (l,hh,cap) w:=by
  rcases natOr_some h hl with⟨rfl,rfl⟩|⟨y,k,rfl,hy⟩
  ·rfl
  ·simp only[Option.map_some,hy,Sem.run_bind,run_sliceBound _ h1 w,Result.andThen_ok,Sem.run_pure]
 rcases natOr_some h hh' with⟨rfl,rfl⟩|⟨y,k,rfl,hy⟩
 ·simp only[Instr.sliceBounds,Option.map_none,Sem.run_bind,Sem.run_pure,Result.andThen_ok]
  exact eL
 ·simp only[Instr.sliceBounds,Option.map_some,hy,Sem.run_bind,Sem.run_pure,Result.andThen_ok]
  rw[run_sliceBound _ h2 w]
  simp only[Result.andThen_ok]
  exact eL
theorem widthA_some(hT:T.ok P){t:TypeId}{s:Nat}{d:TypeDesc}{i:TI}(hi:T.get t=some i)(hut:i.ut=utOf d)(hs:(widthA T t).run st=some s):
  d=.string∨ ∃el e,TIok P el e∧e.size=s∧(d=.slice el∨ ∃n,d=.array n el):=by
 obtain⟨i',hi',hs⟩:=bind_some hs
 have hi':=TI_some hi'
 rw[hi]at hi'
 injection hi' with hi'
 subst hi'
 split at hs
 ·rename_i e hu
  obtain⟨j,hj,hs⟩:=bind_some hs
  obtain rfl:=ret_some hs
  exact .inr ⟨e,j,hT.at (TI_some hj),rfl,.inl (und_slice (hut.symm.trans hu))⟩
 ·rename_i n e hu
  obtain⟨j,hj,hs⟩:=bind_some hs
  obtain rfl:=ret_some hs
  exact .inr ⟨e,j,hT.at (TI_some hj),rfl,.inr ⟨n,und_array (hut.symm.trans hu)⟩⟩
 ·rename_i hu
  exact .inl (und_str (hut.symm.trans hu))
 ·exact(fail_some hs).elim
theorem BR.arr_len{R:Cells}{loc:Locs}{b:Nat}{blk:Blk}{O:Cells}(h:BR w R loc b blk O)(ha:blk.arr=true):blk.rows.length≤maxLn:=by
 cases h with
 |arr0 _ _ _ _ _ _=>exact Nat.zero_le _
 |arr l vs os hl hbd hs hn hb hw hc hx hO hd hdd h0 h1 hm=>exact hm
 |var _ _ _ _ _ _ _ _ _ _ _ _ _ _=>cases ha
theorem did_slice(hT:T.ok P)(h:RelC E st a w X loc ob){t:TypeId}{x:Operand}{lo hi:Option Operand}(ho:o.op=.slice t x lo hi none)(hr:(evSlice T t x lo hi).run st=some r):Did P E o st a w X r:=by
 obtain⟨xv,hx,hr⟩:=bind_some hr
 have hx:=opnd_some h hx
 obtain⟨_,hf,hr⟩:=bind_some hr
 obtain⟨ti,d,hti,hd,hut,hfit⟩:=fits_some hT hf
 obtain⟨s,hs,hr⟩:=bind_some hr
 have hwid:=widthA_some hT hti hut hs
 obtain⟨v,hv,hr⟩:=bind_some hr
 obtain⟨l,hl,hr⟩:=bind_some hr
 obtain⟨len,hlen,hr⟩:=bind_some hr
 obtain⟨hh,hhi,hr⟩:=bind_some hr
 obtain⟨hq,hcut⟩:=req_some hr
 clear hr
 simp only[Bool.and_eq_true,decide_eq_true_eq]at hq
 obtain⟨hq1,hq2⟩:=hq
 -- the machine's way over a slice
 have keyS: ∀(ad:Option Addr)(cap:Nat),(∃el e,TIok P el e∧e.size=s∧d=.slice el)→a.eval x=.slice ad len cap→len≤cap→
   (execOp a.eval o).run P w=.ok (.value (.slice (if cap=l then ad else ad.map (·.add (l*s))) (hh-l) (cap-l))) w:=by
  rintro ad cap ⟨el,e,hel,rfl,rfl⟩ hax hc
  obtain⟨_,op,_,_,_,_⟩:=o
  subst ho
  simp only[execOp,Option.map_none]
  refine run_v ?_
  have hb:=run_sliceBounds (P:=P) h true hl hhi hq1 (Nat.le_trans hq2 hc) hc
  simp only[Instr.sliceAt,Instr.slice,Sem.run_bind,run_underlying hd,Result.andThen_ok,hax,hb,hel.size w,Sem.run_pure]
 rcases arrA_some hv with⟨rfl,hnp⟩|⟨b,blk,rfl,hm,harr,rfl⟩
 ·have hds:(∀s',v≠.str s')→ ∃el e,TIok P el e∧e.size=s∧d=.slice el:=by
   intro hns
   rcases hfit with⟨e',rfl,h1⟩|⟨_,_,b',x',y',_,_,h1,_⟩|⟨rfl,s',h1⟩
   ·rcases hwid with h2|⟨el,e,h2,h3,h4|⟨_,h4⟩⟩
    ·cases h2
    ·exact⟨el,e,h2,h3,h4⟩
    ·cases h4
   ·exact absurd h1 (hnp _ _ _)
   ·exact absurd h1 (hns s')
  cases v with
  |str b=>
   obtain rfl:=val_some hcut
   have hd':d=.string:=by
    rcases hfit with⟨e',rfl,h1⟩|⟨_,_,_,_,_,_,_,h1,_⟩|⟨rfl,_⟩
    ·rcases h1 with⟨_,_,_,h1⟩|⟨_,_,h1⟩|h1<;>cases h1
    ·cases h1
    ·rfl
   subst hd'
   obtain rfl:=ret_some (st:=st) hlen
   refine Did.pure h (v:=.string ((ByteArray.mk b.toArray).extract l hh)) ?_ (.sc ?_ emp_none2)
   ·obtain⟨_,op,_,_,_,_⟩:=o
    subst ho
    simp only[execOp,Option.map_none]
    refine run_v ?_
    have hb:=run_sliceBounds (P:=P) (cap:=b.length) h false hl hhi hq1 hq2 (Nat.le_refl _)
    simp only[Instr.sliceAt,Instr.slice,Sem.run_bind,run_underlying hd,Result.andThen_ok,hx.inv_str,str_size,hb,Sem.run_pure,Option.isSome_none,Bool.false_eq_true,if_false]
   ·refine⟨?_,by have:=hx.str_len;rw[List.length_take,List.length_drop];omega⟩
    show Value.string _=Value.string _
    congr 1
    apply ByteArray.ext
    rw[ByteArray.data_extract]
    simp[List.extract_eq_take_drop]
  |ref b off n=>
   have hln:len=n:=(ret_some (st:=st) hlen).symm
   subst hln
   replace hcut:=mem_some hcut
   obtain⟨blk,hm,hcut⟩:=bind_some hcut
   obtain⟨hm,harr⟩:=arrB_some hm
   obtain⟨hq,hcut⟩:=req_some hcut
   have hz:blk.z.length=s:=by simpa using hq
   obtain rfl:=val_some hcut
   obtain⟨lc,hlc,hn,ad,cap,hav,hcap,hcase⟩:=hx.inv_ref
   refine Did.pure h (keyS ad cap (hds fun _ h=>AV.noConfusion h) hav hcap) ?_
   have hs:=((h.lv b blk hm).width hlc).1
   by_cases hcl:cap=l
   ·rw[if_pos hcl]
    have h1:hh-l=0:=by omega
    have h2:cap-l=0:=by omega
    rw[h1,h2]
    exact .ref0 lc emp_none2 hlc (by omega)
   ·rw[if_neg hcl]
    rcases hcase with⟨h0,h0'⟩|⟨hbd,rfl,hbf⟩
    ·omega
    ·simp only[Option.map_some,add_plain']
     rw[hz]at hs
     have:=AR.ref (w:=w) (R:=RS E w (Owned ob X)) (loc:=loc) (b:=b) (off:=off+l) (len:=hh-l) (cap:=cap-l) (O:=none2) lc emp_none2 hlc hbd (by omega) (by omega)
      (by rw[show off+l+(cap-l)=off+cap by omega];exact hbf)
     rw[hs,Nat.add_mul,←Nat.add_assoc]at this
     rw[hs]
     exact this (by have:=hx.ref_len;omega)
  |ro z rows=>
   have hln:len=rows.length:=(ret_some (st:=st) hlen).symm
   subst hln
   obtain⟨hq,hcut⟩:=req_some hcut
   have hz:z.length=s:=by simpa using hq
   obtain rfl:=val_some hcut
   obtain⟨ad,cap,hav,hcap,hcase⟩:=hx.inv_ro
   refine Did.pure h (keyS ad cap (hds fun _ h=>AV.noConfusion h) hav hcap) ?_
   have hsl:(subA rows l (hh-l)).length=hh-l:=by simp[subA];omega
   by_cases he:hh-l=0
   ·have:subA rows l (hh-l)=[]:=List.eq_nil_of_length_eq_zero (by rw[hsl,he])
    rw[this,he]
    exact .ro0 emp_none2
   ·have hcl: ¬cap=l:=by omega
    rw[if_neg hcl]
    rcases hcase with rfl|⟨g,off,vs,hpos,rfl,hg,hW,hc,hxx,hpp⟩
    ·simp at hq2;omega
    ·simp only[Option.map_some,add_plain']
     have hget: ∀i,i<hh-l→(subA rows l (hh-l))[i]? =rows[l+i]? :=fun i hi=>by simp[subA,hi]
     have hmem: ∀row∈subA rows l (hh-l),row∈rows:=fun row hr=>List.mem_of_mem_drop (List.mem_of_mem_take hr)
     have:=AR.ro (w:=w) (R:=RS E w (Owned ob X)) (loc:=loc) (z:=z) (rows:=subA rows l (hh-l)) (g:=g) (o:=off+l*s) (cap:=cap-l) (O:=none2) (fun i j=>vs (l+i) j) emp_none2 (by omega) (by omega) hg
      ⟨fun row hr=>hW.len row (hmem row hr),fun row hr=>hW.known row (hmem row hr)⟩
      (fun i j hi hj=>by
       have:=hc (l+i) j (by omega) hj
       rw[Nat.add_mul,←Nat.add_assoc]at this
       rw[hz]at this⊢
       exact this)
      (fun i j row x h1 h2=>hxx (l+i) j row x (by rw[←hget i (by have:=(List.getElem?_eq_some_iff.1 h1).1;omega)];exact h1) h2) (fun row hr=>hpp row (hmem row hr))
     rw[hsl]at this
     exact this (by have:=hx.ro_len;omega)
  |emp=>
   have hln:len=0:=(ret_some (st:=st) hlen).symm
   subst hln
   obtain rfl:=val_some hcut
   obtain⟨ad,hav⟩:=hx.inv_emp
   refine Did.pure h (keyS ad 0 (hds fun _ h=>AV.noConfusion h) hav (Nat.le_refl _)) (.sc ?_ emp_none2)
   have:l=0:=by omega
   subst this
   have:hh=0:=by omega
   subst this
   exact⟨_,rfl⟩
  |_=>exact(fail_some hcut).elim
 ·have hln:len=blk.rows.length:=(ret_some (st:=st) hlen).symm
  subst hln
  replace hcut:=mem_some hcut
  obtain⟨blk',hm',hcut⟩:=bind_some hcut
  obtain⟨hm',_⟩:=arrB_some hm'
  rw[hm]at hm'
  injection hm' with hm'
  subst hm'
  obtain⟨hq,hcut⟩:=req_some hcut
  have hz:blk.z.length=s:=by simpa using hq
  obtain rfl:=val_some hcut
  obtain⟨lc,hlc,hbd,hi0,hav⟩:=hx.inv_ptr
  obtain⟨hs,hln⟩:=(h.lv b blk hm).width hlc
  rw[hz]at hs
  have hda: ∃el e,TIok P el e∧e.size=s∧d=.array blk.rows.length el:=by
   rcases hfit with⟨e',rfl,h1⟩|⟨n,e',b',x',y',blk',rfl,h1,h2,_,h3⟩|⟨rfl,_,h1⟩
   ·rcases h1 with⟨_,_,_,h1⟩|⟨_,_,h1⟩|h1<;>cases h1
   ·injection h1 with h1
    subst h1
    rw[hm]at h2
    injection h2 with h2
    subst h2
    rcases hwid with h2|⟨el,e,h2,h4,h5|⟨_,h5⟩⟩
    ·cases h2
    ·cases h5
    ·injection h5 with h5 h6
     subst h6
     exact⟨e',e,h2,h4,by rw[h3]⟩
   ·cases h1
  obtain⟨el,e,hel,hes,rfl⟩:=hda
  have hbf:BF w lc.g (lc.base+blk.rows.length*blk.z.length):=by
   have:=h.lv b blk hm
   cases this with
   |arr0 l' hl' hn' _ _ _=>rw[hlc]at hl';injection hl' with hl';subst hl';omega
   |arr l' vs os hl' hbd' _ _ hb _ _ _ _ _ _ _ _=>rw[hlc]at hl';injection hl' with hl';subst hl';exact hb
   |var l' vs os hl' _ _ _ _ _ _ _ _ _ _=>simp at harr
  have hrun:(execOp a.eval o).run P w=.ok (.value (.slice (some (if blk.rows.length=l then⟨lc.g,lc.base,none⟩else⟨lc.g,lc.base+l*s,none⟩)) (hh-l) (blk.rows.length-l))) w:=by
   obtain⟨_,op,_,_,_,_⟩:=o
   subst ho
   simp only[execOp,Option.map_none]
   refine run_v ?_
   have hb:=run_sliceBounds (P:=P) (cap:=blk.rows.length) h false hl hhi hq1 hq2 (Nat.le_refl _)
   have hav':a.eval x=.pointer (some ⟨lc.g,lc.base,none⟩):=by rw[hav];simp
   simp only[Instr.sliceAt,Instr.sureAddr,Sem.run_bind,run_underlying hd,Result.andThen_ok,hav',hb,hel.size w,Sem.run_pure,hes,add_plain']
  refine Did.pure h hrun ?_
  by_cases hcl:blk.rows.length=l
  ·rw[if_pos hcl]
   have h1:hh-l=0:=by omega
   have h2:blk.rows.length-l=0:=by omega
   rw[h1,h2]
   exact .ref0 lc emp_none2 hlc (by omega)
  ·rw[if_neg hcl]
   have:=AR.ref (w:=w) (R:=RS E w (Owned ob X)) (loc:=loc) (b:=b) (off:=0+l) (len:=hh-l) (cap:=blk.rows.length-l) (O:=none2) lc emp_none2 hlc hbd (by omega) (by omega)
    (by rw[show 0+l+(blk.rows.length-l)=blk.rows.length by omega,hs];rw[hz]at hbf;exact hbf)
   rw[hs,Nat.zero_add]at this
   rw[Nat.zero_add]
   have hbl:blk.rows.length≤maxLn:=(h.lv b blk hm).arr_len harr
   exact this (by omega)
theorem fold_set: ∀(l:List Value)(off s:Nat)(cells:Array Value),((l.zipIdx s).foldl (fun cs p=>cs.setIfInBounds (off+p.2) p.1) cells).size=cells.size∧
  ∀k,((l.zipIdx s).foldl (fun cs p=>cs.setIfInBounds (off+p.2) p.1) cells)[k]? =if off+s≤k∧k<off+s+l.length∧k<cells.size then l[k-(off+s)]? else cells[k]?
 |[],off,s,cells=>⟨rfl,fun k=>by
   have: ¬(off+s≤k∧k<off+s+([]:List Value).length∧k<cells.size):=by simp;omega
   rw[if_neg this];rfl⟩
 |x::l,off,s,cells=>by
  obtain⟨h1,h2⟩:=fold_set l off (s+1) (cells.setIfInBounds (off+s) x)
  simp only[List.zipIdx_cons,List.foldl_cons]
  refine⟨by rw[h1];simp,fun k=> ?_⟩
  rw[h2 k]
  simp only[Array.size_setIfInBounds,List.length_cons]
  by_cases hk:k=off+s
  ·subst hk
   have e1: ¬(off+(s+1)≤off+s∧off+s<off+(s+1)+l.length∧off+s<cells.size):=by omega
   rw[if_neg e1]
   by_cases hlt:off+s<cells.size
   ·have e2:off+s≤off+s∧off+s<off+s+(l.length+1)∧off+s<cells.size:=by omega
    rw[if_pos e2]
    simp[hlt]
   ·have e2: ¬(off+s≤off+s∧off+s<off+s+(l.length+1)∧off+s<cells.size):=by omega
    rw[if_neg e2]
    simp[hlt]
  ·by_cases hc:off+s≤k∧k<off+s+(l.length+1)∧k<cells.size
   ·have e1:off+(s+1)≤k∧k<off+(s+1)+l.length∧k<cells.size:=by omega
    rw[if_pos hc,if_pos e1]
    rw[show k-(off+s)=(k-(off+(s+1)))+1 by omega]
    simp
   ·have e1: ¬(off+(s+1)≤k∧k<off+(s+1)+l.length∧k<cells.size):=by omega
    rw[if_neg hc,if_neg e1]
    rw[Array.getElem?_setIfInBounds_ne (Ne.symm hk)]
def LR(w:World)(R:Cells)(loc:Locs)(cs:List AV)(cells:Array Value):Prop:=cells.size=cs.length∧ ∀(k:Nat) x c,cs[k]? =some x→cells[k]? =some c→AR w R loc x c none2
theorem setCells_get(row:List AV)(j:Nat)(vs:List AV)(h:j+vs.length≤row.length)(k:Nat):(setCells row j vs)[k]? =if j≤k∧k<j+vs.length then vs[k-j]? else row[k]? :=by
 unfold setCells
 by_cases h1:k<j
 ·rw[if_neg (by omega),List.append_assoc,List.getElem?_append_left (by rw[List.length_take];omega),List.getElem?_take,if_pos h1]
 ·by_cases h2:k<j+vs.length
  ·rw[if_pos ⟨by omega,h2⟩,List.append_assoc,List.getElem?_append_right (by rw[List.length_take];omega),List.getElem?_append_left (by rw[List.length_take];omega),List.length_take]
   congr 1;omega
  ·rw[if_neg (by omega),List.getElem?_append_right (by rw[List.length_append,List.length_take];omega),List.getElem?_drop,List.length_append,List.length_take]
   congr 1;omega
theorem setCells_len(row:List AV)(j:Nat)(vs:List AV)(h:j+vs.length≤row.length):(setCells row j vs).length=row.length:=by
 simp[setCells];omega
theorem fill_some{R:Cells}{loc:Locs}(place:Nat→Option (Nat × Nat)): ∀(ps:List (Nat × AV))(cps:List (Nat × Value))(cs cs':List AV)(cells:Array Value),fillA place cs ps=some cs'→LR w R loc cs cells→
  ps.length=cps.length→(∀(k:Nat) p c,ps[k]? =some p→cps[k]? =some c→p.1=c.1∧AR w R loc p.2 c.2 none2∧p.2.leaves.all AV.light=true)→
  ∃cells',Instr.fill place cells cps=some cells'∧LR w R loc cs' cells'
 |[],[],cs,cs',cells,h,hl,_,_=>by simp only[fillA]at h;injection h with h;subst h;exact⟨cells,rfl,hl⟩
 |[],_::_,_,_,_,_,_,h,_=>by simp at h
 |_::_,[],_,_,_,_,_,h,_=>by simp at h
 |(i,x)::ps,(i',v)::cps,cs,cs',cells,h,hl,hlen,hp=>by
  obtain⟨rfl,hx,hlt⟩:=hp 0 (i,x) (i',v) (by simp) (by simp)
  simp only[fillA]at h
  split at h
  case h_2=>cases h
  rename_i o ho
  split at h
  case isFalse=>cases h
  rename_i hc
  obtain⟨hn,hone,hxx⟩:=hx.leaves hlt
  have hsz:v.cells.size=x.leaves.length:=by simpa using hn
  obtain⟨f1,f2⟩:=fold_set v.cells.toList o.1 0 cells
  have hfold:v.cells.zipIdx.foldl (fun cs(p:Value × Nat)=>cs.setIfInBounds (o.1+p.2) p.1) cells=(v.cells.toList.zipIdx 0).foldl (fun cs p=>cs.setIfInBounds (o.1+p.2) p.1) cells:=by
   rw[←Array.foldl_toList]
   simp
  have hl':LR w R loc (setCells cs o.1 x.leaves) (v.cells.zipIdx.foldl (fun cs(p:Value × Nat)=>cs.setIfInBounds (o.1+p.2) p.1) cells):=by
   rw[hfold]
   refine⟨by rw[f1,setCells_len _ _ _ (by omega)];exact hl.1,fun k y c h1 h2=> ?_⟩
   rw[f2 k]at h2
   rw[setCells_get _ _ _ (by omega)]at h1
   simp only[Nat.add_zero,Array.length_toList,hsz]at h2
   by_cases hin:o.1≤k∧k<o.1+x.leaves.length
   ·rw[if_pos hin]at h1
    rw[if_pos ⟨hin.1,hin.2,by rw[hl.1];omega⟩]at h2
    exact hxx _ y c h1 h2
   ·rw[if_neg hin]at h1
    rw[if_neg (by omega)]at h2
    exact hl.2 k y c h1 h2
  obtain⟨cells',h3,h4⟩:=fill_some place ps cps _ cs' _ h hl' (by simpa using hlen) (fun k p c h1 h2=>hp (k+1) p c (by simpa using h1) (by simpa using h2))
  refine⟨cells',?_,h4⟩
  simp only[Instr.fill,ho]
  have: ¬((decide (v.cells.size≠o.2)||decide (o.1+v.cells.size>cells.size))=true):=by
   simp only[Bool.or_eq_true,decide_eq_true_eq,not_or]
   rw[hsz,hl.1]
   omega
  rw[if_neg this]
  exact h3
theorem run_places(hT:T.ok P)(w:World): ∀(fs:List Field),(∀f∈fs,(T.get f.type).isSome=true)→
  ∃pl:List (Nat × Nat),(fs.mapM (m:=Sem) fun f=>do pure (f.offset,←sizeOf f.type)).run P w=.ok pl w∧ ∀i:Nat,pl[i]? =fieldA T (fs.map fun f=>(f.offset,f.type)) i
 |[],_=>⟨[],rfl,fun i=>by simp[fieldA]⟩
 |f::fs,h=>by
  obtain⟨pl,h1,h2⟩:=run_places hT w fs (fun g hg=>h g (by simp[hg]))
  obtain⟨j,hj⟩:=Option.isSome_iff_exists.1 (h f (by simp))
  refine⟨(f.offset,j.size)::pl,?_,fun i=> ?_⟩
  ·simp only[List.mapM_cons,Sem.run_bind,(hT.at hj).size w,Result.andThen_ok,Sem.run_pure,h1]
  ·cases i with
   |zero=>simp[fieldA,hj]
   |succ i=>
    have:=h2 i
    simp only[List.getElem?_cons_succ,this]
    simp[fieldA]
theorem did_build(hT:T.ok P)(h:RelC E st a w X loc ob){t:TypeId}{ps:Array (Nat × Operand)}(ho:o.op=.build t ps)(hr:(evBuild T t ps.toList).run st=some r):Did P E o st a w X r:=by
 obtain⟨i,hi,hr1⟩:=bind_some hr
 have hti:=hT.at (TI_some hi)
 obtain⟨d,hd,hut⟩:=hti.und
 obtain⟨z,hz,hzs,hzl⟩:=hti.zeroV w
 split at hr1
 case h_3=>exact(fail_some hr1).elim
 case h_2=>
  rename_i n e hfs
  rw[hut]at hfs
  obtain rfl:=und_array hfs
  split at hr1
  case h_2=>exact(fail_some hr1).elim
  rename_i hps
  obtain⟨j,hj,hr2⟩:=bind_some hr1
  have htj:=hT.at (TI_some hj)
  obtain rfl:=val_some hr2
  have hps:ps.toList=[]:=hps
  refine Did.pure h (v:=.agg z.cells) ?_ ?_
  ·obtain⟨_,op,_,_,_,_⟩:=o
   subst ho
   simp only[execOp]
   refine run_v ?_
   have hpl':(ps.map fun(p:Nat × Operand)=>(p.1,a.eval p.2)).toList=[]:=by simp[hps]
   simp only[Instr.build,Sem.run_bind,hz,Result.andThen_ok,run_underlying hd,htj.size w,hpl',Instr.fill]
   rfl
  ·refine .agg (fun _=>none2) (by rw[hzl];simp) (fun k x c h1 h2=> ?_) ⟨fun g o=>⟨fun k=>k.elim,fun⟨_,_,k⟩=>k.elim⟩,fun _ _ _ _ _ _ _ k=>k.elim⟩
   exact zero_leaf hzl k x c h1 (by simpa using h2)
 rename_i fs hfs
 rw[hut]at hfs
 obtain⟨fa,rfl,rfl⟩:=und_struct hfs
 obtain⟨vs,hvs,hr2⟩:=bind_some hr1
 obtain⟨hq,hr3⟩:=req_some hr2
 simp only[Bool.and_eq_true,List.all_eq_true]at hq
 obtain⟨cs,hcs,hr4⟩:=bind_some hr3
 have hcs:=ofOpt_some hcs
 obtain rfl:=val_some hr4
 obtain⟨hl,hx⟩:=opnds_some h hvs
 obtain⟨pl,hpl,hpf⟩:=run_places hT w fa.toList (fun f hf=>hq.2 (f.offset,f.type) (List.mem_map.2 ⟨f,hf,rfl⟩))
 have hz0:LR w (RS E w (Owned ob X)) loc i.zero z.cells:=⟨by rw[hzl];simp,fun k y c h1 h2=>zero_leaf hzl k y c h1 (by simpa using h2)⟩
 obtain⟨cells',hfill,hlr⟩:=fill_some (fieldA T (fa.toList.map fun f=>(f.offset,f.type))) ((ps.toList.map (·.1)).zip vs) (ps.toList.map fun p=>(p.1,a.eval p.2)) i.zero cs z.cells hcs hz0
  (by simp[hl]) (fun k p c h1 h2=>by
   simp only[List.getElem?_map,Option.map_eq_some_iff]at h2
   obtain⟨q,hq1,rfl⟩:=h2
   rw[List.getElem?_zip_eq_some]at h1
   obtain⟨h3,h4⟩:=h1
   simp only[List.getElem?_map,hq1,Option.map_some]at h3
   injection h3 with h3
   exact⟨h3.symm,hx k p.2 q.2 h4 (by simp[hq1]),List.all_eq_true.2 (hq.1 p.2 (List.mem_of_getElem? h4)|>fun hh=>by simpa using hh)⟩)
 refine Did.pure h (v:=.agg cells') ?_ ?_
 ·obtain⟨_,op,_,_,_,_⟩:=o
  subst ho
  simp only[execOp]
  refine run_v ?_
  have hplaces:(fa.mapM (m:=Sem) fun f=>do pure (f.offset,←sizeOf f.type)).run P w=.ok pl.toArray w:=by
   rw[Array.mapM_eq_mapM_toList]
   have e: ∀X:Sem (List (Nat × Nat)),(List.toArray<$>X:Sem (Array (Nat × Nat)))=(do let l ←X;pure l.toArray):=fun _=>rfl
   rw[e,Sem.run_bind,hpl,Result.andThen_ok]
   rfl
  have hfun:(pl.toArray[·]?)=fieldA T (fa.toList.map fun f=>(f.offset,f.type)):=by
   funext i
   rw[←hpf i]
   simp
  simp only[Instr.build,Sem.run_bind,hz,Result.andThen_ok,run_underlying hd,hplaces,hfun]
  have hpl':(ps.map fun(p:Nat × Operand)=>(p.1,a.eval p.2)).toList=ps.toList.map fun p=>(p.1,a.eval p.2):=by simp
  rw[hpl',hfill]
  rfl
 ·exact .agg (fun _=>none2) hlr.1 (fun k x c h1 h2=>hlr.2 k x c h1 h2) ⟨fun g o=>⟨fun k=>k.elim,fun⟨_,_,k⟩=>k.elim⟩,fun _ _ _ _ _ _ _ k=>k.elim⟩
end
end Go.Abs
