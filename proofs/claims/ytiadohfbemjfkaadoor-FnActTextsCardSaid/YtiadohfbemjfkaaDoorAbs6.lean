/- The abstract layer, 33: from the data of a row's arguments to abstract values. -/
import Derived.Test.YtiadohfbemjfkaaDoorAbs5
import Derived.Test.YtiadohfbemjfkaaDoorAbsK
import Derived.WalkKit
import Derived.ProofKit
import Derived.OpenShut
import Derived.ShutString
import Derived.ChangeOld
import Derived.SizedLaws
import Derived.Lib.SmallJoins
set_option linter.unusedVariables false
set_option linter.unusedSimpArgs false
noncomputable section
namespace Go.Abs
open Go
def OfF(F:TypeId→List AV→Prop):List (Nat × TypeId)→List AV→Prop
 |[],l=>l=[]
 |p::fs,l=> ∃l1 l2,l=l1++l2∧F p.2 l1∧OfF F fs l2
def OfT(T:TT):Nat→TypeId→List AV→Prop
 |0,_,_=>False
 |d+1,t,l=>match T.get t with
  |some i=>match i.ut with
   | .int k=> ∃n,l=[.int k n]
   | .bool=> ∃b,l=[.bool b]
   | .str=> ∃s,l=[.str s]
   | .slice e=>match T.get e with
    |some j=> ∃rows,l=[.ro j.zero rows]∧ ∀row∈rows,OfT T d e row
    |none=>False
   | .struct fs=>OfF (OfT T d) fs l
   |_=>False
  |none=>False
def okF(T:TT)(ok:TypeId→Bool):List (Nat × TypeId)→Nat→Nat→Bool
 |[],o,n=>o==n
 |p::l,o,n=>p.1==o&&ok p.2&&match T.get p.2 with
  |some j=>okF T ok l (o+j.size) n
  |none=>false
def okTy(T:TT):Nat→TypeId→Bool
 |0,_=>false
 |d+1,t=>match T.get t with
  |some i=>match i.ut with
   | .int _=>i.size==1
   | .bool=>i.size==1
   | .str=>i.size==1
   | .slice e=>match T.get e with
    |some j=>i.size==1&&decide (0<j.size)&&j.zero.length==j.size&&okTy T d e
    |none=>false
   | .struct fs=>okF T (okTy T d) fs 0 i.size
   |_=>false
  |none=>false
section
variable{P:Program}{T:TT}{H:Type}{enc:TypeId × Value→H}{w:World}{base:Nat}{spare:Nat→Bool}{held:Bool}
abbrev RW(w:World):Cells:=fun g _=>g<w.heap.size
structure All(w:World)(l:List AV)(cs:List Value):Prop where
 len:l.length=cs.length
 ar: ∀(k:Nat) x v,l[k]? =some x→cs[k]? =some v→AR w (RW w) noLoc x v none2
 plain: ∀x∈l,x.plain=true
theorem All.one{x:AV}{v:Value}(h:AR w (RW w) noLoc x v none2)(hp:x.plain=true):All w [x] [v]:=⟨rfl,fun k y u h1 h2=>by
 cases k with
 |zero=>simp at h1 h2;subst h1 h2;exact h
 |succ k=>simp at h1,fun y hy=>by simp at hy;subst hy;exact hp⟩
theorem All.append{l l':List AV}{cs cs':List Value}(h:All w l cs)(h':All w l' cs'):All w (l++l') (cs++cs'):=⟨by simp[h.len,h'.len],fun k x v h1 h2=>by
 by_cases hk:k<l.length
 ·rw[List.getElem?_append_left hk]at h1
  rw[List.getElem?_append_left (by rw[←h.len];exact hk)]at h2
  exact h.ar k x v h1 h2
 ·rw[List.getElem?_append_right (by omega)]at h1
  rw[List.getElem?_append_right (by rw[←h.len];omega)]at h2
  rw[←h.len]at h2
  exact h'.ar _ x v h1 h2,fun x hx=>by
 rcases List.mem_append.1 hx with hx|hx
 ·exact h.plain x hx
 ·exact h'.plain x hx⟩
theorem ti_some{t:Nat}{i:TI}(h:tiOf P t=some i): ∃d,P.underlying t=some d∧i.ut=utOf d∧P.cellsOf t=i.size∧True:=by
 unfold tiOf at h
 split at h
 ·rename_i info d h1 h2
  split at h
  ·split at h
   ·injection h with h
    subst h
    exact⟨d,h2,rfl,by simp[Program.cellsOf,h1],trivial⟩
   ·cases h
  ·cases h
 ·cases h
theorem addr_add{g o n:Nat}:Addr.add ⟨g,o,none⟩ n=⟨g,o+n,none⟩:=by
 unfold Addr.add
 split
 ·rename_i h;subst h;rfl
 ·rfl
theorem cells_all{a:Addr}{n:Nat}{cs:List Value}(h:w.cells? base a n=some cs):cs.length=n∧ ∀k,k<n→ ∃v,cs[k]? =some v∧w.cell? (a.add k)=some v:=by
 obtain⟨h1,h2,h3⟩:=World.cells?_some h
 exact⟨h2,fun k hk=>⟨cs[k]'(by omega),by simp[h2,hk],by
  rw[h3 k hk]
  simp[h2,hk]⟩⟩
theorem AR.plain_known{R:Cells}{loc:Locs}{x:AV}(h:x.plain=true):x.isUndef=false:=by cases x<;>first|rfl|simp[AV.plain]at h
theorem bridgeF{ok:TypeId→Bool}{F:TypeId→List AV→Prop}(hT:T.ok P){cs:List Value}{fuel:Nat}
  (ih: ∀t cs x,ok t=true→DataW.trod enc P w base spare held fuel t cs=some x→ ∃l,F t l∧All w l cs∧cs.length=P.cellsOf t):
  ∀(fs:List Field)(o:Nat),okF T ok (fs.map fun f=>(f.offset,f.type)) o cs.length=true→(∀f∈fs,∃y,DataW.trod enc P w base spare held fuel f.type ((cs.drop f.offset).take (P.cellsOf f.type))=some y)→o≤cs.length→
   ∃l,OfF F (fs.map fun f=>(f.offset,f.type)) l∧All w l (cs.drop o)
 |[],o,hk,hy,ho=>by
  simp only[okF,List.map_nil,beq_iff_eq]at hk
  refine⟨[],rfl,?_⟩
  rw[hk,List.drop_length]
  exact⟨rfl,fun k x v h1 h2=>by simp at h1,fun x hx=>by simp at hx⟩
 |f::fs,o,hk,hy,ho=>by
  simp only[okF,List.map_cons,Bool.and_eq_true,beq_iff_eq]at hk
  obtain⟨⟨hk1,hk2⟩,hk3⟩:=hk
  split at hk3
  ·rename_i j hj
   obtain⟨y,hy1⟩:=hy f (by simp)
   obtain⟨l1,h1,h2,h3⟩:=ih _ _ _ hk2 hy1
   obtain⟨_,_,_,hsz,_⟩:=ti_some (hT _ _ hj)
   have hlen:o+j.size≤cs.length:=by
    simp only[List.length_take,List.length_drop,hsz,hk1]at h3
    omega
   obtain⟨l2,h4,h5⟩:=bridgeF hT ih fs (o+j.size) hk3 (fun g hg=>hy g (by simp[hg])) hlen
   refine⟨l1++l2,⟨l1,l2,rfl,h1,h4⟩,?_⟩
   have:cs.drop o=(cs.drop f.offset).take (P.cellsOf f.type)++cs.drop (o+j.size):=by
    rw[hk1,hsz,←List.drop_drop,List.take_append_drop]
   rw[this]
   exact h2.append h5
  ·cases hk3
theorem bridge(hT:T.ok P): ∀(d:Nat)(t:TypeId)(cs:List Value)(fuel:Nat)(x:DataW H × List MemPlace),okTy T d t=true→DataW.trod enc P w base spare held fuel t cs=some x→
  ∃l,OfT T d t l∧All w l cs∧cs.length=P.cellsOf t
 |0,t,cs,fuel,x,ht,h=>by simp[okTy]at ht
 |d+1,t,cs,fuel,x,ht,h=>by
  unfold okTy at ht
  unfold OfT
  split at ht
  ·rename_i i hi
   obtain⟨dd,hu,hut,hsz,_⟩:=ti_some (hT _ _ hi)
   have one: ∀{v:Value}{k:TypeDesc}(n:Nat),P.underlying t=some k→True:=fun _ _=>trivial
   split at ht
   ·rename_i k hk
    try simp only[hk]
    have hd:dd=.int k:=by rw[hut]at hk;cases dd<;>simp[utOf]at hk;rw[hk]
    subst hd
    obtain⟨n,rfl,rfl,hwf⟩:=DataW.trod_int hu h
    refine⟨_,⟨n,rfl⟩,.one (ar_int hwf) rfl,?_⟩
    simp only[beq_iff_eq]at ht
    rw[hsz,ht];rfl
   ·rename_i hk
    try simp only[hk]
    have hd:dd=.bool:=by rw[hut]at hk;cases dd<;>simp[utOf]at hk;rfl
    subst hd
    obtain⟨b,rfl,rfl⟩:=DataW.trod_bool hu h
    refine⟨_,⟨b,rfl⟩,.one (ar_bool b) rfl,?_⟩
    simp only[beq_iff_eq]at ht
    rw[hsz,ht];rfl
   ·rename_i hk
    try simp only[hk]
    have hd:dd=.string:=by rw[hut]at hk;cases dd<;>simp[utOf]at hk;rfl
    subst hd
    obtain⟨b,rfl,rfl,hl⟩:=DataW.trod_string hu h
    refine⟨_,⟨_,rfl⟩,.one (ar_str hl) rfl,?_⟩
    simp only[beq_iff_eq]at ht
    rw[hsz,ht];rfl
   ·rename_i e hk
    try simp only[hk]
    have hd:dd=.slice e:=by rw[hut]at hk;cases dd<;>simp[utOf]at hk;rw[hk]
    subst hd
    split at ht
    ·rename_i j hj
     try simp only[hj]
     simp only[Bool.and_eq_true,decide_eq_true_eq,beq_iff_eq]at ht
     obtain⟨⟨⟨ht0,ht1⟩,ht2⟩,ht3⟩:=ht
     obtain⟨_,_,_,hsj,_⟩:=ti_some (hT _ _ hj)
     rcases DataW.trod_slice hu h with⟨rfl,rfl⟩|⟨a,len,cap,elems,rest,n,rfl,rfl,rfl,hb,hlc,hcm,hel,hels,_,_⟩
     ·refine⟨_,⟨[],rfl,fun row hr=>by simp at hr⟩,.one (.ro0 emp_none2) rfl,?_⟩
      rw[hsz,ht0];rfl
     ·have each: ∀i:Nat,i<len→ ∃row cs,OfT T d e row∧All w row cs∧w.cells? base (a.add (i*P.cellsOf e)) (P.cellsOf e)=some cs∧row.length=j.size:=by
       intro i hi
       have h1:=hels i hi
       rw[List.getElem?_eq_getElem (by omega),Option.bind_eq_some_iff]at h1
       obtain⟨cs,h2,h3⟩:=h1
       obtain⟨row,h4,h5,h6⟩:=bridge hT d e cs n _ ht3 h3
       exact⟨row,cs,h4,h5,h2,by rw[h5.len,h6,hsj]⟩
      have: ∃F:Nat→List AV,∃G:Nat→List Value,∀i,i<len→OfT T d e (F i)∧All w (F i) (G i)∧w.cells? base (a.add (i*P.cellsOf e)) (P.cellsOf e)=some (G i)∧(F i).length=j.size:=by
       refine⟨fun i=>if h:i<len then Classical.choose (each i h)else[],fun i=>if h:i<len then Classical.choose (Classical.choose_spec (each i h))else[],fun i hi=> ?_⟩
       simp only[hi,dif_pos]
       exact Classical.choose_spec (Classical.choose_spec (each i hi))
      obtain⟨F,G,hFG⟩:=this
      refine⟨_,⟨(List.range len).map F,rfl,fun row hr=> ?_⟩,.one ?_ rfl,?_⟩
      ·obtain⟨i,hi,rfl⟩:=List.mem_map.1 hr
       exact(hFG i (List.mem_range.1 hi)).1
      ·by_cases h0:len=0
       ·subst h0;exact .ro0 emp_none2
       ·have cell: ∀i j',i<len→j'<j.size→ ∃v,(G i)[j']? =some v∧w.cell? ((a.add (i*j.size)).add j')=some v:=by
         intro i j' hi hj'
         have h1:=(hFG i hi).2.2.1
         rw[hsj]at h1
         exact(cells_all h1).2 j' hj'
        obtain⟨v0,_,hv0⟩:=cell 0 0 (by omega) ht1
        obtain⟨g,o,spot⟩:=a
        have hv0:w.cell? ⟨g,o,spot⟩=some v0:=by simpa[Addr.add]using hv0
        have hspot:spot=none:=by
         unfold World.cell? at hv0
         split at hv0
         ·cases spot
          ·rfl
          ·simp at hv0
         ·cases hv0
        subst hspot
        have hg:g<w.heap.size:=by
         unfold World.cell? at hv0
         split at hv0
         ·rename_i hh;exact(Array.getElem?_eq_some_iff.1 hh).1
         ·cases hv0
        have hlenr:((List.range len).map F).length=len:=by simp
        have:=AR.ro (w:=w) (R:=RW w) (loc:=noLoc) (z:=j.zero) (rows:=(List.range len).map F) (g:=g) (o:=o) (cap:=cap) (O:=none2) (fun i j'=>(G i).getD j' undef) emp_none2 (by omega) (by omega) hg
         ⟨fun row hr=>by
          obtain⟨i,hi,rfl⟩:=List.mem_map.1 hr
          rw[(hFG i (List.mem_range.1 hi)).2.2.2,ht2],fun row hr x hx=>by
          obtain⟨i,hi,rfl⟩:=List.mem_map.1 hr
          exact AR.plain_known (R:=RW w) (loc:=noLoc) ((hFG i (List.mem_range.1 hi)).2.1.plain x hx)⟩
         (fun i j' hi hj'=>by
          rw[hlenr]at hi
          rw[ht2]at hj'⊢
          obtain⟨v,h1,h2⟩:=cell i j' hi hj'
          refine⟨?_,hg⟩
          simp only[List.getD_eq_getElem?_getD,h1,Option.getD_some]
          rw[addr_add,addr_add]at h2;exact h2)
         (fun i j' row x h1 h2=>by
          have hi:i<len:=by
           have:=(List.getElem?_eq_some_iff.1 h1).1
           omega
          simp[hi]at h1
          subst h1
          have hA:=(hFG i hi).2.1
          have hj':j'<(G i).length:=by
           rw[←hA.len];exact(List.getElem?_eq_some_iff.1 h2).1
          have:=hA.ar j' x (G i)[j'] h2 (List.getElem?_eq_getElem hj')
          simpa[List.getD_eq_getElem?_getD,hj']using this)
         (fun row hr x hx=>by
          obtain⟨i,hi,rfl⟩:=List.mem_map.1 hr
          exact(hFG i (List.mem_range.1 hi)).2.1.plain x hx)
         (by rw[hlenr];exact Nat.le_trans hlc hcm)
        rw[hlenr]at this
        exact this
      ·rw[hsz,ht0];rfl
    ·cases ht
   ·rename_i fs hk
    try simp only[hk]
    have hd: ∃fs',dd=.struct fs'∧fs=fs'.toList.map fun f=>(f.offset,f.type):=by
     rw[hut]at hk
     cases dd<;>simp[utOf]at hk
     exact⟨_,rfl,hk.symm⟩
    obtain⟨fs',rfl,rfl⟩:=hd
    obtain⟨xs,n,rfl,rfl,hl,hxl,hxs⟩:=DataW.trod_struct hu h
    obtain⟨l,h1,h2⟩:=bridgeF (w:=w) (enc:=enc) (base:=base) (spare:=spare) (held:=held) (fuel:=n) (cs:=cs) (ok:=okTy T d) (F:=OfT T d) hT (fun t cs x=>bridge hT d t cs n x) fs'.toList 0 (by rw[hl,hsz];exact ht)
     (fun f hf=>by
      obtain⟨i,hi⟩:=List.mem_iff_getElem?.1 hf
      have:=hxs i f (by simpa using hi)
      have hi':i<fs'.size:=by simpa using(List.getElem?_eq_some_iff.1 hi).1
      rw[List.getElem?_eq_getElem (by omega)]at this
      exact⟨_,this⟩) (Nat.zero_le _)
    exact⟨l,h1,by simpa using h2,hl⟩
   ·cases ht
  ·cases ht
theorem All.agg{l:List AV}{cs:Array Value}(h:All w l cs.toList):AR w (RW w) noLoc (.agg l) (.agg cs) none2:=
 .agg (fun _=>none2) (by rw[h.len];simp) (fun k x v h1 h2=>h.ar k x v h1 (by simpa using h2)) ⟨fun g o=>by simp[none2],fun _ _ _ _ _=>emp_none2.disj⟩
theorem bridge_leaf(hT:T.ok P)(d:Nat){t:TypeId}{v:Value}{i:TI}(ht:okTy T (d+1) t=true)(hi:T.get t=some i)(hs:isAggT i.ut=false){r:Reach}{b0:Nat}(hok:Value.okWide P w r b0 t v)
  {dd:DataW H}{ps:List MemPlace}(h:DataW.Trod enc P w base spare held t v dd ps): ∃x,OfT T (d+1) t [x]∧AR w (RW w) noLoc x v none2:=by
 obtain⟨ds,hu,hut,hsz,_⟩:=ti_some (hT _ _ hi)
 obtain⟨fuel,h⟩:=h
 have hc:v.cells.toList=[v]:=by
  cases ds with
  |int k=>obtain⟨n,rfl⟩:=Go.WideShapes.okWide_int hu hok;rfl
  |bool=>obtain⟨n,rfl⟩:=Go.WideShapes.okWide_bool hu hok;rfl
  |string=>obtain⟨n,rfl⟩:=Go.WideShapes.okWide_string hu hok;rfl
  |slice e=>obtain⟨a,n,c,rfl⟩:=Go.WideShapes.okWide_slice hu hok;rfl
  |struct fs=>rw[hut]at hs;simp[utOf,isAggT]at hs
  |array n e=>rw[hut]at hs;simp[utOf,isAggT]at hs
  |_=>simp[okTy,hi,hut,utOf]at ht
 obtain⟨l,h1,h2,_⟩:=bridge hT (d+1) t _ fuel _ ht h
 rw[hc]at h2
 have: ∃x,l=[x]:=by
  have:=h2.len
  match l,this with
  |[x],_=>exact⟨x,rfl⟩
 obtain⟨x,rfl⟩:=this
 exact⟨x,h1,h2.ar 0 x v rfl rfl⟩
end
end Go.Abs
