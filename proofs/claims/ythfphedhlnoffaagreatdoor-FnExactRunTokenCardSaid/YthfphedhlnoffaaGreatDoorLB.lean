import Derived.Test.YthfphedhlnoffaaGreatDoorLA
import Derived.Laws.IdiomCopy
import Derived.Laws.Cells
import Derived.ChangeKeysEq
/- The abstract layer, 4: each operation does what `evOp` says. -/
set_option linter.unusedVariables false
set_option linter.unusedSimpArgs false
noncomputable section
namespace Go.Abs
open Go
theorem run_bind{α β:Type}(f:α→RP β)(st:St): ∀r:RP α,(r.bind f).run st=(r.run st).bind fun a=>(f a).run st
 | .ret a=>rfl
 | .tmp k c=>by simp only[RP.bind,RP.run];exact run_bind f st _
 | .mem b c=>by simp only[RP.bind,RP.run];exact run_bind f st _
 | .req b c=>by
  simp only[RP.bind,RP.run]
  split
  ·exact run_bind f st _
  ·rfl
 | .fail=>rfl
theorem bind_some{α β:Type}{r:RP α}{f:α→RP β}{st:St}{b:β}(h:(r.bind f).run st=some b): ∃a,r.run st=some a∧(f a).run st=some b:=by
 rw[run_bind]at h
 cases hr:r.run st with
 |none=>rw[hr]at h;cases h
 |some a=>rw[hr]at h;exact⟨a,rfl,h⟩
theorem bb{α:Type}{b:Bool}{c:RP α}{st:St}{x:α}(h:(RP.req b c).run st=some x):b=true∧c.run st=some x:=by
 simp only[RP.run]at h
 split at h
 ·exact⟨‹_›,h⟩
 ·cases h
theorem au{α:Type}{a x:α}{st:St}(h:(RP.ret a).run st=some x):a=x:=by simpa[RP.run]using h
theorem bA{v:AV}{x:di}{st:St}(h:(il v).run st=some x):x=(v,[]):=by
 have:=au h
 exact this.symm
theorem jR{α:Type}{o:Option α}{x:α}{st:St}(h:(RP.ofOpt o).run st=some x):o=some x:=by
 cases o with
 |none=>cases h
 |some a=>exact congrArg some (au h)
theorem ay{α:Type}{x:α}{st:St}(h:(RP.fail:RP α).run st=some x):False:=by cases h
theorem cM{α:Type}{b:Nat}{c:MB→RP α}{st:St}{x:α}(h:(RP.mem b c).run st=some x):(c (st.m b)).run st=some x:=h
theorem lV{m:MB}{st:St}{x:Blk}(h:(gX m).run st=some x):m=.live x:=by
 cases m with
 |live b=>rw[au h]
 |_=>cases h
theorem dC{m:MB}{st:St}{x:Blk}(h:(kC m).run st=some x):m=.live x∧x.arr=true:=by
 obtain⟨b,h1,h⟩:=bind_some h
 obtain⟨_,h2,h⟩:=bind_some h
 have:=(bb h2).1
 obtain rfl:=au h
 exact⟨lV h1,this⟩
theorem cL{T:TT}{t:Nat}{st:St}{i:TI}(h:(TI.ofT T t).run st=some i):T.get t=some i:=by
 unfold TI.ofT at h
 split at h
 ·rw[←au h];assumption
 ·cases h
theorem cO{α:Type}{st:St}{K:α→Prop}: ∀{r:RP α},r.runK st K→ ∃a,r.run st=some a∧K a
 | .ret a,h=>⟨a,rfl,h⟩
 | .tmp k c,h=>cO (r:=c (st.t k)) h
 | .mem b c,h=>cO (r:=c (st.m b)) h
 | .req b c,h=>by
  obtain⟨a,h1,h2⟩:=cO (r:=c) h.2
  exact⟨a,by simp only[RP.run,h.1,if_true];exact h1,h2⟩
 | .fail,h=>h.elim
structure TIok(P:Program)(t:TypeId)(i:TI):Prop where
 ex: ∃info d z,P.info? t=some info∧P.underlying t=some d∧info.zero=some z∧z.cells.size=i.size∧info.size=i.size∧info.bytes=i.bytes∧
  i.ut=fx d∧i.zero=z.cells.toList.map ofVal∧i.eqs=BK P t d
theorem D1{P:Program}{t:TypeId}{i:TI}(h:yT P t=some i):TIok P t i:=by
 unfold yT at h
 split at h
 ·rename_i info d h1 h2
  split at h
  ·rename_i z hz
   split at h
   ·rename_i hs
    injection h with h
    subst h
    exact⟨info,d,z,h1,h2,hz,hs,rfl,rfl,rfl,rfl,rfl⟩
   ·cases h
  ·cases h
 ·cases h
theorem TT.ok.at{T:TT}{P:Program}(h:T.ok P){t:Nat}{i:TI}(hi:T.get t=some i):TIok P t i:=D1 (h t i hi)
theorem TIok.size{P:Program}{t:TypeId}{i:TI}(h:TIok P t i)(w:World):(sizeOf t).run P w=.ok i.size w:=by
 obtain⟨info,d,z,h1,h2,hz,hs,h3,h4,_⟩:=h.ex
 rw[run_sizeOf w h1]
 congr 1
 simp[Program.cellsOf,h1,h3]
theorem TIok.zlen{P:Program}{t:TypeId}{i:TI}(h:TIok P t i):i.zero.length=i.size:=by
 obtain⟨info,d,z,h1,h2,hz,hs,h3,h4,h5,h6,_⟩:=h.ex
 rw[h6];simpa using hs
theorem TIok.und{P:Program}{t:TypeId}{i:TI}(h:TIok P t i): ∃d,P.underlying t=some d∧i.ut=fx d:=by
 obtain⟨info,d,z,h1,h2,hz,hs,h3,h4,h5,h6,_⟩:=h.ex
 exact⟨d,h2,h5⟩
theorem TIok.zeroV{P:Program}{t:TypeId}{i:TI}(h:TIok P t i)(w:World): ∃z,(zeroValue t).run P w=.ok z w∧z.cells.size=i.size∧i.zero=z.cells.toList.map ofVal:=by
 obtain⟨info,d,z,h1,h2,hz,hs,h3,h4,h5,h6,_⟩:=h.ex
 refine⟨z,?_,hs,h6⟩
 simp only[zeroValue,Sem.run_bind,run_typeInfo w h1,Result.andThen_ok,hz]
 rfl
theorem fC{d:TypeDesc}{e:TypeId}(h:fx d=.slice e):d=.slice e:=by cases d<;>simp[fx]at h;rw[h]
theorem lF{d:TypeDesc}{n:Nat}{e:TypeId}(h:fx d=.array n e):d=.array n e:=by cases d<;>simp[fx]at h;rw[h.1,h.2]
theorem jD{d:TypeDesc}(h:fx d=.str):d=.string:=by cases d<;>simp[fx]at h;rfl
theorem nO{d:TypeDesc}{k:IntKind}(h:fx d=.int k):d=.int k:=by cases d<;>simp[fx]at h;rw[h]
theorem uO{d:TypeDesc}(h:fx d=.bool):d=.bool:=by cases d<;>simp[fx]at h;rfl
theorem jN{d:TypeDesc}{l:List (Nat × TypeId)}(h:fx d=.struct l): ∃fs,d=.struct fs∧l=fs.toList.map fun f=>(f.offset,f.type):=by
 cases d<;>simp[fx]at h
 exact⟨_,rfl,h.symm⟩
theorem jk(k:IntKind)(n:Int):dE k (k.wrap n)=true:=by
 cases k<;>simp[dE,IntKind.wrap,IntKind.signed,IntKind.bits]<;>(try split)<;>omega
theorem yw(c:UInt8):dE .u8 c.toNat=true:=by
 have:=c.toNat_lt
 simp only[dE,Bool.and_eq_true,decide_eq_true_eq]
 omega
theorem nv{n:Nat}(h:n≤cj):dE .i64 n=true:=by
 unfold cj at h
 simp only[dE,Bool.and_eq_true,decide_eq_true_eq]
 omega
theorem B1(v:Value):SR (ofVal v) v:=by
 unfold ofVal
 split
 ·rename_i k n
  by_cases h:dE k n=true
  ·rw[if_pos h];exact⟨rfl,h⟩
  ·rw[if_neg h];exact trivial
 ·exact rfl
 ·rename_i s
  by_cases h:s.data.toList.length≤cj
  ·rw[if_pos h];exact⟨by simp,h⟩
  ·rw[if_neg h];exact trivial
 all_goals simp[SR]
theorem AR.ofVal{w:World}{R:Cells}{loc:bG}(v:Value):AR w R loc (ofVal v) v ae:=.sc (B1 v) ah
section
variable{P:Program}{E:Env}{st:St}{a:Act}{w:World}{X:Cells}{loc:bG}{ob:Nat→Cells}
theorem bp(h:RelC E st a w X loc ob){x:Operand}{v:AV}(hx:(cK x).run st=some v):AR w (RS E w (al ob X)) loc v (a.eval x) ae:=by
 cases x with
 |tmp k=>obtain rfl:=au (st:=st) hx;exact h.tm k
 |const c=>obtain rfl:=au (st:=st) hx;exact AR.ofVal c
 |func f=>
  obtain rfl:=au hx
  exact .fn (fun _=>ae) (by simp) (fun k x v h1 _=>by simp at h1) ⟨fun g o=>⟨fun k=>k.elim,fun⟨_,_,k⟩=>k.elim⟩,fun _ _ _ _ _ _ _ k=>k.elim⟩
 |global g=>exact(ay hx).elim
theorem dR(h:RelC E st a w X loc ob): ∀{l:List Operand}{vs:List AV},(gk l).run st=some vs→vs.length=l.length∧ ∀(k:Nat) x o,vs[k]? =some x→l[k]? =some o→AR w (RS E w (al ob X)) loc x (a.eval o) ae
 |[],vs,hx=>by obtain rfl:=au hx;exact⟨rfl,fun k x o h1=>by simp at h1⟩
 |o::l,vs,hx=>by
  obtain⟨v,h1,hx⟩:=bind_some hx
  obtain⟨vs',h2,hx⟩:=bind_some hx
  obtain rfl:=au hx
  obtain⟨hl,hr⟩:=dR h h2
  refine⟨by simp[hl],fun k x o' h3 h4=> ?_⟩
  cases k with
  |zero=>simp at h3 h4;subst h3;subst h4;exact bp h h1
  |succ k=>simp at h3 h4;exact hr k x o' h3 h4
theorem AR.emp_weak{R:Cells}{x:AV}{v:Value}{O O':Cells}(h:AR w R loc x v O)(e:Emp O)(e':Emp O'):AR w R loc x v O':=by
 have:O=O':=by funext g o;exact propext ⟨fun k=>(e g o k).elim,fun k=>(e' g o k).elim⟩
 exact this▸h
def one(v:Value):Prop:=v.cells=#[v]∧v.oneCell'=true
theorem AR.leaf_one{R:Cells}{x:AV}{v:Value}{O:Cells}(h:AR w R loc x v O)(hl:x.light=true):one v:=by
 cases h with
 |sc h e=>
  cases x<;>simp[AV.light]at hl<;>simp only[SR]at h
  all_goals first
   |(subst h;exact⟨rfl,rfl⟩)
   |(obtain⟨rfl,_⟩:=h;exact⟨rfl,rfl⟩)
   |(obtain⟨a,rfl⟩:=h;exact⟨rfl,rfl⟩)
   |exact h.elim
 |_=>first|exact⟨rfl,rfl⟩|simp[AV.light]at hl
theorem cR{x:AV}(h:x.plain=true):x.light=true:=by cases x<;>simp_all[AV.plain,AV.light]
theorem qI{x:AV}(h:x.flat=true):x.plain=true:=by cases x<;>simp_all[AV.plain,AV.flat]
theorem dN{x:AV}(h:x.light=true):x.isUndef=false:=by cases x<;>simp_all[AV.isUndef,AV.light]
theorem AR.plain_loc{R:Cells}{loc':bG}{x:AV}{v:Value}{O:Cells}(h:AR w R loc x v O)(hl:x.plain=true):AR w R loc' x v O:=by
 cases h with
 |sc h e=>exact .sc h e
 |ro0 e=>exact .ro0 e
 |ro vs e h1 h2 h3 h4 h5 h6 h7 h8=>exact .ro vs e h1 h2 h3 h4 h5 h6 h7 h8
 |_=>simp[AV.plain]at hl
theorem AR.leaves{R:Cells}{x:AV}{v:Value}(h:AR w R loc x v ae)(hl:x.leaves.all AV.light=true):
  v.cells.toList.length=x.leaves.length∧(∀c∈v.cells.toList,c.oneCell'=true)∧ ∀(k:Nat) y c,x.leaves[k]? =some y→v.cells.toList[k]? =some c→AR w R loc y c ae:=by
 rw[List.all_eq_true]at hl
 have leaf:x.light=true→x.leaves=[x]→v.cells.toList.length=x.leaves.length∧(∀c∈v.cells.toList,c.oneCell'=true)∧ ∀(k:Nat) y c,x.leaves[k]? =some y→v.cells.toList[k]? =some c→AR w R loc y c ae:=by
  intro h1 h2
  obtain⟨h3,h4⟩:=h.leaf_one h1
  rw[h3,h2]
  refine⟨rfl,fun c hc=>by simp at hc;rw[hc];exact h4,fun k y c hy hc=> ?_⟩
  cases k with
  |zero=>simp at hy hc;subst hy;subst hc;exact h
  |succ k=>simp at hy
 cases x with
 |agg cs=>
  cases h with
  |sc h e=>exact h.elim
  | @agg _ _ vs _ os hn hx hu=>
   simp only[AV.leaves]at hl⊢
   have hsub: ∀(k:Nat) y c,cs[k]? =some y→vs[k]? =some c→AR w R loc y c ae:=fun k y c hy hc=>by
    have:=hx k y c hy hc
    refine this.emp_weak (fun g o ho=> ?_) ah
    exact(hu.iff g o).2 ⟨k,(List.getElem?_eq_some_iff.1 hy).1,ho⟩
   refine⟨by simpa[Value.cells]using hn,fun c hc=> ?_,fun k y c hy hc=>hsub k y c hy (by simpa[Value.cells]using hc)⟩
   simp only[Value.cells]at hc
   obtain⟨k,hk⟩:=List.getElem?_of_mem hc
   have hk':k<cs.length:=by rw[←hn];simpa using(List.getElem?_eq_some_iff.1 hk).1
   have hv:vs[k]? =some c:=by simpa using hk
   exact((hsub k cs[k] c (by simp[hk']) hv).leaf_one (hl _ (List.getElem_mem hk'))).2
 |tup vs=>simp[AV.leaves,AV.light]at hl
 |own l z r=>simp[AV.leaves,AV.light]at hl
 |obj c=>simp[AV.leaves,AV.light]at hl
 |undef=>simp[AV.leaves,AV.light]at hl
 |_=>exact leaf (hl _ (by simp[AV.leaves])) rfl
theorem AR.ptr00{R:Cells}{loc:bG}{b:Nat}{O:Cells}(l:Loc)(e:Emp O)(hl:loc b=some l)(hbd:l.bound=true)(hi:0<l.n):AR w R loc (.ptr b 0 0) (.pointer (some ⟨l.g,l.base,none⟩)) O:=by
 have:=AR.ptr (w:=w) (R:=R) (j:=0) (i:=0) l e hl hbd hi
 simpa using this
section
variable{R:Cells}{v:Value}{O:Cells}
theorem AR.inv_int{k:IntKind}{n:Int}(h:AR w R loc (.int k n) v O):v=.int k n:=by cases h with|sc h _=>exact h.1
theorem AR.fits{k:IntKind}{n:Int}(h:AR w R loc (.int k n) v O):dE k n=true:=by cases h with|sc h _=>exact h.2
theorem AR.inv_bool{b:Bool}(h:AR w R loc (.bool b) v O):v=.bool b:=by cases h with|sc h _=>exact h
theorem AR.inv_str{s:List UInt8}(h:AR w R loc (.str s) v O):v=.string ⟨s.toArray⟩:=by cases h with|sc h _=>exact h.1
theorem AR.str_len{s:List UInt8}(h:AR w R loc (.str s) v O):s.length≤cj:=by cases h with|sc h _=>exact h.2
theorem AR.inv_emp(h:AR w R loc .emp v O): ∃a,v=.slice a 0 0:=by cases h with|sc h _=>exact h
theorem AR.inv_ptr{b i j:Nat}(h:AR w R loc (.ptr b i j) v O): ∃l,loc b=some l∧l.bound=true∧i<l.n∧v=.pointer (some ⟨l.g,l.base+i*l.s+j,none⟩):=by
 cases h with
 |sc h _=>exact h.elim
 |ptr l e hl hbd hi=>exact⟨l,hl,hbd,hi,rfl⟩
theorem AR.inv_rp{row:List AV}{j:Nat}(h:AR w R loc (.rp row j) v O): ∃(vs:Nat→Value)(g o:Nat),g<w.heap.size∧(∀x∈row,x.isUndef=false)∧
  (∀k,k<row.length→w.cell? ⟨g,o+k,none⟩=some (vs k)∧R g (o+k))∧(∀(k:Nat) x,row[k]? =some x→AR w R aC x (vs k) ae)∧v=.pointer (some ⟨g,o+j,none⟩):=by
 cases h with
 |sc h _=>exact h.elim
 |rp vs e hg hk hc hx=>exact⟨vs,_,_,hg,hk,hc,hx,rfl⟩
theorem AR.inv_ref{b off len:Nat}(h:AR w R loc (.ref b off len) v O): ∃l,loc b=some l∧off+len≤l.n∧ ∃ad cap,v=.slice ad len cap∧len≤cap∧
  ((len=0∧cap=0)∨(l.bound=true∧ad=some ⟨l.g,l.base+off*l.s,none⟩∧BF w l.g (l.base+(off+cap)*l.s))):=by
 cases h with
 |sc h _=>exact h.elim
 |ref0 l e hl hn=>exact⟨l,hl,by omega,_,0,rfl,Nat.le_refl _,.inl ⟨rfl,rfl⟩⟩
 |ref l e hl hbd hn hcap hb hm=>exact⟨l,hl,hn,_,_,rfl,hcap,.inr ⟨hbd,rfl,hb⟩⟩
theorem AR.ref_len{b off len:Nat}(h:AR w R loc (.ref b off len) v O):len≤cj:=by
 cases h with
 |sc h _=>exact h.elim
 |ref0 l e hl hn=>exact Nat.zero_le _
 |ref l e hl hbd hn hcap hb hm=>exact hm
theorem AR.ro_len{z:List AV}{rows:List (List AV)}(h:AR w R loc (.ro z rows) v O):rows.length≤cj:=by
 cases h with
 |sc h _=>exact h.elim
 |ro0 e=>exact Nat.zero_le _
 |ro vs e hl hcap hg hw hc hx hp hm=>exact hm
theorem AR.inv_ro{z:List AV}{rows:List (List AV)}(h:AR w R loc (.ro z rows) v O): ∃ad cap,v=.slice ad rows.length cap∧rows.length≤cap∧
  (rows=[]∨ ∃(g o:Nat)(vs:Nat→Nat→Value),0<rows.length∧ad=some ⟨g,o,none⟩∧g<w.heap.size∧Wide z rows∧
   (∀i j,i<rows.length→j<z.length→w.cell? ⟨g,o+i*z.length+j,none⟩=some (vs i j)∧R g (o+i*z.length+j))∧
   (∀i j row x,rows[i]? =some row→row[j]? =some x→AR w R aC x (vs i j) ae)∧(∀row∈rows,∀x∈row,x.plain=true)):=by
 cases h with
 |sc h _=>exact h.elim
 |ro0 e=>exact⟨_,_,rfl,Nat.zero_le _,.inl rfl⟩
 | @ro _ _ _ g o cap _ vs e hl hcap hg hw hc hx hp hm=>exact⟨_,cap,rfl,hcap,.inr ⟨g,o,vs,hl,rfl,hg,hw,hc,hx,hp⟩⟩
theorem AR.inv_agg{cs:List AV}(h:AR w R loc (.agg cs) v ae): ∃vs:Array Value,v=.agg vs∧vs.size=cs.length∧ ∀(k:Nat) x c,cs[k]? =some x→vs[k]? =some c→AR w R loc x c ae:=by
 cases h with
 |sc h _=>exact h.elim
 |agg os hn hx hu=>exact⟨_,rfl,hn,fun k x c h1 h2=>(hx k x c h1 h2).emp_weak (fun g o ho=>(hu.iff g o).2 ⟨k,(List.getElem?_eq_some_iff.1 h1).1,ho⟩) ah⟩
end
theorem RelC.newVar(h:RelC E st a w X loc ob){d:Nat}(hd:st.m d=.abs){cs:List AV}{cells:List Value}(e:TypeId)(hlen:cells.length=cs.length)
  (hx: ∀(k:Nat) y c,cs[k]? =some y→cells[k]? =some c→AR w (RS E w (al ob X)) loc y c ae):
  let w':=World.push w (.cells cells.toArray e)
  let loc':=bi loc d (some ⟨w.heap.size,0,cs.length,1,true⟩)
  ∃ob',RelC E (st.mws [(d,.live ⟨false,0,cs,[cs]⟩)]) a w' X loc' ob'∧(∀g o,RS E w (al ob X) g o→RS E w' (al ob' X) g o)∧
   AR w' (RS E w' (al ob' X)) loc' (.ptr d 0 0) (.pointer (some ⟨w.heap.size,0,none⟩)) ae:=by
 intro w' loc'
 have had:=h.ab d hd
 let Od:Cells:=fun g o=> ∃(k:Nat)(x:AV),cs[k]? =some x∧x.isUndef=false∧g=w.heap.size∧o=k
 let ob':Nat→Cells:=bi ob d Od
 have hF:Frame w w' ae:=Frame.push w _ ae
 have hloc: ∀b l,loc b=some l→loc' b=some l:=fun b l hl=>by
  have hne:b≠d:=fun e=>by rw[e,had.1]at hl;cases hl
  simp[loc',bi,hne,hl]
 have hD: ∀g o,al ob' X g o→(al ob X g o∨w.heap.size≤g)∧g<w'.heap.size:=by
  intro g o k
  have hs:w'.heap.size=w.heap.size+1:=by simp[w',World.push]
  rcases k with⟨b,k⟩|k
  ·by_cases hb:b=d
   ·subst hb
    simp only[ob',bi,if_true]at k
    obtain⟨k,x,_,_,rfl,_⟩:=k
    exact⟨.inr (Nat.le_refl _),by omega⟩
   ·simp only[ob',bi,hb,if_false]at k
    have:=h.lt g o (.inl ⟨b,k⟩)
    exact⟨.inl (.inl ⟨b,k⟩),by omega⟩
  ·have:=h.lt g o (.inr k)
   exact⟨.inl (.inr k),by omega⟩
 have hRS: ∀g o,RS E w (al ob X) g o→RS E w' (al ob' X) g o:=RS.sub hF.size fun g o k=>(hD g o k).1
 have hcell: ∀(k:Nat) c,cells[k]? =some c→w'.cell? ⟨w.heap.size,0+k,none⟩=some c:=by
  intro k c hc
  simp only[World.cell?,w',nk]
  simp[hc]
 have hbf:BF w' w.heap.size (0+cs.length):=⟨cells.toArray,e,(0,0),nk,by simp[hlen],fun i hi h=>by simp at h,Nat.le_refl _⟩
 have hnd: ∀o,¬al ob X w.heap.size o:=fun o k=>by have:=h.lt _ _ k;omega
 refine⟨ob',h.go ae rfl rfl hF hD (fun _ _ k=>k.elim) hloc (fun b=> ?_) (fun b b' hne=> ?_) (fun b=> ?_),hRS,AR.ptr00 ⟨w.heap.size,0,cs.length,1,true⟩ ah (by simp[loc',bi]) rfl (Nat.lt_succ_self 0)⟩
 ·by_cases hb:b=d
  ·subst hb
   right
   simp only[St.mws,bi,if_true,pf,ob']
   refine .var ⟨w.heap.size,0,cs.length,1,true⟩ (fun k=>cells.getD k undef) (fun _=>ae) (by simp[loc',bi]) rfl rfl rfl rfl hbf (fun k x hx _=> ?_) (fun k x hk _=> ?_) (fun g o=> ?_) (fun _ _ _ _ _ _ _ _ k=>k.elim) (fun _ _ _ _ _ _ _ _ _ _ _ k=>k.elim)
   ·have hk:k<cells.length:=by rw[hlen];exact(List.getElem?_eq_some_iff.1 hx).1
    rw[hcell k cells[k] (by simp[hk])]
    simp[hk]
   ·have hk':k<cells.length:=by rw[hlen];exact(List.getElem?_eq_some_iff.1 hk).1
    have:=hx k x cells[k] hk (by simp[hk'])
    have e:cells.getD k undef=cells[k]:=by simp[hk']
    rw[e]
    exact this.keep (hF.keeps (S:=fun g _=>g<w.heap.size) fun g o k=>⟨k,fun h=>h.elim⟩) (fun g o k=>⟨k.2.1,hRS g o k⟩) (fun _ _ k=>k.elim) hloc
   ·constructor
    ·rintro ⟨k,x,h1,h2,rfl,rfl⟩;exact⟨o,x,h1,h2,.inl ⟨rfl,by simp⟩⟩
    ·rintro ⟨k,x,h1,h2,⟨rfl,ho⟩|k⟩
     ·exact⟨k,x,h1,h2,rfl,by simpa using ho⟩
     ·exact k.elim
  ·left
   refine⟨by simp[St.mws,bi,hb],by simp[ob',bi,hb],by simp[loc',bi,hb],fun _ _ k=>k.elim⟩
 ·intro g o k1 k2
  by_cases hb:b=d
  ·subst hb
   have hb': ¬b'=b:=fun e=>hne e.symm
   simp only[ob',bi,if_true,hb',if_false]at k1 k2
   obtain⟨k,x,_,_,rfl,_⟩:=k1
   exact hnd o (.inl ⟨b',k2⟩)
  ·simp only[ob',bi,hb,if_false]at k1 k2
   by_cases hb':b'=d
   ·subst hb'
    simp only[if_true]at k2
    obtain⟨k,x,_,_,rfl,_⟩:=k2
    exact hnd o (.inl ⟨b,k1⟩)
   ·simp only[hb',if_false]at k2
    exact h.db b b' hne g o k1 k2
 ·intro g o k1 k2
  by_cases hb:b=d
  ·subst hb
   simp only[ob',bi,if_true]at k1
   obtain⟨k,x,_,_,rfl,_⟩:=k1
   exact hnd o (.inr k2)
  ·simp only[ob',bi,hb,if_false]at k1
   exact h.dx b g o k1 k2
theorem RelC.world(h:RelC E st a w X loc ob){w':World}(hF:Frame w w' ae):RelC E st a w' X loc ob∧ ∀g o,RS E w (al ob X) g o→RS E w' (al ob X) g o:=by
 have hD: ∀g o,al ob X g o→(al ob X g o∨w.heap.size≤g)∧g<w'.heap.size:=fun g o k=>⟨.inl k,Nat.lt_of_lt_of_le (h.lt g o k) hF.size⟩
 exact⟨h.go ae rfl rfl hF hD (fun _ _ k=>k.elim) (fun _ _ k=>k) (fun b=>.inl ⟨rfl,rfl,rfl,fun _ _ k=>k.elim⟩) h.db h.dx,RS.sub hF.size fun g o k=>(hD g o k).1⟩
theorem AR.over{E:Env}{w w':World}{ow ow' Wt:Cells}{loc loc':bG}{x:AV}{v:Value}(h:AR w (RS E w ow) loc x v ae)(hF:Frame w w' Wt)(hW: ∀g o,Wt g o→ow g o)
  (hD: ∀g o,ow' g o→ow g o∨w.heap.size≤g)(hloc: ∀b l,loc b=some l→loc' b=some l):AR w' (RS E w' ow') loc' x v ae:=
 h.keep (hF.keeps (S:=fun g o=>g<w.heap.size∧ ¬Wt g o) fun g o k=>k) (fun g o k=>⟨⟨k.2.1,fun hw=>k.2.2 (hW g o hw)⟩,RS.sub hF.size hD g o k⟩) (fun _ _ k=>k.elim) hloc
theorem RelC.newArr(h:RelC E st a w X loc ob){d:Nat}(hd:st.m d=.abs){lvl:Nat}{z:List AV}{rows:List (List AV)}(cells:Array Value)(e:TypeId)(fz:Nat × Nat)
  (hfz: ∀i,i<cells.size→ ¬(fz.1≤i∧i<fz.2))(hw:Wide z rows)(hsz:rows.length*z.length≤cells.size)
  (hx: ∀i j row x,rows[i]? =some row→row[j]? =some x→AR w (RS E w (al ob X)) aC x (cells.getD (i*z.length+j) undef) ae)
  (h0:lvl=0→ ∀row∈rows,∀x∈row,x.flat=true)(h1:lvl≤1→ ∀row∈rows,∀x∈row,x.plain=true)(hmx:rows.length≤cj)(hle:fz.1≤fz.2:=by first|exact Nat.le_refl _|exact Nat.le_succ _):
  let w':=World.push w (.cells cells e fz)
  let loc':=bi loc d (some ⟨w.heap.size,0,z.length,rows.length,true⟩)
  ∃ob',RelC E (st.mws [(d,.live ⟨true,lvl,z,rows⟩)]) a w' X loc' ob'∧(∀g o,RS E w (al ob X) g o→RS E w' (al ob' X) g o)∧
   ∀n cap,n=rows.length→n≤cap→cap*z.length≤cells.size→AR w' (RS E w' (al ob' X)) loc' (.ref d 0 n) (.slice (some ⟨w.heap.size,0,none⟩) n cap) ae:=by
 intro w' loc'
 have had:=h.ab d hd
 let Od:Cells:=fun g o=>g=w.heap.size
 let ob':Nat→Cells:=bi ob d Od
 have hF:Frame w w' ae:=Frame.push w _ ae
 have hloc: ∀b l,loc b=some l→loc' b=some l:=fun b l hl=>by
  have hne:b≠d:=fun e=>by rw[e,had.1]at hl;cases hl
  simp[loc',bi,hne,hl]
 have hD: ∀g o,al ob' X g o→(al ob X g o∨w.heap.size≤g)∧g<w'.heap.size:=by
  intro g o k
  have hs:w'.heap.size=w.heap.size+1:=by simp[w',World.push]
  rcases k with⟨b,k⟩|k
  ·by_cases hb:b=d
   ·subst hb
    simp only[ob',bi,if_true,Od]at k
    exact⟨.inr (by omega),by omega⟩
   ·simp only[ob',bi,hb,if_false]at k
    have:=h.lt g o (.inl ⟨b,k⟩)
    exact⟨.inl (.inl ⟨b,k⟩),by omega⟩
  ·have:=h.lt g o (.inr k)
   exact⟨.inl (.inr k),by omega⟩
 have hRS: ∀g o,RS E w (al ob X) g o→RS E w' (al ob' X) g o:=RS.sub hF.size fun g o k=>(hD g o k).1
 have hcell: ∀k,k<cells.size→w'.cell? ⟨w.heap.size,0+k,none⟩=some (cells.getD k undef):=by
  intro k hc
  simp only[World.cell?,w',nk]
  simp[hc]
 have hbf: ∀n,n≤cells.size→BF w' w.heap.size (0+n):=fun n hn=>⟨cells,e,fz,nk,by simpa using hn,hfz,hle⟩
 have hnd: ∀o,¬al ob X w.heap.size o:=fun o k=>by have:=h.lt _ _ k;omega
 refine⟨ob',h.go ae rfl rfl hF hD (fun _ _ k=>k.elim) hloc (fun b=> ?_) (fun b b' hne=> ?_) (fun b=> ?_),hRS,fun n cap hn hcap hc=> ?_⟩
 ·by_cases hb:b=d
  ·subst hb
   right
   simp only[St.mws,bi,if_true,pf,ob']
   refine .arr ⟨w.heap.size,0,z.length,rows.length,true⟩ (fun i j=>cells.getD (i*z.length+j) undef) (fun _ _=>ae) (by simp[loc',bi]) rfl rfl rfl (hbf _ hsz) hw (fun i j hi hj=> ?_) (fun i j row x h2 h3=> ?_) (fun g o=> ?_) (fun _ _ _ _ _ k=>k.elim) (fun _ _ _ _ _ _ _ _ _ _ _ k=>k.elim) h0 h1 hmx
   ·have:i*z.length+j<cells.size:=by
     have:(i+1)*z.length≤rows.length*z.length:=Nat.mul_le_mul_right _ hi
     rw[Nat.add_mul,Nat.one_mul]at this
     omega
    have hc:=hcell _ this
    rw[←Nat.add_assoc]at hc
    exact hc
   ·exact(hx i j row x h2 h3).over hF (fun _ _ k=>k.elim) (fun g o k=>(hD g o k).1) (fun _ _ k=>k)
   ·constructor
    ·intro k;exact .inl k
    ·rintro (k|⟨_,_,_,_,k⟩)
     ·exact k
     ·exact k.elim
  ·left
   refine⟨by simp[St.mws,bi,hb],by simp[ob',bi,hb],by simp[loc',bi,hb],fun _ _ k=>k.elim⟩
 ·intro g o k1 k2
  by_cases hb:b=d
  ·subst hb
   have hb': ¬b'=b:=fun e=>hne e.symm
   simp only[ob',bi,if_true,hb',if_false,Od]at k1 k2
   subst k1
   exact hnd o (.inl ⟨b',k2⟩)
  ·simp only[ob',bi,hb,if_false]at k1 k2
   by_cases hb':b'=d
   ·subst hb'
    simp only[if_true,Od]at k2
    subst k2
    exact hnd o (.inl ⟨b,k1⟩)
   ·simp only[hb',if_false]at k2
    exact h.db b b' hne g o k1 k2
 ·intro g o k1 k2
  by_cases hb:b=d
  ·subst hb
   simp only[ob',bi,if_true,Od]at k1
   subst k1
   exact hnd o (.inr k2)
  ·simp only[ob',bi,hb,if_false]at k1
   exact h.dx b g o k1 k2
 ·subst hn
  have:=AR.ref (w:=w') (R:=RS E w' (al ob' X)) (loc:=loc') (b:=d) (off:=0) (len:=rows.length) (cap:=cap) (O:=ae) ⟨w.heap.size,0,z.length,rows.length,true⟩ ah (by simp[loc',bi]) rfl (by simp) hcap
   (by have:=hbf _ hc;simpa using this) hmx
  simpa using this
end
end Go.Abs

/- The abstract layer, 5: each operation does what `evOp` says: those that only compute, read or lay. -/
noncomputable section
namespace Go.Abs
open Go
def Did(P:Program)(E:Env)(o:Oper)(st:St)(a:Act)(w:World)(X:Cells)(r:di):Prop:=
 ∃nx v w' loc' ob',(execOp a.eval o).run P w=.ok nx w'∧(nx=.value v∨(nx=.skip∧v=undef))∧RelC E (st.mws r.2) a w' X loc' ob'∧AR w' (RS E w' (al ob' X)) loc' r.1 v ae
section
variable{P:Program}{T:TT}{E:Env}{o:Oper}{st:St}{a:Act}{w:World}{X:Cells}{loc:bG}{ob:Nat→Cells}{r:di}
theorem eF{s:Sem Value}{v:Value}{w w':World}(h:s.run P w=.ok v w'):(do pure (Next.value (←s)):Sem Next).run P w=.ok (.value v) w':=by
 simp only[Sem.run_bind,h,Result.andThen_ok]
 rfl
theorem Did.pure(h:RelC E st a w X loc ob){v:Value}{x:AV}(he:(execOp a.eval o).run P w=.ok (.value v) w)(hx:AR w (RS E w (al ob X)) loc x v ae):Did P E o st a w X (x,[]):=
 ⟨_,v,w,loc,ob,he,.inl rfl,h,hx⟩
theorem vq(h:RelC E st a w X loc ob){x:Operand}(ho:o.op=.move x∨o.op=.assign x)(hr:((cK x).bind il).run st=some r):Did P E o st a w X r:=by
 obtain⟨v,h1,h2⟩:=bind_some hr
 obtain rfl:=bA h2
 refine Did.pure h (v:=a.eval x) ?_ (bp h h1)
 obtain⟨d,op,_,_,_,_⟩:=o
 rcases ho with rfl|rfl<;>rfl
theorem Cf(h:RelC E st a w X loc ob){c x y:Operand}(ho:o.op=.pick c x y)(hr:(om c x y).run st=some r):Did P E o st a w X r:=by
 obtain⟨cv,h1,h2⟩:=bind_some hr
 have hc:=bp h h1
 cases cv<;>try exact(ay h2).elim
 rename_i t
 obtain⟨xv,h3,h2⟩:=bind_some h2
 obtain⟨yv,h4,h2⟩:=bind_some h2
 obtain rfl:=bA h2
 have hx:=bp h h3
 have hy:=bp h h4
 have hb:a.eval c=.bool t:=hc.inv_bool
 refine Did.pure h (v:=if t=true then a.eval x else a.eval y) ?_ ?_
 ·obtain⟨d,op,_,_,_,_⟩:=o
  subst ho
  simp only[execOp,hb,asBool,Sem.run_bind]
  cases t<;>rfl
 ·cases t<;>simpa
theorem gH{d:Nat}{k:RP di}{st:St}{r:di}(h:(vy d k).run st=some r):st.m d=.abs∧k.run st=some r:=by
 unfold vy at h
 have:=cM h
 cases hm:st.m d with
 |abs=>rw[hm]at this;exact⟨rfl,this⟩
 |_=>rw[hm]at this;exact(ay this).elim
theorem fQ{k:Nat→RP di}(h:(jT o k).run st=some r): ∃d,o.dst=some d∧(k d).run st=some r:=by
 unfold jT at h
 split at h
 ·exact⟨_, ‹_›,h⟩
 ·exact(ay h).elim
theorem rz(t:TypeId)(v:Value)(w:World):(newVar t v).run P w=.ok ⟨w.heap.size,0,none⟩ (World.push w (.cells v.cells t)):=rfl
theorem jx(t:TypeId)(c:Array Value)(w:World):(newRow t c).run P w=.ok ⟨w.heap.size,0,none⟩ (World.push w (.cells c t)):=rfl
theorem Di(h:RelC E st a w X loc ob){t:TypeId}{x:Operand}(ho:o.op=.box t x){d:Nat}(hr:(ED x d).run st=some r):Did P E o st a w X r:=by
 obtain⟨hd,hr⟩:=gH hr
 obtain⟨v,h1,hr⟩:=bind_some hr
 obtain⟨hl,hr⟩:=bb hr
 obtain rfl:=au hr
 have hv:=bp h h1
 obtain⟨hlen,hone,hx⟩:=hv.leaves hl
 obtain⟨ob',h2,h3,h4⟩:=h.newVar hd (cs:=v.leaves) (cells:=(a.eval x).cells.toList) t hlen hx
 refine⟨_,_,_,_,ob',?_,.inl rfl,h2,h4⟩
 obtain⟨_,op,_,_,_,_⟩:=o
 subst ho
 simp only[execOp,Instr.box]
 refine eF ?_
 simp only[Sem.run_bind,rz,Result.andThen_ok]
 simp only[Array.toArray_toList]
 rfl
theorem jl{R:Cells}{loc:bG}{z:Value}{l:List AV}(hl:l=z.cells.toList.map ofVal): ∀(k:Nat) y c,l[k]? =some y→z.cells.toList[k]? =some c→AR w R loc y c ae:=by
 intro k y c hy hc
 subst hl
 simp only[List.getElem?_map,hc,Option.map_some]at hy
 injection hy with hy
 subst hy
 exact AR.ofVal c
theorem zP(hT:T.ok P)(h:RelC E st a w X loc ob){t:TypeId}(ho:o.op=.alloc t){d:Nat}(hr:(xD T t d).run st=some r):Did P E o st a w X r:=by
 obtain⟨hd,hr⟩:=gH hr
 obtain⟨i,hi,hr⟩:=bind_some hr
 have hti:=hT.at (cL hi)
 obtain⟨z,hz,hzs,hzl⟩:=hti.zeroV w
 have he:(execOp a.eval o).run P w=.ok (.value (.pointer (some ⟨w.heap.size,0,none⟩))) (World.push w (.cells z.cells t)):=by
  obtain⟨_,op,_,_,_,_⟩:=o
  subst ho
  simp only[execOp,Instr.alloc]
  refine eF ?_
  simp only[Sem.run_bind,hz,rz,Result.andThen_ok]
  rfl
 split at hr
 ·rename_i n e hu
  obtain⟨j,hj,hr⟩:=bind_some hr
  have htj:=hT.at (cL hj)
  obtain⟨hq,hr⟩:=bb hr
  obtain rfl:=au hr
  simp only[Bool.and_eq_true,beq_iff_eq,decide_eq_true_eq,List.all_eq_true]at hq
  obtain⟨⟨⟨⟨hs,hj0⟩,hn0⟩,hnm⟩,hfl⟩:=hq
  have hzl':i.zero.length=n*j.size:=by rw[hti.zlen,hs]
  have hjl:=htj.zlen
  let rows:=(List.range n).map fun k=>(i.zero.drop (k*j.size)).take j.size
  have hrow: ∀k,k<n→rows[k]? =some ((i.zero.drop (k*j.size)).take j.size):=fun k hk=>by simp[rows,hk]
  have hrl:rows.length=n:=by simp[rows]
  have hsub: ∀row∈rows,∀x∈row,x∈i.zero:=by
   intro row hr x hx
   simp only[rows,List.mem_map]at hr
   obtain⟨k,_,rfl⟩:=hr
   exact List.mem_of_mem_drop (List.mem_of_mem_take hx)
  have hW:Wide j.zero rows:=by
   refine⟨fun row hr=> ?_,fun row hr x hx=>dN (cR (qI (hfl x (hsub row hr x hx))))⟩
   simp only[rows,List.mem_map,List.mem_range]at hr
   obtain⟨k,hk,rfl⟩:=hr
   rw[List.length_take,List.length_drop,hzl',hjl]
   have:(k+1)*j.size≤n*j.size:=Nat.mul_le_mul_right _ hk
   rw[Nat.add_mul,Nat.one_mul]at this
   omega
  have hzc:z.cells.size=n*j.size:=by rw[hzs,hs]
  obtain⟨ob',h2,h3,h4⟩:=h.newArr hd (lvl:=0) (z:=j.zero) (rows:=rows) z.cells t (0,0) (fun i _ h=>by simp at h) hW (by rw[hrl,hjl,hzc];exact Nat.le_refl _)
   (fun i' k row x h1 h2=>by
    have hi':i'<n:=by rw[←hrl];exact(List.getElem?_eq_some_iff.1 h1).1
    rw[hrow i' hi']at h1
    injection h1 with h1
    subst h1
    rw[List.getElem?_take]at h2
    split at h2
    ·rename_i hk
     rw[List.getElem?_drop]at h2
     rw[hjl]
     have hlt:i'*j.size+k<z.cells.size:=by
      have:=(List.getElem?_eq_some_iff.1 h2).1
      rw[hzl',←hzc]at this
      exact this
     have:z.cells.toList[i'*j.size+k]? =some (z.cells.getD (i'*j.size+k) undef):=by simp[hlt]
     exact jl hzl _ _ _ h2 this
    ·cases h2)
   (fun _ row hr x hx=>hfl x (hsub row hr x hx)) (fun _ row hr x hx=>qI (hfl x (hsub row hr x hx))) (by rw[hrl];exact hnm)
  refine⟨_,_,_,_,ob',he,.inl rfl,h2,?_⟩
  exact AR.ptr00 ⟨w.heap.size,0,j.zero.length,rows.length,true⟩ ah (by simp[bi]) rfl (by simp[hrl,hn0])
 ·obtain rfl:=au hr
  obtain⟨ob',h2,h3,h4⟩:=h.newVar hd (cs:=i.zero) (cells:=z.cells.toList) t (by rw[hzl];simp) (jl hzl)
  exact⟨_,_,_,_,ob',he,.inl rfl,h2,h4⟩
theorem Dd(h:RelC E st a w X loc ob){x:Operand}(ho:o.op=.nilCheck x)(hr:(qA x).run st=some r):Did P E o st a w X r:=by
 obtain⟨v,h1,hr⟩:=bind_some hr
 have hv:=bp h h1
 have key:(∃ad,a.eval x=.pointer (some ad))→(execOp a.eval o).run P w=.ok (.value (a.eval x)) w:=by
  rintro ⟨ad,hp⟩
  obtain⟨_,op,_,_,_,_⟩:=o
  subst ho
  simp only[execOp,hp]
  rfl
 cases v<;>try exact(ay hr).elim
 ·obtain rfl:=bA hr
  exact Did.pure h (key (by obtain⟨l,_,_,_,e⟩:=hv.inv_ptr;exact⟨_,e⟩)) hv
 ·obtain rfl:=bA hr
  exact Did.pure h (key (by obtain⟨_,_,_,_,_,_,_,e⟩:=hv.inv_rp;exact⟨_,e⟩)) hv
theorem vO(h:RelC E st a w X loc ob){x:Operand}{i:Nat}(ho:o.op=.extract x i)(hr:(sG x i).run st=some r):Did P E o st a w X r:=by
 obtain⟨v,h1,hr⟩:=bind_some hr
 have hv:=bp h h1
 cases v<;>try exact(ay hr).elim
 rename_i vs
 obtain⟨y,h2,hr⟩:=bind_some hr
 have hy:=jR h2
 obtain rfl:=bA hr
 generalize hev:a.eval x=ev at hv
 cases hv with
 |sc h _=>exact h.elim
 | @tup _ _ cvs _ os hn hx hu=>
  have hi:i<vs.length:=(List.getElem?_eq_some_iff.1 hy).1
  have hi':i<cvs.size:=by omega
  have hc:cvs[i]? =some cvs[i]:=by simp[hi']
  have:=hx i y cvs[i] hy hc
  refine Did.pure h (v:=cvs[i]) ?_ (this.emp_weak (fun g o ho=>(hu.iff g o).2 ⟨i,hi,ho⟩) ah)
  obtain⟨_,op,_,_,_,_⟩:=o
  subst ho
  simp only[execOp]
  refine eF ?_
  simp only[hev,Instr.extract,hc]
  rfl
theorem sV(h:RelC E st a w X loc ob){fn:Fn}{first caps:Array Operand}(ho:o.op=.makeFunc fn first caps)(hr:(mH fn first.toList caps.toList).run st=some r):Did P E o st a w X r:=by
 unfold mH at hr
 split at hr
 ·rename_i f hfirst
  obtain⟨vs,h1,hr⟩:=bind_some hr
  obtain rfl:=bA hr
  obtain⟨hl,hx⟩:=dR h h1
  refine Did.pure h (v:=.func (.func f) #[] (caps.map a.eval)) ?_ ?_
  ·obtain⟨_,op,_,_,_,_⟩:=o
   subst ho
   have hf:first=#[]:=by simpa using hfirst
   subst hf
   simp only[execOp,Instr.makeFunc,Array.map_empty]
   rfl
  ·refine .fn (fun _=>ae) (by simp[hl]) (fun k x v h2 h3=> ?_) ⟨fun g o=>⟨fun k=>k.elim,fun⟨_,_,k⟩=>k.elim⟩,fun _ _ _ _ _ _ _ k=>k.elim⟩
   simp only[Array.getElem?_map]at h3
   cases hc:caps[k]? with
   |none=>rw[hc]at h3;cases h3
   |some op=>
    rw[hc]at h3
    injection h3 with h3
    subst h3
    exact hx k x op h2 (by simpa using hc)
 ·exact(ay hr).elim
theorem F5(h:RelC E st a w X loc ob){op:UnOp}{t:TypeId}{x:Operand}(ho:o.op=.unOp op t x)(hr:((cK x).bind fun a=>(Lg op a).bind il).run st=some r):Did P E o st a w X r:=by
 obtain⟨v,h1,hr⟩:=bind_some hr
 have hv:=bp h h1
 obtain⟨y,h2,hr⟩:=bind_some hr
 obtain rfl:=bA hr
 have key: ∀u,(Op.unary op (a.eval x)).run P w=.ok u w→(execOp a.eval o).run P w=.ok (.value u) w:=by
  intro u hu
  obtain⟨_,op,_,_,_,_⟩:=o
  subst ho
  exact eF hu
 cases v<;>try exact(ay h2).elim
 ·rename_i k n
  have hev:a.eval x=.int k n:=hv.inv_int
  cases op<;>try exact(ay h2).elim
  obtain rfl:=au h2
  exact Did.pure h (key _ (by rw[hev];rfl)) (.sc ⟨rfl,jk _ _⟩ ah)
 ·rename_i b
  have hev:a.eval x=.bool b:=hv.inv_bool
  cases op<;>try exact(ay h2).elim
  obtain rfl:=au h2
  exact Did.pure h (key _ (by rw[hev];rfl)) (.sc rfl ah)
end
end Go.Abs

/- The abstract layer, 6: reads, addresses, slices, lengths. -/
noncomputable section
namespace Go.Abs
open Go
section
variable{P:Program}{T:TT}{E:Env}{o:Oper}{st:St}{a:Act}{w:World}{X:Cells}{loc:bG}{ob:Nat→Cells}{r:di}
theorem ee (g j n:Nat):(⟨g,j,none⟩:Addr).add n=⟨g,j+n,none⟩:=by unfold Addr.add;split<;>simp_all
theorem iI(k:IntKind)(n:Int)(w:World):(asIntOf (.int k n)).run P w=.ok (k,n) w:=rfl
theorem hU{v:AV}{n:Nat}(h:(qZ v).run st=some n): ∃k m,v=.int k m∧0≤m∧n=m.toNat:=by
 unfold qZ at h
 split at h
 ·obtain⟨h1,h2⟩:=bb h
  exact⟨_,_,rfl,of_decide_eq_true h1,(au h2).symm⟩
 ·exact(ay h).elim
theorem wt{fs:List (Nat × TypeId)}{f:Nat}{p:Nat × Nat}(h:iY T fs f=some p): ∃t j,fs[f]? =some (p.1,t)∧T.get t=some j∧j.size=p.2:=by
 unfold iY at h
 split at h
 ·rename_i q hq
  split at h
  ·rename_i j hj
   injection h with h
   subst h
   exact⟨q.2,j,hq,hj,rfl⟩
  ·cases h
 ·cases h
theorem rO(hT:T.ok P)(h:RelC E st a w X loc ob){t:TypeId}{x:Operand}{f:Nat}(ho:o.op=.fieldAddr t x f)(hr:(pp T t x f).run st=some r):Did P E o st a w X r:=by
 obtain⟨i,hi,hr⟩:=bind_some hr
 have hti:=hT.at (cL hi)
 obtain⟨d,hd,hut⟩:=hti.und
 split at hr
 ·rename_i fs hfs
  rw[hut]at hfs
  obtain⟨fa,rfl,rfl⟩:=jN hfs
  split at hr
  ·rename_i p hp
   obtain⟨ft,j,h1,h2,h3⟩:=wt hp
   obtain⟨hq,hr⟩:=bb hr
   have hpos:0<p.2:=of_decide_eq_true hq
   obtain⟨v,hv,hr⟩:=bind_some hr
   have hv:=bp h hv
   simp only[List.getElem?_map,Option.map_eq_some_iff]at h1
   obtain⟨fl,hfl,hfe⟩:=h1
   have hfa:fa[f]? =some fl:=by simpa using hfl
   have hoff:fl.offset=p.1:=congrArg Prod.fst hfe
   have hty:fl.type=ft:=congrArg Prod.snd hfe
   have hsz:(sizeOf fl.type).run P w=.ok p.2 w:=by rw[hty,←h3];exact(hT.at h2).size w
   have key: ∀g off,a.eval x=.pointer (some ⟨g,off,none⟩)→(execOp a.eval o).run P w=.ok (.value (.pointer (some ⟨g,off+p.1,none⟩))) w:=by
    intro g off he
    obtain⟨_,op,_,_,_,_⟩:=o
    subst ho
    simp only[execOp]
    refine eF ?_
    have hne: ¬p.2=0:=by omega
    simp only[Instr.fieldAt,Sem.run_bind,run_underlying hd,Result.andThen_ok,hfa,he,Instr.sureAddr,fieldPlace]
    simp only[pure,Sem.run,Sem.run_bind,Result.andThen_ok,hsz,hne,if_false,ee,hoff]
   cases v<;>try exact(ay hr).elim
   ·obtain rfl:=bA hr
    obtain⟨l,h4,h5,h6,h7⟩:=hv.inv_ptr
    exact Did.pure h (key _ _ h7) (by rw[Nat.add_assoc];exact .ptr l ah h4 h5 h6)
   ·obtain rfl:=bA hr
    obtain⟨vs,g,off,hg,hk,hc,hx,h7⟩:=hv.inv_rp
    exact Did.pure h (key _ _ h7) (by rw[Nat.add_assoc];exact .rp vs ah hg hk hc hx)
  ·exact(ay hr).elim
 ·exact(ay hr).elim
theorem BR.row{R:Cells}{loc:bG}{b:Nat}{blk:Blk}{O:Cells}(h:BR w R loc b blk O){l:Loc}(hl:loc b=some l)(hbd:l.bound=true){i:Nat}(hi:i<l.n):
  ∃row,dn blk.rows i blk.z=row∧blk.rows[i]? =some row∧row.length=blk.z.length∧l.s=blk.z.length∧
   ∀(j:Nat) x,row[j]? =some x→x.light=true→ ∃c,w.cell? ⟨l.g,l.base+i*l.s+j,none⟩=some c∧ ∃O',AR w R loc x c O'∧ ∀g o,O' g o→O g o:=by
 cases h with
 |arr0 l' hl' hn hs hb e=>
  rw[hl]at hl'
  injection hl' with hl'
  subst hl'
  omega
 | @arr lvl z rows O l' vs os hl' hbd hs hn hb hw hc hx hO hd hdd h0 h1=>
  rw[hl]at hl'
  injection hl' with hl'
  subst hl'
  have hir:i<rows.length:=by omega
  refine⟨rows[i],by simp[dn,hir],by simp[hir],hw.len _ (List.getElem_mem hir),hs,fun j x hj hlt=> ?_⟩
  have hjz:j<z.length:=by
   have:=(List.getElem?_eq_some_iff.1 hj).1
   rw[hw.len _ (List.getElem_mem hir)]at this
   exact this
  refine⟨vs i j,by rw[hs];exact hc i j hir hjz,os i j,(hx i j rows[i] x (by simp[hir]) hj).weak (fun _ _ k=>k) (fun _ _ k=>by cases k),fun g o k=>(hO g o).2 (.inr ⟨i,j,hir,hjz,k⟩)⟩
 | @var lvl z row O l' vs os hl' hbd hs hn hz hb hc hx hO hd hdd=>
  rw[hl]at hl'
  injection hl' with hl'
  subst hl'
  have hi0:i=0:=by omega
  subst hi0
  refine⟨row,by simp[dn],by simp,hz,hs,fun j x hj hlt=> ?_⟩
  have hk:=dN hlt
  exact⟨vs j,by simpa using hc j x hj hk,os j,hx j x hj hk,fun g o k=>(hO g o).2 ⟨j,x,hj,hk,.inr k⟩⟩
theorem AR.light_emp{R:Cells}{loc:bG}{x:AV}{v:Value}{O:Cells}(h:AR w R loc x v O)(hl:x.light=true):Emp O:=by
 cases h with
 | @fn _ f caps vs O os hn hx hu=>
  simp only[AV.light,List.all_eq_true]at hl
  intro g o ho
  obtain⟨j,hj,ho⟩:=(hu.iff g o).1 ho
  have hp:=hl caps[j] (List.getElem_mem hj)
  have hv:j<vs.size:=by omega
  have:=hx j caps[j] vs[j] (by simp[hj]) (by simp[hv])
  generalize caps[j]=c at this hp
  generalize vs[j]=u at this
  cases c<;>simp[AV.isPtr]at hp
  ·cases this with
   |sc h _=>exact h
   |ptr l e _ _ _=>exact e g o ho
  ·cases this with
   |sc h _=>exact h
   |rp vs e _ _ _ _=>exact e g o ho
 |_=>first|assumption|simp[AV.light]at hl
theorem AR.light{R:Cells}{loc:bG}{x:AV}{v:Value}{O:Cells}(h:AR w R loc x v O)(hl:x.light=true):AR w R loc x v ae:=h.emp_weak (h.light_emp hl) ah
theorem wV(h:RelC E st a w X loc ob){n:Nat}{v:AV}{u:Value}(hv:AR w (RS E w (al ob X)) loc v u ae){cs:List AV}(hc:(yC n v).run st=some cs)
  (hl:cs.all AV.light=true)(hn:cs.length=n): ∃g off,u=.pointer (some ⟨g,off,none⟩)∧ ∃vals:List Value,vals.length=n∧(∀(j:Nat) c,vals[j]? =some c→w.cell? ⟨g,off+j,none⟩=some c)∧
   ∀(j:Nat) x c,cs[j]? =some x→vals[j]? =some c→AR w (RS E w (al ob X)) loc x c ae:=by
 rw[List.all_eq_true]at hl
 have fin: ∀(g off:Nat),(∀(j:Nat) x,cs[j]? =some x→ ∃c,w.cell? ⟨g,off+j,none⟩=some c∧AR w (RS E w (al ob X)) loc x c ae)→
   ∃vals:List Value,vals.length=n∧(∀(j:Nat) c,vals[j]? =some c→w.cell? ⟨g,off+j,none⟩=some c)∧ ∀(j:Nat) x c,cs[j]? =some x→vals[j]? =some c→AR w (RS E w (al ob X)) loc x c ae:=by
  intro g off hx
  refine⟨(List.range n).map fun j=>(w.cell? ⟨g,off+j,none⟩).getD undef,by simp,fun j c hj=> ?_,fun j x c hj hc=> ?_⟩
  ·have hjn:j<n:=by have:=(List.getElem?_eq_some_iff.1 hj).1;simpa using this
   simp only[List.getElem?_map,List.getElem?_range hjn,Option.map_some]at hj
   injection hj with hj
   obtain⟨c',h1,_⟩:=hx j cs[j] (by simp[hn,hjn])
   rw[h1]at hj⊢
   exact congrArg some hj
  ·have hjn:j<n:=by have:=(List.getElem?_eq_some_iff.1 hj).1;omega
   simp only[List.getElem?_map,List.getElem?_range hjn,Option.map_some]at hc
   injection hc with hc
   obtain⟨c',h1,h2⟩:=hx j x hj
   rw[h1]at hc
   simp at hc
   exact hc▸h2
 cases v<;>try exact(ay hc).elim
 ·rename_i b i j
  have hc:=cM hc
  obtain⟨blk,hm,hc⟩:=bind_some hc
  have hm:=lV hm
  have hcs:=au hc
  obtain⟨l,h4,h5,h6,h7⟩:=hv.inv_ptr
  obtain⟨row,hrow,_,hrl,hs,hcell⟩:=(h.lv b blk hm).row h4 h5 h6
  refine⟨_,_,h7,fin _ _ fun k x hk=> ?_⟩
  have hxr:row[j+k]? =some x:=by
   rw[←hcs,hrow,List.getElem?_take]at hk
   split at hk
   ·rw[List.getElem?_drop]at hk;exact hk
   ·cases hk
  have hlx:x.light=true:=hl x (List.mem_of_getElem? hk)
  obtain⟨c,h8,O',h9,_⟩:=hcell (j+k) x hxr hlx
  exact⟨c,by rw[Nat.add_assoc];exact h8,h9.light hlx⟩
 ·rename_i row j
  have hcs:=au hc
  obtain⟨vs,g,off,hg,hk,hcc,hx,h7⟩:=hv.inv_rp
  refine⟨_,_,h7,fin _ _ fun k x hk'=> ?_⟩
  have hxr:row[j+k]? =some x:=by
   rw[←hcs,List.getElem?_take]at hk'
   split at hk'
   ·rw[List.getElem?_drop]at hk';exact hk'
   ·cases hk'
  have hlt:=(List.getElem?_eq_some_iff.1 hxr).1
  exact⟨vs (j+k),by rw[Nat.add_assoc];exact(hcc _ hlt).1,(hx _ x hxr).weak (fun _ _ k=>k) (fun _ _ k=>by cases k)⟩
theorem oz{t:TypeId}{d:TypeDesc}(hd:P.underlying t=some d)(w:World):(isAgg t).run P w=.ok (fI (fx d)) w:=by
 simp only[isAgg,Sem.run_bind,run_underlying hd,Result.andThen_ok]
 cases d<;>rfl
theorem zF(hT:T.ok P)(h:RelC E st a w X loc ob){t:TypeId}{x:Operand}{f:Nat}(ho:o.op=.field t x f)(hr:(xW T t x f).run st=some r):Did P E o st a w X r:=by
 obtain⟨i,hi,hr⟩:=bind_some hr
 have hti:=hT.at (cL hi)
 obtain⟨d,hd,hut⟩:=hti.und
 split at hr
 ·rename_i fs hfs
  rw[hut]at hfs
  obtain⟨fa,rfl,rfl⟩:=jN hfs
  split at hr
  ·rename_i p hp
   simp only[List.getElem?_map,Option.map_eq_some_iff]at hp
   obtain⟨fl,hfl,rfl⟩:=hp
   have hfa:fa[f]? =some fl:=by simpa using hfl
   obtain⟨j,hj,hr⟩:=bind_some hr
   have htj:=hT.at (cL hj)
   obtain⟨d2,hd2,hut2⟩:=htj.und
   have hagg:=oz hd2 w
   rw[←hut2]at hagg
   obtain⟨v,hv,hr⟩:=bind_some hr
   have hv:=bp h hv
   cases v<;>try exact(ay hr).elim
   rename_i cs
   generalize hev:a.eval x=ev at hv
   obtain⟨vs,rfl,hvl,hvx⟩:=hv.inv_agg
   simp only at hr
   split at hr
   ·rename_i hA
    obtain⟨hq,hr⟩:=bb hr
    have hq:=of_decide_eq_true hq
    obtain rfl:=bA hr
    refine Did.pure h (v:=.agg (vs.extract fl.offset (fl.offset+j.size))) ?_ (.agg (fun _=>ae) ?_ (fun k y c h1 h2=> ?_) ⟨fun g o=>⟨fun k=>k.elim,fun⟨_,_,k⟩=>k.elim⟩,fun _ _ _ _ _ _ _ k=>k.elim⟩)
    ·obtain⟨_,op,_,_,_,_⟩:=o
     subst ho
     simp only[execOp]
     refine eF ?_
     simp only[Instr.field,Sem.run_bind,run_underlying hd,Result.andThen_ok,hfa,hev,part,hagg,hA,if_true,asAgg,Sem.run_pure,htj.size w]
    ·simp
     omega
    ·rw[List.getElem?_take]at h1
     split at h1
     ·rw[List.getElem?_drop]at h1
      refine hvx _ y c h1 ?_
      rw[Array.getElem?_extract]at h2
      split at h2
      ·exact h2
      ·cases h2
     ·cases h1
   ·rename_i hA
    have hA:fI j.ut=false:=by simpa using hA
    obtain⟨y,h2,hr⟩:=bind_some hr
    have hy:=jR h2
    obtain rfl:=bA hr
    have hlt:=(List.getElem?_eq_some_iff.1 hy).1
    have hc:vs[fl.offset]? =some vs[fl.offset]:=by simp[show fl.offset<vs.size by omega]
    refine Did.pure h (v:=vs[fl.offset]) ?_ (hvx _ y _ hy hc)
    obtain⟨_,op,_,_,_,_⟩:=o
    subst ho
    simp only[execOp]
    refine eF ?_
    simp only[Instr.field,Sem.run_bind,run_underlying hd,Result.andThen_ok,hfa,hev,part,hagg,hA,Bool.false_eq_true,if_false,asAgg,Sem.run_pure,hc]
  ·exact(ay hr).elim
 ·exact(ay hr).elim
theorem vj(hT:T.ok P)(h:RelC E st a w X loc ob){t:TypeId}{x:Operand}(hr:(kR T t x).run st=some r):
  ∃ad u,a.eval x=.pointer (some ad)∧(loadVar t ad).run P w=.ok u w∧AR w (RS E w (al ob X)) loc r.1 u ae∧r.2=[]:=by
 obtain⟨i,hi,hr⟩:=bind_some hr
 have hti:=hT.at (cL hi)
 obtain⟨d,hd,hut⟩:=hti.und
 obtain⟨v,hv,hr⟩:=bind_some hr
 have hv:=bp h hv
 obtain⟨cs,hc,hr⟩:=bind_some hr
 obtain⟨hq,hr⟩:=bb hr
 simp only[Bool.and_eq_true,beq_iff_eq]at hq
 obtain⟨g,off,hp,vals,hvl,hvc,hvx⟩:=wV h hv hc hq.1 hq.2
 have hagg:=oz hd w
 rw[←hut]at hagg
 split at hr
 ·rename_i hA
  obtain rfl:=bA hr
  refine⟨_,.agg vals.toArray,hp,?_,?_,rfl⟩
  ·have hload:=run_loadCells_list (P:=P) w ⟨g,off,none⟩ vals (fun j c hj=>by rw[ee];exact hvc j c hj)
   rw[hvl]at hload
   simp only[loadVar,pure,Sem.run,Sem.run_bind,Result.andThen_ok,hagg,hA,if_true,hti.size w,hload]
  ·refine .agg (fun _=>ae) (by simp[hvl,hq.2]) (fun k x c h1 h2=>hvx k x c h1 (by simpa using h2)) ⟨fun g o=>⟨fun k=>k.elim,fun⟨_,_,k⟩=>k.elim⟩,fun _ _ _ _ _ _ _ k=>k.elim⟩
 ·rename_i hA
  have hA:fI i.ut=false:=by simpa using hA
  match cs,hr,hc,hq,hvx with
  |[c],hr,hc,hq,hvx=>
   obtain rfl:=bA hr
   have h1:vals.length=1:=by rw[hvl,←hq.2];rfl
   match vals,h1 with
   |[u],_=>
    refine⟨_,u,hp,?_,hvx 0 c u (by simp) (by simp),rfl⟩
    have hcell:=hvc 0 u (by simp)
    simp only[loadVar,pure,Sem.run,Sem.run_bind,Result.andThen_ok,hagg,hA,Bool.false_eq_true,if_false,load]
    simp only[Nat.add_zero]at hcell
    simp only[hcell]
  |[],hr,_,_,_=>exact(ay hr).elim
  |_::_::_,hr,_,_,_=>exact(ay hr).elim
theorem AK(hT:T.ok P)(h:RelC E st a w X loc ob){t:TypeId}{x:Operand}(ho:o.op=.load t x)(hr:(kR T t x).run st=some r):Did P E o st a w X r:=by
 obtain⟨ad,u,hp,hl,hx,h2⟩:=vj hT h hr
 obtain⟨y,l⟩:=r
 simp only at h2
 subst h2
 refine Did.pure h (v:=u) ?_ hx
 obtain⟨_,op,_,_,_,_⟩:=o
 subst ho
 simp only[execOp,hp]
 refine eF ?_
 simp only[Instr.loadAt,Instr.sureAddr,Sem.run_bind,Sem.run_pure,Result.andThen_ok,hl]
theorem yW(h:RelC E st a w X loc ob)(hT:T.ok P){t:TypeId}{x i:Operand}(ho:o.op=.index t x i)(hr:(xC T t x i).run st=some r):Did P E o st a w X r:=by
 obtain⟨iv,hi,hr⟩:=bind_some hr
 have hi:=bp h hi
 obtain⟨n,hn,hr⟩:=bind_some hr
 obtain⟨k,m,rfl,hm0,rfl⟩:=hU hn
 obtain⟨v,hv,hr⟩:=bind_some hr
 have hv:=bp h hv
 obtain⟨_,hf,hr⟩:=bind_some hr
 obtain⟨s,rfl⟩: ∃s,v=.str s:=by cases v<;>first|exact⟨_,rfl⟩|exact(ay hr).elim
 obtain⟨hq,hr⟩:=bb hr
 obtain rfl:=bA hr
 have hlt:m.toNat<s.length:=of_decide_eq_true hq
 obtain⟨j,hj,hf⟩:=bind_some hf
 have htj:=hT.at (cL hj)
 obtain⟨d,hd,hut⟩:=htj.und
 have hds:d=.string:=by
  split at hf<;>first|exact(ay hf).elim|skip
  all_goals rename_i h1 h2
  all_goals first|(cases h2;done)|(rw[h1]at hut;exact jD hut.symm)|skip
  all_goals simp_all
 subst hds
 refine Did.pure h (v:=.int .u8 (s.getD m.toNat 0).toNat) ?_ (.sc ⟨rfl,by
  have:=(s.getD m.toNat 0).toNat_lt
  simp only[dE,Bool.and_eq_true,decide_eq_true_eq]
  omega⟩ ah)
 obtain⟨_,op,_,_,_,_⟩:=o
 subst ho
 simp only[execOp]
 refine eF ?_
 have hg:(ByteArray.mk s.toArray)[m.toNat]? =some (s.getD m.toNat 0):=by
  have:m.toNat<(ByteArray.mk s.toArray).size:=by simpa[ByteArray.size]using hlt
  rw[getElem?_pos (ByteArray.mk s.toArray) m.toNat this]
  simp[ByteArray.getElem_eq_getElem_data,hlt]
 simp only[hi.inv_int,hv.inv_str,Instr.index,Sem.run_bind,iI,Result.andThen_ok,run_underlying hd,hm0,if_true,hg]
 rfl
theorem rv(h:RelC E st a w X loc ob){c:Call}(ho:o.op=.call c)(hc:c.callee=.builtin .max∨c.callee=.builtin .min)
  (hr:(fG T (match c.callee with| .builtin b=>b|_=>.len) c o).run st=some r):Did P E o st a w X r:=by
 have fin: ∀(mx:Bool)(vs:List AV),(gk c.args.toList).run st=some vs→ ∀y,(if mx=true then Kw vs else KO vs).run st=some y→r=(y,[])→
   c.callee=.builtin (if mx=true then .max else .min)→Did P E o st a w X r:=by
  intro mx vs hvs y hy hre hcal
  obtain⟨hl,hx⟩:=dR h hvs
  have: ∃k x k' y',k=k'∧vs=[.int k x,.int k' y']∧y=if mx=true then .int k (if y'>x then y' else x)else .int k (if y'<x then y' else x):=by
   cases mx
   ·simp only[Bool.false_eq_true,if_false]at hy⊢
    unfold KO at hy
    split at hy
    ·split at hy
     ·rename_i hkk
      exact⟨_,_,_,_,hkk,rfl,(au hy).symm⟩
     ·exact(ay hy).elim
    ·exact(ay hy).elim
   ·simp only[if_true]at hy⊢
    unfold Kw at hy
    split at hy
    ·split at hy
     ·rename_i hkk
      exact⟨_,_,_,_,hkk,rfl,(au hy).symm⟩
     ·exact(ay hy).elim
    ·exact(ay hy).elim
  obtain⟨k,x,k',y',hkk,rfl,rfl⟩:=this
  obtain⟨a1,a2,hargs⟩: ∃a1 a2,c.args.toList=[a1,a2]:=by
   match c.args.toList,hl with
   |[a1,a2],_=>exact⟨a1,a2,rfl⟩
  have e1:=(hx 0 (.int k x) a1 (by simp) (by simp[hargs])).inv_int
  have e2:=(hx 1 (.int k' y') a2 (by simp) (by simp[hargs])).inv_int
  have hca:c.args=#[a1,a2]:=by
   have:=congrArg List.toArray hargs
   simpa using this
  subst hre
  refine Did.pure h (v:=if mx=true then .int k (if y'>x then y' else x)else .int k (if y'<x then y' else x)) ?_ (by
   have f1:=(hx 0 (.int k x) a1 (by simp) (by simp[hargs])).fits
   have f2:=(hx 1 (.int k' y') a2 (by simp) (by simp[hargs])).fits
   rw[←hkk]at f2
   cases mx<;>simp only[if_true,Bool.false_eq_true,if_false]<;>refine .sc ⟨rfl,?_⟩ ah<;>split<;>assumption)
  obtain⟨_,op,_,_,_,_⟩:=o
  subst ho
  simp only[execOp,resolve,hcal,hca,invoke]
  cases mx
  ·simp[builtin,Builtin.min_,Builtin.min2,e1,e2,Sem.run_bind,pure,Sem.run,Result.andThen_ok,bind,Sem.bind]
  ·simp[builtin,Builtin.max_,Builtin.max2,e1,e2,Sem.run_bind,pure,Sem.run,Result.andThen_ok,bind,Sem.bind]
 rcases hc with hc|hc
 ·rw[hc]at hr
  obtain⟨vs,h1,hr⟩:=bind_some hr
  obtain⟨y,h2,hr⟩:=bind_some hr
  exact fin true vs h1 y (by simpa using h2) (bA hr) (by simpa using hc)
 ·rw[hc]at hr
  obtain⟨vs,h1,hr⟩:=bind_some hr
  obtain⟨y,h2,hr⟩:=bind_some hr
  exact fin false vs h1 y (by simpa using h2) (bA hr) (by simpa using hc)
theorem oP(hT:T.ok P){t:TypeId}{v:AV}(hf:(uC T t v).run st=some ()): ∃i d,T.get t=some i∧P.underlying t=some d∧i.ut=fx d∧
  ((∃e,d=.slice e∧((∃b off n,v=.ref b off n)∨(∃z rows,v=.ro z rows)∨v=.emp))∨
   (∃n e b x y blk,d=.array n e∧v=.ptr b x y∧st.m b=.live blk∧blk.arr=true∧blk.rows.length=n)∨(d=.string∧ ∃s,v=.str s)):=by
 obtain⟨i,hi,hf⟩:=bind_some hf
 have hti:=hT.at (cL hi)
 obtain⟨d,hd,hut⟩:=hti.und
 refine⟨i,d,cL hi,hd,hut,?_⟩
 cases hu:i.ut with
 |slice e=>
  rw[hu]at hf hut
  refine .inl ⟨e,fC hut.symm,?_⟩
  cases v<;>first|exact(ay hf).elim|exact .inl ⟨_,_,_,rfl⟩|exact .inr (.inl ⟨_,_,rfl⟩)|exact .inr (.inr rfl)
 |array n e=>
  rw[hu]at hf hut
  refine .inr (.inl ?_)
  cases v with
  |ptr b x y=>
   have hf:=cM hf
   obtain⟨blk,h1,hf⟩:=bind_some hf
   have:=(bb hf).1
   simp only[Bool.and_eq_true,beq_iff_eq]at this
   exact⟨n,e,b,x,y,blk,lF hut.symm,rfl,lV h1,this.1,this.2⟩
  |_=>exact(ay hf).elim
 |str=>
  rw[hu]at hf hut
  refine .inr (.inr ⟨jD hut.symm,?_⟩)
  cases v<;>first|exact(ay hf).elim|exact⟨_,rfl⟩
 |_=>rw[hu]at hf;exact(ay hf).elim
theorem sL{v u:AV}(ha:(GR v).run st=some u):(u=v∧ ∀b i j,v≠.ptr b i j)∨ ∃b blk,v=.ptr b 0 0∧st.m b=.live blk∧blk.arr=true∧u=.ref b 0 blk.rows.length:=by
 cases v with
 |ptr b i j=>
  cases i with
  |zero=>
   cases j with
   |zero=>
    right
    have ha:=cM ha
    obtain⟨blk,h1,ha⟩:=bind_some ha
    obtain⟨h1,h2⟩:=dC h1
    exact⟨b,blk,rfl,h1,h2,(au ha).symm⟩
   |succ j=>exact(ay ha).elim
  |succ i=>exact(ay ha).elim
 |_=>exact .inl ⟨(au ha).symm,fun _ _ _ h=>by cases h⟩
theorem wz(hT:T.ok P){t:TypeId}{e:TI}{d:TypeDesc}{i:TI}(hi:T.get t=some i)(hut:i.ut=fx d)(he:(Er T t).run st=some e):
  ∃el,TIok P el e∧T.get el=some e∧(d=.slice el∨ ∃n,d=.array n el):=by
 obtain⟨el,h1,he⟩:=bind_some he
 unfold Eq at h1
 rw[hi]at h1
 simp only at h1
 have htj:=cL he
 refine⟨el,hT.at htj,htj,?_⟩
 split at h1
 ·rename_i x hu
  obtain rfl:=au h1
  exact .inl (fC (by rw[←hut];exact hu))
 ·rename_i n x hu
  obtain rfl:=au h1
  exact .inr ⟨n,lF (by rw[←hut];exact hu)⟩
 ·exact(ay h1).elim
theorem BR.width{R:Cells}{loc:bG}{b:Nat}{blk:Blk}{O:Cells}(h:BR w R loc b blk O){l:Loc}(hl:loc b=some l):l.s=blk.z.length∧l.n=blk.rows.length:=by
 cases h with
 |arr0 l' hl' hn hs hb e=>rw[hl]at hl';injection hl' with hl';subst hl';exact⟨hs,by simpa using hn⟩
 |arr l' vs os hl' hbd hs hn _ _ _ _ _ _ _ _ _=>rw[hl]at hl';injection hl' with hl';subst hl';exact⟨hs,hn⟩
 |var l' vs os hl' hbd hs hn hz _ _ _ _ _ _=>rw[hl]at hl';injection hl' with hl';subst hl';exact⟨hs,by simpa using hn⟩
theorem rM(hT:T.ok P)(h:RelC E st a w X loc ob){t:TypeId}{x i:Operand}(ho:o.op=.indexAddr t x i)(hr:(oY T t x i).run st=some r):Did P E o st a w X r:=by
 obtain⟨iv,hi,hr⟩:=bind_some hr
 have hi:=bp h hi
 obtain⟨n,hn,hr⟩:=bind_some hr
 obtain⟨k,m,rfl,hm0,rfl⟩:=hU hn
 obtain⟨xv,hx,hr⟩:=bind_some hr
 have hx:=bp h hx
 obtain⟨_,hf,hr⟩:=bind_some hr
 obtain⟨ti,d,hti,hd,hut,hfit⟩:=oP hT hf
 obtain⟨e,he,hr⟩:=bind_some hr
 obtain⟨el,hel,_,hde⟩:=wz hT hti hut he
 obtain⟨v,hv,hr⟩:=bind_some hr
 have hw:=hel.size w
 -- the machine's own way, over a slice and over an array's address
 have keyS: ∀(g off len cap:Nat),d=.slice el→a.eval x=.slice (some ⟨g,off,none⟩) len cap→m<len→(execOp a.eval o).run P w=.ok (.value (.pointer (some ⟨g,off+m.toNat*e.size,none⟩))) w:=by
  intro g off len cap hde hax hlt
  obtain⟨_,op,_,_,_,_⟩:=o
  subst ho
  subst hde
  simp only[execOp]
  refine eF ?_
  have hc:0≤m∧m<(len:Int):=⟨hm0,hlt⟩
  simp only[Instr.indexAt,hi.inv_int,hax,Sem.run_bind,iI,run_underlying hd,Result.andThen_ok]
  simp only[pure,Sem.run,Result.andThen_ok,hc,and_self,if_true,Sem.run_bind,hw,ee]
 have keyA: ∀(g off len:Nat),d=.array len el→a.eval x=.pointer (some ⟨g,off,none⟩)→m<len→(execOp a.eval o).run P w=.ok (.value (.pointer (some ⟨g,off+m.toNat*e.size,none⟩))) w:=by
  intro g off len hde hax hlt
  obtain⟨_,op,_,_,_,_⟩:=o
  subst ho
  subst hde
  simp only[execOp]
  refine eF ?_
  have hc:0≤m∧m<(len:Int):=⟨hm0,hlt⟩
  simp only[Instr.indexAt,hi.inv_int,hax,Sem.run_bind,iI,run_underlying hd,Result.andThen_ok,Instr.sureAddr]
  simp only[pure,Sem.run,Result.andThen_ok,hc,and_self,if_true,Sem.run_bind,hw,ee]
 rcases sL hv with⟨rfl,hnp⟩|⟨b,blk,rfl,hm,harr,rfl⟩
 ·cases v with
  |ref b off len=>
   have hr:=cM hr
   obtain⟨blk,hm,hr⟩:=bind_some hr
   obtain⟨hm,harr⟩:=dC hm
   obtain⟨hq,hr⟩:=bb hr
   simp only[Bool.and_eq_true,beq_iff_eq,decide_eq_true_eq]at hq
   obtain rfl:=bA hr
   obtain⟨l,hl,hn,ad,cap,hav,hcap,hcase⟩:=hx.inv_ref
   rcases hcase with⟨h0,_⟩|⟨hbd,rfl,hbf⟩
   ·omega
   ·have hs:=((h.lv b blk hm).width hl).1
    have hds:d=.slice el:=by
     rcases hfit with⟨e',rfl,_⟩|⟨_,_,_,_,_,_,_,h1,_⟩|⟨rfl,_⟩
     ·rcases hde with h1|⟨_,h1⟩
      ·exact h1
      ·cases h1
     ·cases h1
     ·rcases hde with h1|⟨_,h1⟩<;>cases h1
    refine Did.pure h (keyS _ _ _ _ hds hav (by omega)) ?_
    have:=AR.ptr (w:=w) (R:=RS E w (al ob X)) (loc:=loc) (b:=b) (i:=off+m.toNat) (j:=0) (O:=ae) l ah hl hbd (by omega)
    rw[hs,hq.1]at this⊢
    rw[Nat.add_mul]at this
    simpa[Nat.add_assoc]using this
  |ro z rows=>
   obtain⟨hq,hr⟩:=bb hr
   simp only[Bool.and_eq_true,beq_iff_eq,decide_eq_true_eq]at hq
   obtain rfl:=bA hr
   obtain⟨ad,cap,hav,hcap,hcase⟩:=hx.inv_ro
   rcases hcase with rfl|⟨g,off,vs,hl,rfl,hg,hW,hc,hxx,_⟩
   ·simp at hq
   ·have hds:d=.slice el:=by
     rcases hfit with⟨e',rfl,_⟩|⟨_,_,_,_,_,_,_,h1,_⟩|⟨rfl,_⟩
     ·rcases hde with h1|⟨_,h1⟩
      ·exact h1
      ·cases h1
     ·cases h1
     ·rcases hde with h1|⟨_,h1⟩<;>cases h1
    refine Did.pure h (keyS _ _ _ _ hds hav (by omega)) ?_
    have hrow:dn rows m.toNat z=rows[m.toNat]:=by simp[dn,hq.2]
    rw[hrow]
    have hlen:=hW.len rows[m.toNat] (List.getElem_mem hq.2)
    rw[←hq.1]
    have:=AR.rp (w:=w) (R:=RS E w (al ob X)) (loc:=loc) (row:=rows[m.toNat]) (j:=0) (g:=g) (o:=off+m.toNat*z.length) (O:=ae) (fun k=>vs m.toNat k) ah hg (hW.known _ (List.getElem_mem hq.2))
     (fun k hk=>hc m.toNat k hq.2 (by omega)) (fun k x hk=>hxx m.toNat k _ x (by simp[hq.2]) hk)
    simpa using this
  |ptr b i j=>exact absurd rfl (hnp b i j)
  |_=>exact(ay hr).elim
 ·have hr:=cM hr
  obtain⟨blk',hm',hr⟩:=bind_some hr
  obtain⟨hm',harr'⟩:=dC hm'
  rw[hm]at hm'
  injection hm' with hm'
  subst hm'
  obtain⟨hq,hr⟩:=bb hr
  simp only[Bool.and_eq_true,beq_iff_eq,decide_eq_true_eq]at hq
  obtain rfl:=bA hr
  obtain⟨l,hl,hbd,hi0,hav⟩:=hx.inv_ptr
  obtain⟨hs,hln⟩:=(h.lv b blk hm).width hl
  have hda: ∃n,d=.array n el∧blk.rows.length=n:=by
   rcases hfit with⟨e',rfl,h1⟩|⟨n,e',b',x',y',blk',rfl,h1,h2,_,h3⟩|⟨rfl,_,h1⟩
   ·rcases h1 with⟨_,_,_,h1⟩|⟨_,_,h1⟩|h1<;>cases h1
   ·injection h1 with h1
    subst h1
    rw[hm]at h2
    injection h2 with h2
    subst h2
    rcases hde with h1|⟨_,h1⟩
    ·cases h1
    ·injection h1 with h1 h4
     subst h4
     exact⟨n,rfl,h3⟩
   ·cases h1
  obtain⟨n,hda,hn⟩:=hda
  refine Did.pure h (keyA l.g (l.base+0*l.s+0) n hda hav (by omega)) ?_
  have:=AR.ptr (w:=w) (R:=RS E w (al ob X)) (loc:=loc) (b:=b) (i:=0+m.toNat) (j:=0) (O:=ae) l ah hl hbd (by omega)
  rw[hs,hq.1]at this⊢
  simpa[Nat.add_assoc]using this
end
end Go.Abs
