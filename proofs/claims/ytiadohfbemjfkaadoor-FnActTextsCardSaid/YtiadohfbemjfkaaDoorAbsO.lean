/- The abstract layer, 4: each operation does what `evOp` says. -/
import Derived.Test.YtiadohfbemjfkaaDoorAbsS
import Derived.Laws.IdiomCopy
import Derived.Laws.Cells
import Derived.ChangeKeysEq
set_option linter.unusedVariables false
set_option linter.unusedSimpArgs false
noncomputable section
namespace Go.Abs
open Go
theorem run_bind{α β:Type}(f:α→RP β)(st:St): ∀r:RP α,(r.bind f).run st=(r.run st).bind fun a=>(f a).run st
 | .ret a=>rfl
 | .tmp k c=>by simp only[RP.bind,RP.run];exact run_bind f st _
 | .mem b c=>by simp only[RP.bind,RP.run];exact run_bind f st _
 | .req b c=>by
  simp only[RP.bind,RP.run]
  split
  ·exact run_bind f st _
  ·rfl
 | .fail=>rfl
theorem bind_some{α β:Type}{r:RP α}{f:α→RP β}{st:St}{b:β}(h:(r.bind f).run st=some b): ∃a,r.run st=some a∧(f a).run st=some b:=by
 rw[run_bind]at h
 cases hr:r.run st with
 |none=>rw[hr]at h;cases h
 |some a=>rw[hr]at h;exact⟨a,rfl,h⟩
theorem req_some{α:Type}{b:Bool}{c:RP α}{st:St}{x:α}(h:(RP.req b c).run st=some x):b=true∧c.run st=some x:=by
 simp only[RP.run]at h
 split at h
 ·exact⟨‹_›,h⟩
 ·cases h
theorem ret_some{α:Type}{a x:α}{st:St}(h:(RP.ret a).run st=some x):a=x:=by simpa[RP.run]using h
theorem val_some{v:AV}{x:Res}{st:St}(h:(val v).run st=some x):x=(v,[]):=by
 have:=ret_some h
 exact this.symm
theorem ofOpt_some{α:Type}{o:Option α}{x:α}{st:St}(h:(RP.ofOpt o).run st=some x):o=some x:=by
 cases o with
 |none=>cases h
 |some a=>exact congrArg some (ret_some h)
theorem fail_some{α:Type}{x:α}{st:St}(h:(RP.fail:RP α).run st=some x):False:=by cases h
theorem mem_some{α:Type}{b:Nat}{c:MB→RP α}{st:St}{x:α}(h:(RP.mem b c).run st=some x):(c (st.m b)).run st=some x:=h
theorem live_some{m:MB}{st:St}{x:Blk}(h:(liveA m).run st=some x):m=.live x:=by
 cases m with
 |live b=>rw[ret_some h]
 |_=>cases h
theorem arrB_some{m:MB}{st:St}{x:Blk}(h:(arrB m).run st=some x):m=.live x∧x.arr=true:=by
 obtain⟨b,h1,h⟩:=bind_some h
 obtain⟨_,h2,h⟩:=bind_some h
 have:=(req_some h2).1
 obtain rfl:=ret_some h
 exact⟨live_some h1,this⟩
theorem TI_some{T:TT}{t:Nat}{st:St}{i:TI}(h:(TI.ofT T t).run st=some i):T.get t=some i:=by
 unfold TI.ofT at h
 split at h
 ·rw[←ret_some h];assumption
 ·cases h
theorem runK_run{α:Type}{st:St}{K:α→Prop}: ∀{r:RP α},r.runK st K→ ∃a,r.run st=some a∧K a
 | .ret a,h=>⟨a,rfl,h⟩
 | .tmp k c,h=>runK_run (r:=c (st.t k)) h
 | .mem b c,h=>runK_run (r:=c (st.m b)) h
 | .req b c,h=>by
  obtain⟨a,h1,h2⟩:=runK_run (r:=c) h.2
  exact⟨a,by simp only[RP.run,h.1,if_true];exact h1,h2⟩
 | .fail,h=>h.elim
structure TIok(P:Program)(t:TypeId)(i:TI):Prop where
 ex: ∃info d z,P.info? t=some info∧P.underlying t=some d∧info.zero=some z∧z.cells.size=i.size∧info.size=i.size∧info.bytes=i.bytes∧
  i.ut=utOf d∧i.zero=z.cells.toList.map ofVal∧i.eqs=eqsOf P t d
theorem tiOf_ok{P:Program}{t:TypeId}{i:TI}(h:tiOf P t=some i):TIok P t i:=by
 unfold tiOf at h
 split at h
 ·rename_i info d h1 h2
  split at h
  ·rename_i z hz
   split at h
   ·rename_i hs
    injection h with h
    subst h
    exact⟨info,d,z,h1,h2,hz,hs,rfl,rfl,rfl,rfl,rfl⟩
   ·cases h
  ·cases h
 ·cases h
theorem TT.ok.at{T:TT}{P:Program}(h:T.ok P){t:Nat}{i:TI}(hi:T.get t=some i):TIok P t i:=tiOf_ok (h t i hi)
theorem TIok.size{P:Program}{t:TypeId}{i:TI}(h:TIok P t i)(w:World):(sizeOf t).run P w=.ok i.size w:=by
 obtain⟨info,d,z,h1,h2,hz,hs,h3,h4,_⟩:=h.ex
 rw[run_sizeOf w h1]
 congr 1
 simp[Program.cellsOf,h1,h3]
theorem TIok.zlen{P:Program}{t:TypeId}{i:TI}(h:TIok P t i):i.zero.length=i.size:=by
 obtain⟨info,d,z,h1,h2,hz,hs,h3,h4,h5,h6,_⟩:=h.ex
 rw[h6];simpa using hs
theorem TIok.und{P:Program}{t:TypeId}{i:TI}(h:TIok P t i): ∃d,P.underlying t=some d∧i.ut=utOf d:=by
 obtain⟨info,d,z,h1,h2,hz,hs,h3,h4,h5,h6,_⟩:=h.ex
 exact⟨d,h2,h5⟩
theorem TIok.zeroV{P:Program}{t:TypeId}{i:TI}(h:TIok P t i)(w:World): ∃z,(zeroValue t).run P w=.ok z w∧z.cells.size=i.size∧i.zero=z.cells.toList.map ofVal:=by
 obtain⟨info,d,z,h1,h2,hz,hs,h3,h4,h5,h6,_⟩:=h.ex
 refine⟨z,?_,hs,h6⟩
 simp only[zeroValue,Sem.run_bind,run_typeInfo w h1,Result.andThen_ok,hz]
 rfl
theorem und_slice{d:TypeDesc}{e:TypeId}(h:utOf d=.slice e):d=.slice e:=by cases d<;>simp[utOf]at h;rw[h]
theorem und_array{d:TypeDesc}{n:Nat}{e:TypeId}(h:utOf d=.array n e):d=.array n e:=by cases d<;>simp[utOf]at h;rw[h.1,h.2]
theorem und_str{d:TypeDesc}(h:utOf d=.str):d=.string:=by cases d<;>simp[utOf]at h;rfl
theorem und_int{d:TypeDesc}{k:IntKind}(h:utOf d=.int k):d=.int k:=by cases d<;>simp[utOf]at h;rw[h]
theorem und_bool{d:TypeDesc}(h:utOf d=.bool):d=.bool:=by cases d<;>simp[utOf]at h;rfl
theorem und_struct{d:TypeDesc}{l:List (Nat × TypeId)}(h:utOf d=.struct l): ∃fs,d=.struct fs∧l=fs.toList.map fun f=>(f.offset,f.type):=by
 cases d<;>simp[utOf]at h
 exact⟨_,rfl,h.symm⟩
theorem fits_wrap(k:IntKind)(n:Int):fitsK k (k.wrap n)=true:=by
 cases k<;>simp[fitsK,IntKind.wrap,IntKind.signed,IntKind.bits]<;>(try split)<;>omega
theorem fits_u8(c:UInt8):fitsK .u8 c.toNat=true:=by
 have:=c.toNat_lt
 simp only[fitsK,Bool.and_eq_true,decide_eq_true_eq]
 omega
theorem fits_len{n:Nat}(h:n≤maxLn):fitsK .i64 n=true:=by
 unfold maxLn at h
 simp only[fitsK,Bool.and_eq_true,decide_eq_true_eq]
 omega
theorem SR_ofVal(v:Value):SR (ofVal v) v:=by
 unfold ofVal
 split
 ·rename_i k n
  by_cases h:fitsK k n=true
  ·rw[if_pos h];exact⟨rfl,h⟩
  ·rw[if_neg h];exact trivial
 ·exact rfl
 ·rename_i s
  by_cases h:s.data.toList.length≤maxLn
  ·rw[if_pos h];exact⟨by simp,h⟩
  ·rw[if_neg h];exact trivial
 all_goals simp[SR]
theorem AR.ofVal{w:World}{R:Cells}{loc:Locs}(v:Value):AR w R loc (ofVal v) v none2:=.sc (SR_ofVal v) emp_none2
section
variable{P:Program}{E:Env}{st:St}{a:Act}{w:World}{X:Cells}{loc:Locs}{ob:Nat→Cells}
theorem opnd_some(h:RelC E st a w X loc ob){x:Operand}{v:AV}(hx:(opnd x).run st=some v):AR w (RS E w (Owned ob X)) loc v (a.eval x) none2:=by
 cases x with
 |tmp k=>obtain rfl:=ret_some (st:=st) hx;exact h.tm k
 |const c=>obtain rfl:=ret_some (st:=st) hx;exact AR.ofVal c
 |func f=>
  obtain rfl:=ret_some hx
  exact .fn (fun _=>none2) (by simp) (fun k x v h1 _=>by simp at h1) ⟨fun g o=>⟨fun k=>k.elim,fun⟨_,_,k⟩=>k.elim⟩,fun _ _ _ _ _ _ _ k=>k.elim⟩
 |global g=>exact(fail_some hx).elim
theorem opnds_some(h:RelC E st a w X loc ob): ∀{l:List Operand}{vs:List AV},(opnds l).run st=some vs→vs.length=l.length∧ ∀(k:Nat) x o,vs[k]? =some x→l[k]? =some o→AR w (RS E w (Owned ob X)) loc x (a.eval o) none2
 |[],vs,hx=>by obtain rfl:=ret_some hx;exact⟨rfl,fun k x o h1=>by simp at h1⟩
 |o::l,vs,hx=>by
  obtain⟨v,h1,hx⟩:=bind_some hx
  obtain⟨vs',h2,hx⟩:=bind_some hx
  obtain rfl:=ret_some hx
  obtain⟨hl,hr⟩:=opnds_some h h2
  refine⟨by simp[hl],fun k x o' h3 h4=> ?_⟩
  cases k with
  |zero=>simp at h3 h4;subst h3;subst h4;exact opnd_some h h1
  |succ k=>simp at h3 h4;exact hr k x o' h3 h4
theorem AR.emp_weak{R:Cells}{x:AV}{v:Value}{O O':Cells}(h:AR w R loc x v O)(e:Emp O)(e':Emp O'):AR w R loc x v O':=by
 have:O=O':=by funext g o;exact propext ⟨fun k=>(e g o k).elim,fun k=>(e' g o k).elim⟩
 exact this▸h
def one(v:Value):Prop:=v.cells=#[v]∧v.oneCell'=true
theorem AR.leaf_one{R:Cells}{x:AV}{v:Value}{O:Cells}(h:AR w R loc x v O)(hl:x.light=true):one v:=by
 cases h with
 |sc h e=>
  cases x<;>simp[AV.light]at hl<;>simp only[SR]at h
  all_goals first
   |(subst h;exact⟨rfl,rfl⟩)
   |(obtain⟨rfl,_⟩:=h;exact⟨rfl,rfl⟩)
   |(obtain⟨a,rfl⟩:=h;exact⟨rfl,rfl⟩)
   |(obtain⟨a,b,rfl⟩:=h;exact⟨rfl,rfl⟩)
   |exact h.elim
 |_=>first|exact⟨rfl,rfl⟩|simp[AV.light]at hl
theorem plain_light{x:AV}(h:x.plain=true):x.light=true:=by cases x<;>simp_all[AV.plain,AV.light]
theorem flat_plain{x:AV}(h:x.flat=true):x.plain=true:=by cases x<;>simp_all[AV.plain,AV.flat]
theorem light_known{x:AV}(h:x.light=true):x.isUndef=false:=by cases x<;>simp_all[AV.isUndef,AV.light]
theorem AR.plain_loc{R:Cells}{loc':Locs}{x:AV}{v:Value}{O:Cells}(h:AR w R loc x v O)(hl:x.plain=true):AR w R loc' x v O:=by
 cases h with
 |sc h e=>exact .sc h e
 |ro0 e=>exact .ro0 e
 |ro vs e h1 h2 h3 h4 h5 h6 h7 h8=>exact .ro vs e h1 h2 h3 h4 h5 h6 h7 h8
 |_=>simp[AV.plain]at hl
theorem AR.leaves{R:Cells}{x:AV}{v:Value}(h:AR w R loc x v none2)(hl:x.leaves.all AV.light=true):
  v.cells.toList.length=x.leaves.length∧(∀c∈v.cells.toList,c.oneCell'=true)∧ ∀(k:Nat) y c,x.leaves[k]? =some y→v.cells.toList[k]? =some c→AR w R loc y c none2:=by
 rw[List.all_eq_true]at hl
 have leaf:x.light=true→x.leaves=[x]→v.cells.toList.length=x.leaves.length∧(∀c∈v.cells.toList,c.oneCell'=true)∧ ∀(k:Nat) y c,x.leaves[k]? =some y→v.cells.toList[k]? =some c→AR w R loc y c none2:=by
  intro h1 h2
  obtain⟨h3,h4⟩:=h.leaf_one h1
  rw[h3,h2]
  refine⟨rfl,fun c hc=>by simp at hc;rw[hc];exact h4,fun k y c hy hc=> ?_⟩
  cases k with
  |zero=>simp at hy hc;subst hy;subst hc;exact h
  |succ k=>simp at hy
 cases x with
 |agg cs=>
  cases h with
  |sc h e=>exact h.elim
  | @agg _ _ vs _ os hn hx hu=>
   simp only[AV.leaves]at hl⊢
   have hsub: ∀(k:Nat) y c,cs[k]? =some y→vs[k]? =some c→AR w R loc y c none2:=fun k y c hy hc=>by
    have:=hx k y c hy hc
    refine this.emp_weak (fun g o ho=> ?_) emp_none2
    exact(hu.iff g o).2 ⟨k,(List.getElem?_eq_some_iff.1 hy).1,ho⟩
   refine⟨by simpa[Value.cells]using hn,fun c hc=> ?_,fun k y c hy hc=>hsub k y c hy (by simpa[Value.cells]using hc)⟩
   simp only[Value.cells]at hc
   obtain⟨k,hk⟩:=List.getElem?_of_mem hc
   have hk':k<cs.length:=by rw[←hn];simpa using(List.getElem?_eq_some_iff.1 hk).1
   have hv:vs[k]? =some c:=by simpa using hk
   exact((hsub k cs[k] c (by simp[hk']) hv).leaf_one (hl _ (List.getElem_mem hk'))).2
 |tup vs=>simp[AV.leaves,AV.light]at hl
 |own l z r=>simp[AV.leaves,AV.light]at hl
 |obj c=>simp[AV.leaves,AV.light]at hl
 |undef=>simp[AV.leaves,AV.light]at hl
 |_=>exact leaf (hl _ (by simp[AV.leaves])) rfl
theorem AR.ptr00{R:Cells}{loc:Locs}{b:Nat}{O:Cells}(l:Loc)(e:Emp O)(hl:loc b=some l)(hbd:l.bound=true)(hi:0<l.n):AR w R loc (.ptr b 0 0) (.pointer (some ⟨l.g,l.base,none⟩)) O:=by
 have:=AR.ptr (w:=w) (R:=R) (j:=0) (i:=0) l e hl hbd hi
 simpa using this
section
variable{R:Cells}{v:Value}{O:Cells}
theorem AR.inv_int{k:IntKind}{n:Int}(h:AR w R loc (.int k n) v O):v=.int k n:=by cases h with|sc h _=>exact h.1
theorem AR.fits{k:IntKind}{n:Int}(h:AR w R loc (.int k n) v O):fitsK k n=true:=by cases h with|sc h _=>exact h.2
theorem AR.inv_bool{b:Bool}(h:AR w R loc (.bool b) v O):v=.bool b:=by cases h with|sc h _=>exact h
theorem AR.inv_str{s:List UInt8}(h:AR w R loc (.str s) v O):v=.string ⟨s.toArray⟩:=by cases h with|sc h _=>exact h.1
theorem AR.str_len{s:List UInt8}(h:AR w R loc (.str s) v O):s.length≤maxLn:=by cases h with|sc h _=>exact h.2
theorem AR.inv_emp(h:AR w R loc .emp v O): ∃a,v=.slice a 0 0:=by cases h with|sc h _=>exact h
theorem AR.inv_ptr{b i j:Nat}(h:AR w R loc (.ptr b i j) v O): ∃l,loc b=some l∧l.bound=true∧i<l.n∧v=.pointer (some ⟨l.g,l.base+i*l.s+j,none⟩):=by
 cases h with
 |sc h _=>exact h.elim
 |ptr l e hl hbd hi=>exact⟨l,hl,hbd,hi,rfl⟩
theorem AR.inv_rp{row:List AV}{j:Nat}(h:AR w R loc (.rp row j) v O): ∃(vs:Nat→Value)(g o:Nat),g<w.heap.size∧(∀x∈row,x.isUndef=false)∧
  (∀k,k<row.length→w.cell? ⟨g,o+k,none⟩=some (vs k)∧R g (o+k))∧(∀(k:Nat) x,row[k]? =some x→AR w R noLoc x (vs k) none2)∧v=.pointer (some ⟨g,o+j,none⟩):=by
 cases h with
 |sc h _=>exact h.elim
 |rp vs e hg hk hc hx=>exact⟨vs,_,_,hg,hk,hc,hx,rfl⟩
theorem AR.inv_ref{b off len:Nat}(h:AR w R loc (.ref b off len) v O): ∃l,loc b=some l∧off+len≤l.n∧ ∃ad cap,v=.slice ad len cap∧len≤cap∧
  ((len=0∧cap=0)∨(l.bound=true∧ad=some ⟨l.g,l.base+off*l.s,none⟩∧BF w l.g (l.base+(off+cap)*l.s))):=by
 cases h with
 |sc h _=>exact h.elim
 |ref0 l e hl hn=>exact⟨l,hl,by omega,_,0,rfl,Nat.le_refl _,.inl ⟨rfl,rfl⟩⟩
 |ref l e hl hbd hn hcap hb hm=>exact⟨l,hl,hn,_,_,rfl,hcap,.inr ⟨hbd,rfl,hb⟩⟩
theorem AR.ref_len{b off len:Nat}(h:AR w R loc (.ref b off len) v O):len≤maxLn:=by
 cases h with
 |sc h _=>exact h.elim
 |ref0 l e hl hn=>exact Nat.zero_le _
 |ref l e hl hbd hn hcap hb hm=>exact hm
theorem AR.ro_len{z:List AV}{rows:List (List AV)}(h:AR w R loc (.ro z rows) v O):rows.length≤maxLn:=by
 cases h with
 |sc h _=>exact h.elim
 |ro0 e=>exact Nat.zero_le _
 |ro vs e hl hcap hg hw hc hx hp hm=>exact hm
theorem AR.inv_ro{z:List AV}{rows:List (List AV)}(h:AR w R loc (.ro z rows) v O): ∃ad cap,v=.slice ad rows.length cap∧rows.length≤cap∧
  (rows=[]∨ ∃(g o:Nat)(vs:Nat→Nat→Value),0<rows.length∧ad=some ⟨g,o,none⟩∧g<w.heap.size∧Wide z rows∧
   (∀i j,i<rows.length→j<z.length→w.cell? ⟨g,o+i*z.length+j,none⟩=some (vs i j)∧R g (o+i*z.length+j))∧
   (∀i j row x,rows[i]? =some row→row[j]? =some x→AR w R noLoc x (vs i j) none2)∧(∀row∈rows,∀x∈row,x.plain=true)):=by
 cases h with
 |sc h _=>exact h.elim
 |ro0 e=>exact⟨_,_,rfl,Nat.zero_le _,.inl rfl⟩
 | @ro _ _ _ g o cap _ vs e hl hcap hg hw hc hx hp hm=>exact⟨_,cap,rfl,hcap,.inr ⟨g,o,vs,hl,rfl,hg,hw,hc,hx,hp⟩⟩
theorem AR.inv_agg{cs:List AV}(h:AR w R loc (.agg cs) v none2): ∃vs:Array Value,v=.agg vs∧vs.size=cs.length∧ ∀(k:Nat) x c,cs[k]? =some x→vs[k]? =some c→AR w R loc x c none2:=by
 cases h with
 |sc h _=>exact h.elim
 |agg os hn hx hu=>exact⟨_,rfl,hn,fun k x c h1 h2=>(hx k x c h1 h2).emp_weak (fun g o ho=>(hu.iff g o).2 ⟨k,(List.getElem?_eq_some_iff.1 h1).1,ho⟩) emp_none2⟩
end
theorem RelC.newVar(h:RelC E st a w X loc ob){d:Nat}(hd:st.m d=.abs){cs:List AV}{cells:List Value}(e:TypeId)(hlen:cells.length=cs.length)
  (hx: ∀(k:Nat) y c,cs[k]? =some y→cells[k]? =some c→AR w (RS E w (Owned ob X)) loc y c none2):
  let w':=World.push w (.cells cells.toArray e)
  let loc':=upd loc d (some ⟨w.heap.size,0,cs.length,1,true⟩)
  ∃ob',RelC E (st.mws [(d,.live ⟨false,0,cs,[cs]⟩)]) a w' X loc' ob'∧(∀g o,RS E w (Owned ob X) g o→RS E w' (Owned ob' X) g o)∧
   AR w' (RS E w' (Owned ob' X)) loc' (.ptr d 0 0) (.pointer (some ⟨w.heap.size,0,none⟩)) none2:=by
 intro w' loc'
 have had:=h.ab d hd
 let Od:Cells:=fun g o=> ∃(k:Nat)(x:AV),cs[k]? =some x∧x.isUndef=false∧g=w.heap.size∧o=k
 let ob':Nat→Cells:=upd ob d Od
 have hF:Frame w w' none2:=Frame.push w _ none2
 have hloc: ∀b l,loc b=some l→loc' b=some l:=fun b l hl=>by
  have hne:b≠d:=fun e=>by rw[e,had.1]at hl;cases hl
  simp[loc',upd,hne,hl]
 have hD: ∀g o,Owned ob' X g o→(Owned ob X g o∨w.heap.size≤g)∧g<w'.heap.size:=by
  intro g o k
  have hs:w'.heap.size=w.heap.size+1:=by simp[w',World.push]
  rcases k with⟨b,k⟩|k
  ·by_cases hb:b=d
   ·subst hb
    simp only[ob',upd,if_true]at k
    obtain⟨k,x,_,_,rfl,_⟩:=k
    exact⟨.inr (Nat.le_refl _),by omega⟩
   ·simp only[ob',upd,hb,if_false]at k
    have:=h.lt g o (.inl ⟨b,k⟩)
    exact⟨.inl (.inl ⟨b,k⟩),by omega⟩
  ·have:=h.lt g o (.inr k)
   exact⟨.inl (.inr k),by omega⟩
 have hRS: ∀g o,RS E w (Owned ob X) g o→RS E w' (Owned ob' X) g o:=RS.sub hF.size fun g o k=>(hD g o k).1
 have hcell: ∀(k:Nat) c,cells[k]? =some c→w'.cell? ⟨w.heap.size,0+k,none⟩=some c:=by
  intro k c hc
  simp only[World.cell?,w',push_new]
  simp[hc]
 have hbf:BF w' w.heap.size (0+cs.length):=⟨cells.toArray,e,(0,0),push_new,by simp[hlen],fun i hi h=>by simp at h,Nat.le_refl _⟩
 have hnd: ∀o,¬Owned ob X w.heap.size o:=fun o k=>by have:=h.lt _ _ k;omega
 refine⟨ob',h.go none2 rfl rfl hF hD (fun _ _ k=>k.elim) hloc (fun b=> ?_) (fun b b' hne=> ?_) (fun b=> ?_),hRS,AR.ptr00 ⟨w.heap.size,0,cs.length,1,true⟩ emp_none2 (by simp[loc',upd]) rfl (Nat.lt_succ_self 0)⟩
 ·by_cases hb:b=d
  ·subst hb
   right
   simp only[St.mws,upd,if_true,BF1,ob']
   refine .var ⟨w.heap.size,0,cs.length,1,true⟩ (fun k=>cells.getD k undef) (fun _=>none2) (by simp[loc',upd]) rfl rfl rfl rfl hbf (fun k x hx _=> ?_) (fun k x hk _=> ?_) (fun g o=> ?_) (fun _ _ _ _ _ _ _ _ k=>k.elim) (fun _ _ _ _ _ _ _ _ _ _ _ k=>k.elim)
   ·have hk:k<cells.length:=by rw[hlen];exact(List.getElem?_eq_some_iff.1 hx).1
    rw[hcell k cells[k] (by simp[hk])]
    simp[hk]
   ·have hk':k<cells.length:=by rw[hlen];exact(List.getElem?_eq_some_iff.1 hk).1
    have:=hx k x cells[k] hk (by simp[hk'])
    have e:cells.getD k undef=cells[k]:=by simp[hk']
    rw[e]
    exact this.keep (hF.keeps (S:=fun g _=>g<w.heap.size) fun g o k=>⟨k,fun h=>h.elim⟩) (fun g o k=>⟨k.2.1,hRS g o k⟩) (fun _ _ k=>k.elim) hloc
   ·constructor
    ·rintro ⟨k,x,h1,h2,rfl,rfl⟩;exact⟨o,x,h1,h2,.inl ⟨rfl,by simp⟩⟩
    ·rintro ⟨k,x,h1,h2,⟨rfl,ho⟩|k⟩
     ·exact⟨k,x,h1,h2,rfl,by simpa using ho⟩
     ·exact k.elim
  ·left
   refine⟨by simp[St.mws,upd,hb],by simp[ob',upd,hb],by simp[loc',upd,hb],fun _ _ k=>k.elim⟩
 ·intro g o k1 k2
  by_cases hb:b=d
  ·subst hb
   have hb': ¬b'=b:=fun e=>hne e.symm
   simp only[ob',upd,if_true,hb',if_false]at k1 k2
   obtain⟨k,x,_,_,rfl,_⟩:=k1
   exact hnd o (.inl ⟨b',k2⟩)
  ·simp only[ob',upd,hb,if_false]at k1 k2
   by_cases hb':b'=d
   ·subst hb'
    simp only[if_true]at k2
    obtain⟨k,x,_,_,rfl,_⟩:=k2
    exact hnd o (.inl ⟨b,k1⟩)
   ·simp only[hb',if_false]at k2
    exact h.db b b' hne g o k1 k2
 ·intro g o k1 k2
  by_cases hb:b=d
  ·subst hb
   simp only[ob',upd,if_true]at k1
   obtain⟨k,x,_,_,rfl,_⟩:=k1
   exact hnd o (.inr k2)
  ·simp only[ob',upd,hb,if_false]at k1
   exact h.dx b g o k1 k2
theorem RelC.world(h:RelC E st a w X loc ob){w':World}(hF:Frame w w' none2):RelC E st a w' X loc ob∧ ∀g o,RS E w (Owned ob X) g o→RS E w' (Owned ob X) g o:=by
 have hD: ∀g o,Owned ob X g o→(Owned ob X g o∨w.heap.size≤g)∧g<w'.heap.size:=fun g o k=>⟨.inl k,Nat.lt_of_lt_of_le (h.lt g o k) hF.size⟩
 exact⟨h.go none2 rfl rfl hF hD (fun _ _ k=>k.elim) (fun _ _ k=>k) (fun b=>.inl ⟨rfl,rfl,rfl,fun _ _ k=>k.elim⟩) h.db h.dx,RS.sub hF.size fun g o k=>(hD g o k).1⟩
theorem AR.over{E:Env}{w w':World}{ow ow' Wt:Cells}{loc loc':Locs}{x:AV}{v:Value}(h:AR w (RS E w ow) loc x v none2)(hF:Frame w w' Wt)(hW: ∀g o,Wt g o→ow g o)
  (hD: ∀g o,ow' g o→ow g o∨w.heap.size≤g)(hloc: ∀b l,loc b=some l→loc' b=some l):AR w' (RS E w' ow') loc' x v none2:=
 h.keep (hF.keeps (S:=fun g o=>g<w.heap.size∧ ¬Wt g o) fun g o k=>k) (fun g o k=>⟨⟨k.2.1,fun hw=>k.2.2 (hW g o hw)⟩,RS.sub hF.size hD g o k⟩) (fun _ _ k=>k.elim) hloc
theorem RelC.newArr(h:RelC E st a w X loc ob){d:Nat}(hd:st.m d=.abs){lvl:Nat}{z:List AV}{rows:List (List AV)}(cells:Array Value)(e:TypeId)(fz:Nat × Nat)
  (hfz: ∀i,i<cells.size→ ¬(fz.1≤i∧i<fz.2))(hw:Wide z rows)(hsz:rows.length*z.length≤cells.size)
  (hx: ∀i j row x,rows[i]? =some row→row[j]? =some x→AR w (RS E w (Owned ob X)) noLoc x (cells.getD (i*z.length+j) undef) none2)
  (h0:lvl=0→ ∀row∈rows,∀x∈row,x.flat=true)(h1:lvl≤1→ ∀row∈rows,∀x∈row,x.plain=true)(hmx:rows.length≤maxLn)(hle:fz.1≤fz.2:=by first|exact Nat.le_refl _|exact Nat.le_succ _):
  let w':=World.push w (.cells cells e fz)
  let loc':=upd loc d (some ⟨w.heap.size,0,z.length,rows.length,true⟩)
  ∃ob',RelC E (st.mws [(d,.live ⟨true,lvl,z,rows⟩)]) a w' X loc' ob'∧(∀g o,RS E w (Owned ob X) g o→RS E w' (Owned ob' X) g o)∧
   ∀n cap,n=rows.length→n≤cap→cap*z.length≤cells.size→AR w' (RS E w' (Owned ob' X)) loc' (.ref d 0 n) (.slice (some ⟨w.heap.size,0,none⟩) n cap) none2:=by
 intro w' loc'
 have had:=h.ab d hd
 let Od:Cells:=fun g o=>g=w.heap.size
 let ob':Nat→Cells:=upd ob d Od
 have hF:Frame w w' none2:=Frame.push w _ none2
 have hloc: ∀b l,loc b=some l→loc' b=some l:=fun b l hl=>by
  have hne:b≠d:=fun e=>by rw[e,had.1]at hl;cases hl
  simp[loc',upd,hne,hl]
 have hD: ∀g o,Owned ob' X g o→(Owned ob X g o∨w.heap.size≤g)∧g<w'.heap.size:=by
  intro g o k
  have hs:w'.heap.size=w.heap.size+1:=by simp[w',World.push]
  rcases k with⟨b,k⟩|k
  ·by_cases hb:b=d
   ·subst hb
    simp only[ob',upd,if_true,Od]at k
    exact⟨.inr (by omega),by omega⟩
   ·simp only[ob',upd,hb,if_false]at k
    have:=h.lt g o (.inl ⟨b,k⟩)
    exact⟨.inl (.inl ⟨b,k⟩),by omega⟩
  ·have:=h.lt g o (.inr k)
   exact⟨.inl (.inr k),by omega⟩
 have hRS: ∀g o,RS E w (Owned ob X) g o→RS E w' (Owned ob' X) g o:=RS.sub hF.size fun g o k=>(hD g o k).1
 have hcell: ∀k,k<cells.size→w'.cell? ⟨w.heap.size,0+k,none⟩=some (cells.getD k undef):=by
  intro k hc
  simp only[World.cell?,w',push_new]
  simp[hc]
 have hbf: ∀n,n≤cells.size→BF w' w.heap.size (0+n):=fun n hn=>⟨cells,e,fz,push_new,by simpa using hn,hfz,hle⟩
 have hnd: ∀o,¬Owned ob X w.heap.size o:=fun o k=>by have:=h.lt _ _ k;omega
 refine⟨ob',h.go none2 rfl rfl hF hD (fun _ _ k=>k.elim) hloc (fun b=> ?_) (fun b b' hne=> ?_) (fun b=> ?_),hRS,fun n cap hn hcap hc=> ?_⟩
 ·by_cases hb:b=d
  ·subst hb
   right
   simp only[St.mws,upd,if_true,BF1,ob']
   refine .arr ⟨w.heap.size,0,z.length,rows.length,true⟩ (fun i j=>cells.getD (i*z.length+j) undef) (fun _ _=>none2) (by simp[loc',upd]) rfl rfl rfl (hbf _ hsz) hw (fun i j hi hj=> ?_) (fun i j row x h2 h3=> ?_) (fun g o=> ?_) (fun _ _ _ _ _ k=>k.elim) (fun _ _ _ _ _ _ _ _ _ _ _ k=>k.elim) h0 h1 hmx
   ·have:i*z.length+j<cells.size:=by
     have:(i+1)*z.length≤rows.length*z.length:=Nat.mul_le_mul_right _ hi
     rw[Nat.add_mul,Nat.one_mul]at this
     omega
    have hc:=hcell _ this
    rw[←Nat.add_assoc]at hc
    exact hc
   ·exact(hx i j row x h2 h3).over hF (fun _ _ k=>k.elim) (fun g o k=>(hD g o k).1) (fun _ _ k=>k)
   ·constructor
    ·intro k;exact .inl k
    ·rintro (k|⟨_,_,_,_,k⟩)
     ·exact k
     ·exact k.elim
  ·left
   refine⟨by simp[St.mws,upd,hb],by simp[ob',upd,hb],by simp[loc',upd,hb],fun _ _ k=>k.elim⟩
 ·intro g o k1 k2
  by_cases hb:b=d
  ·subst hb
   have hb': ¬b'=b:=fun e=>hne e.symm
   simp only[ob',upd,if_true,hb',if_false,Od]at k1 k2
   subst k1
   exact hnd o (.inl ⟨b',k2⟩)
  ·simp only[ob',upd,hb,if_false]at k1 k2
   by_cases hb':b'=d
   ·subst hb'
    simp only[if_true,Od]at k2
    subst k2
    exact hnd o (.inl ⟨b,k1⟩)
   ·simp only[hb',if_false]at k2
    exact h.db b b' hne g o k1 k2
 ·intro g o k1 k2
  by_cases hb:b=d
  ·subst hb
   simp only[ob',upd,if_true,Od]at k1
   subst k1
   exact hnd o (.inr k2)
  ·simp only[ob',upd,hb,if_false]at k1
   exact h.dx b g o k1 k2
 ·subst hn
  have:=AR.ref (w:=w') (R:=RS E w' (Owned ob' X)) (loc:=loc') (b:=d) (off:=0) (len:=rows.length) (cap:=cap) (O:=none2) ⟨w.heap.size,0,z.length,rows.length,true⟩ emp_none2 (by simp[loc',upd]) rfl (by simp) hcap
   (by have:=hbf _ hc;simpa using this) hmx
  simpa using this
end
end Go.Abs
