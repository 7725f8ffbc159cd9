/- The abstract layer, 2: what an abstract value says of a value in a world; what survives a change of the world. -/
import Derived.Test.YtiadohfbemjfkaaDoorAbsA
set_option linter.unusedVariables false
set_option linter.unusedSimpArgs false
noncomputable section
namespace Go.Abs
open Go
abbrev Cells:=Nat→Nat→Prop
def Emp(O:Cells):Prop:= ∀g o,¬O g o
def Disj(O O':Cells):Prop:= ∀g o,O g o→O' g o→False
def none2:Cells:=fun _ _=>False
theorem emp_none2:Emp none2:=fun _ _ h=>h
theorem Disj.symm{O O':Cells}(h:Disj O O'):Disj O' O:=fun g o a b=>h g o b a
theorem Emp.disj{O O':Cells}(h:Emp O):Disj O O':=fun g o a _=>h g o a
theorem Emp.disj' {O O':Cells}(h:Emp O'):Disj O O':=fun g o _ a=>h g o a
def BF(w:World)(g n:Nat):Prop:= ∃c e fz,w.heap[g]? =some (.cells c e fz)∧n≤c.size∧(∀i,i<c.size→ ¬(fz.1≤i∧i<fz.2))∧fz.1≤fz.2
theorem BF.lt{w:World}{g n:Nat}(h:BF w g n):g<w.heap.size:=by
 obtain⟨c,e,fz,h,_⟩:=h
 exact(Array.getElem?_eq_some_iff.1 h).1
theorem BF.mono{w:World}{g n n':Nat}(h:BF w g n)(hn:n'≤n):BF w g n':=by
 obtain⟨c,e,fz,h,h1,h2⟩:=h
 exact⟨c,e,fz,h,Nat.le_trans hn h1,h2⟩
structure Loc where
 g:Nat
 base:Nat
 s:Nat
 n:Nat
 bound:Bool
abbrev Locs:=Nat→Option Loc
def noLoc:Locs:=fun _=>none
def SR:AV→Value→Prop
 | .undef,_=>True
 | .int k n,v=>v=.int k n∧fitsK k n=true
 | .bool b,v=>v=.bool b
 | .str s,v=>v=.string ⟨s.toArray⟩∧s.length≤maxLn
 | .nilp,v=>v=.pointer none
 | .nilfn,v=>v=.nilFunc
 | .nili,v=>v=.nilIface
 | .ifc,v=> ∃t p,v=.iface t p
 | .emp,v=> ∃a,v=.slice a 0 0
 |_,_=>False
structure Uni(n:Nat)(os:Nat→Cells)(O:Cells):Prop where
 iff: ∀g o,O g o↔ ∃j,j<n∧os j g o
 dis: ∀j k,j<n→k<n→j≠k→Disj (os j) (os k)
structure Wide(z:List AV)(rows:List (List AV)):Prop where
 len: ∀row∈rows,row.length=z.length
 known: ∀row∈rows,∀x∈row,x.isUndef=false
inductive AR(w:World)(R:Cells):Locs→AV→Value→Cells→Prop where
 |sc {loc x v O} (h:SR x v) (e:Emp O):AR w R loc x v O
 |ro0 {loc z a cap O} (e:Emp O):AR w R loc (.ro z []) (.slice a 0 cap) O
 |ro {loc z rows g o cap O} (vs:Nat→Nat→Value) (e:Emp O) (hl:0<rows.length) (hcap:rows.length≤cap) (hg:g<w.heap.size) (hw:Wide z rows)
   (hc: ∀i j,i<rows.length→j<z.length→w.cell? ⟨g,o+i*z.length+j,none⟩=some (vs i j)∧R g (o+i*z.length+j))
   (hx: ∀i j row x,rows[i]? =some row→row[j]? =some x→AR w R noLoc x (vs i j) none2) (hp: ∀row∈rows,∀x∈row,x.plain=true) (hm:rows.length≤maxLn):
   AR w R loc (.ro z rows) (.slice (some ⟨g,o,none⟩) rows.length cap) O
 |own0 {loc lvl z a O} (e:Emp O):AR w R loc (.own lvl z []) (.slice a 0 0) O
 |own {loc lvl z rows g o cap O} (vs:Nat→Nat→Value) (os:Nat→Nat→Cells) (hcap:rows.length≤cap) (hb:BF w g (o+cap*z.length)) (hw:Wide z rows)
   (hc: ∀i j,i<rows.length→j<z.length→w.cell? ⟨g,o+i*z.length+j,none⟩=some (vs i j))
   (hx: ∀i j row x,rows[i]? =some row→row[j]? =some x→AR w R noLoc x (vs i j) (os i j))
   (hO: ∀g' o',O g' o'↔g'=g∨ ∃i j,i<rows.length∧j<z.length∧os i j g' o')
   (hd: ∀i j,i<rows.length→j<z.length→ ∀o',¬os i j g o')
   (hdd: ∀i j i' j',i<rows.length→j<z.length→i'<rows.length→j'<z.length→(i,j)≠(i',j')→Disj (os i j) (os i' j'))
   (h0:lvl=0→ ∀row∈rows,∀x∈row,x.flat=true)
   (h1:lvl≤1→ ∀row∈rows,∀x∈row,x.plain=true) (hm:rows.length≤maxLn):
   AR w R loc (.own lvl z rows) (.slice (some ⟨g,o,none⟩) rows.length cap) O
 |ref0 {loc b off a O} (l:Loc) (e:Emp O) (hl:loc b=some l) (hn:off≤l.n):AR w R loc (.ref b off 0) (.slice a 0 0) O
 |ref {loc b off len cap O} (l:Loc) (e:Emp O) (hl:loc b=some l) (hbd:l.bound=true) (hn:off+len≤l.n) (hcap:len≤cap) (hb:BF w l.g (l.base+(off+cap)*l.s)) (hm:len≤maxLn):
   AR w R loc (.ref b off len) (.slice (some ⟨l.g,l.base+off*l.s,none⟩) len cap) O
 |ptr {loc b i j O} (l:Loc) (e:Emp O) (hl:loc b=some l) (hbd:l.bound=true) (hi:i<l.n):AR w R loc (.ptr b i j) (.pointer (some ⟨l.g,l.base+i*l.s+j,none⟩)) O
 |rp {loc row j g o O} (vs:Nat→Value) (e:Emp O) (hg:g<w.heap.size) (hk: ∀x∈row,x.isUndef=false)
   (hc: ∀k,k<row.length→w.cell? ⟨g,o+k,none⟩=some (vs k)∧R g (o+k))
   (hx: ∀k x,row[k]? =some x→AR w R noLoc x (vs k) none2):
   AR w R loc (.rp row j) (.pointer (some ⟨g,o+j,none⟩)) O
 |fn {loc f caps vs O} (os:Nat→Cells) (hn:vs.size=caps.length) (hx: ∀k x v,caps[k]? =some x→vs[k]? =some v→AR w R loc x v (os k)) (hu:Uni caps.length os O):
   AR w R loc (.fn f caps) (.func (.func f) #[] vs) O
 |obj {loc cells g o O} (vs:Nat→Value) (os:Nat→Cells) (hb:BF w g (o+cells.length)) (hk: ∀x∈cells,x.isUndef=false)
   (hc: ∀k,k<cells.length→w.cell? ⟨g,o+k,none⟩=some (vs k))
   (hx: ∀k x,cells[k]? =some x→AR w R loc x (vs k) (os k))
   (hO: ∀g' o',O g' o'↔(g'=g∧o≤o'∧o'<o+cells.length)∨ ∃k,k<cells.length∧os k g' o')
   (hd: ∀k,k<cells.length→ ∀o',o≤o'→o'<o+cells.length→ ¬os k g o')
   (hdd: ∀k k',k<cells.length→k'<cells.length→k≠k'→Disj (os k) (os k')):
   AR w R loc (.obj cells) (.pointer (some ⟨g,o,none⟩)) O
 |agg {loc cs vs O} (os:Nat→Cells) (hn:vs.size=cs.length) (hx: ∀k x v,cs[k]? =some x→vs[k]? =some v→AR w R loc x v (os k)) (hu:Uni cs.length os O):
   AR w R loc (.agg cs) (.agg vs) O
 |tup {loc cs vs O} (os:Nat→Cells) (hn:vs.size=cs.length) (hx: ∀k x v,cs[k]? =some x→vs[k]? =some v→AR w R loc x v (os k)) (hu:Uni cs.length os O):
   AR w R loc (.tup cs) (.tuple vs) O
structure Keeps(w w':World)(S:Cells):Prop where
 size:w.heap.size≤w'.heap.size
 bf: ∀g n,BF w g n→BF w' g n
 cell: ∀g o,S g o→w'.cell? ⟨g,o,none⟩=w.cell? ⟨g,o,none⟩
theorem Keeps.refl(w:World)(S:Cells):Keeps w w S:=⟨Nat.le_refl _,fun _ _ h=>h,fun _ _ _=>rfl⟩
theorem Keeps.sub{w w':World}{S S':Cells}(h:Keeps w w' S)(hs: ∀g o,S' g o→S g o):Keeps w w' S':=⟨h.size,h.bf,fun g o k=>h.cell g o (hs g o k)⟩
theorem Keeps.trans{w w' w'':World}{S:Cells}(h:Keeps w w' S)(k:Keeps w' w'' S):Keeps w w'' S:=
 ⟨Nat.le_trans h.size k.size,fun g n hb=>k.bf g n (h.bf g n hb),fun g o hs=>(k.cell g o hs).trans (h.cell g o hs)⟩
theorem AR.keep{w w':World}{R:Cells}{loc:Locs}{x:AV}{v:Value}{O:Cells}(h:AR w R loc x v O):
  ∀{S R':Cells}{loc':Locs},Keeps w w' S→(∀g o,R g o→S g o∧R' g o)→(∀g o,O g o→S g o)→(∀b l,loc b=some l→loc' b=some l)→
  AR w' R' loc' x v O:=by
 induction h with
 |sc h e=>intros;exact .sc h e
 |ro0 e=>intros;exact .ro0 e
 | @ro loc z rows g o cap O vs e hl hcap hg hw hc hx hp hm ih=>
  intro S R' loc' K hR hO hloc
  refine .ro vs e hl hcap (Nat.lt_of_lt_of_le hg K.size) hw (fun i j hi hj=> ?_) (fun i j row x h1 h2=>ih i j row x h1 h2 K hR (fun _ _ h=>h.elim) (fun _ _ h=>h)) hp hm
  obtain⟨h1,h2⟩:=hc i j hi hj
  exact⟨(K.cell _ _ (hR _ _ h2).1).trans h1,(hR _ _ h2).2⟩
 |own0 e=>intros;exact .own0 e
 | @own loc lvl z rows g o cap O vs os hcap hb hw hc hx hO hd hdd h0 h1 hm ih=>
  intro S R' loc' K hR hOS hloc
  refine .own vs os hcap (K.bf _ _ hb) hw (fun i j hi hj=>(K.cell _ _ (hOS _ _ ((hO _ _).2 (.inl rfl)))).trans (hc i j hi hj)) (fun i j row x h1 h2=> ?_) hO hd hdd h0 h1 hm
  have hi:i<rows.length:=(List.getElem?_eq_some_iff.1 h1).1
  have hj:j<z.length:=by
   have:=(List.getElem?_eq_some_iff.1 h2).1
   rw[hw.len row (List.mem_of_getElem? h1)]at this
   exact this
  exact ih i j row x h1 h2 K hR (fun g' o' ho=>hOS _ _ ((hO _ _).2 (.inr ⟨i,j,hi,hj,ho⟩))) (fun _ _ h=>h)
 |ref0 l e hl hn=>intro S R' loc' K hR hO hloc;exact .ref0 l e (hloc _ _ hl) hn
 |ref l e hl hbd hn hcap hb hm=>intro S R' loc' K hR hO hloc;exact .ref l e (hloc _ _ hl) hbd hn hcap (K.bf _ _ hb) hm
 |ptr l e hl hbd hi=>intro S R' loc' K hR hO hloc;exact .ptr l e (hloc _ _ hl) hbd hi
 | @rp loc row j g o O vs e hg hk hc hx ih=>
  intro S R' loc' K hR hO hloc
  refine .rp vs e (Nat.lt_of_lt_of_le hg K.size) hk (fun k hk=> ?_) (fun k x h1=>ih k x h1 K hR (fun _ _ h=>h.elim) (fun _ _ h=>h))
  obtain⟨h1,h2⟩:=hc k hk
  exact⟨(K.cell _ _ (hR _ _ h2).1).trans h1,(hR _ _ h2).2⟩
 | @fn loc f caps vs O os hn hx hu ih=>
  intro S R' loc' K hR hO hloc
  exact .fn os hn (fun k x v h1 h2=>ih k x v h1 h2 K hR (fun g o ho=>hO _ _ ((hu.iff _ _).2 ⟨k,(List.getElem?_eq_some_iff.1 h1).1,ho⟩)) hloc) hu
 | @obj loc cells g o O vs os hb hk hc hx hO hd hdd ih=>
  intro S R' loc' K hR hOS hloc
  refine .obj vs os (K.bf _ _ hb) hk (fun k hk=>(K.cell _ _ (hOS _ _ ((hO _ _).2 (.inl ⟨rfl,by omega,by omega⟩)))).trans (hc k hk)) (fun k x h1=> ?_) hO hd hdd
  exact ih k x h1 K hR (fun g' o' ho=>hOS _ _ ((hO _ _).2 (.inr ⟨k,(List.getElem?_eq_some_iff.1 h1).1,ho⟩))) hloc
 | @agg loc cs vs O os hn hx hu ih=>
  intro S R' loc' K hR hO hloc
  exact .agg os hn (fun k x v h1 h2=>ih k x v h1 h2 K hR (fun g o ho=>hO _ _ ((hu.iff _ _).2 ⟨k,(List.getElem?_eq_some_iff.1 h1).1,ho⟩)) hloc) hu
 | @tup loc cs vs O os hn hx hu ih=>
  intro S R' loc' K hR hO hloc
  exact .tup os hn (fun k x v h1 h2=>ih k x v h1 h2 K hR (fun g o ho=>hO _ _ ((hu.iff _ _).2 ⟨k,(List.getElem?_eq_some_iff.1 h1).1,ho⟩)) hloc) hu
theorem AR.weak{w:World}{R R':Cells}{loc loc':Locs}{x:AV}{v:Value}{O:Cells}(h:AR w R loc x v O)(hR: ∀g o,R g o→R' g o)
  (hl: ∀b l,loc b=some l→loc' b=some l):AR w R' loc' x v O:=
 h.keep (S:=fun _ _=>True) (Keeps.refl _ _) (fun g o k=>⟨trivial,hR g o k⟩) (fun _ _ _=>trivial) hl
inductive BR(w:World)(R:Cells)(loc:Locs)(b:Nat):Blk→Cells→Prop where
 |arr0 {lvl z O} (l:Loc) (hl:loc b=some l) (hn:l.n=0) (hs:l.s=z.length) (hbd:l.bound=false) (e:Emp O):BR w R loc b ⟨true,lvl,z,[]⟩ O
 |arr {lvl z rows O} (l:Loc) (vs:Nat→Nat→Value) (os:Nat→Nat→Cells) (hl:loc b=some l) (hbd:l.bound=true) (hs:l.s=z.length) (hn:l.n=rows.length)
   (hb:BF w l.g (l.base+rows.length*z.length)) (hw:Wide z rows)
   (hc: ∀i j,i<rows.length→j<z.length→w.cell? ⟨l.g,l.base+i*z.length+j,none⟩=some (vs i j))
   (hx: ∀i j row x,rows[i]? =some row→row[j]? =some x→AR w R noLoc x (vs i j) (os i j))
   (hO: ∀g' o',O g' o'↔g'=l.g∨ ∃i j,i<rows.length∧j<z.length∧os i j g' o')
   (hd: ∀i j,i<rows.length→j<z.length→ ∀o',¬os i j l.g o')
   (hdd: ∀i j i' j',i<rows.length→j<z.length→i'<rows.length→j'<z.length→(i,j)≠(i',j')→Disj (os i j) (os i' j'))
   (h0:lvl=0→ ∀row∈rows,∀x∈row,x.flat=true)
   (h1:lvl≤1→ ∀row∈rows,∀x∈row,x.plain=true) (hm:rows.length≤maxLn):
   BR w R loc b ⟨true,lvl,z,rows⟩ O
 |var {lvl z row O} (l:Loc) (vs:Nat→Value) (os:Nat→Cells) (hl:loc b=some l) (hbd:l.bound=true) (hs:l.s=z.length) (hn:l.n=1) (hz:row.length=z.length)
   (hb:BF w l.g (l.base+z.length))
   (hc: ∀k x,row[k]? =some x→x.isUndef=false→w.cell? ⟨l.g,l.base+k,none⟩=some (vs k))
   (hx: ∀k x,row[k]? =some x→x.isUndef=false→AR w R loc x (vs k) (os k))
   (hO: ∀g' o',O g' o'↔ ∃k x,row[k]? =some x∧x.isUndef=false∧((g'=l.g∧o'=l.base+k)∨os k g' o'))
   (hd: ∀k x k' x',row[k]? =some x→x.isUndef=false→row[k']? =some x'→x'.isUndef=false→ ¬os k l.g (l.base+k'))
   (hdd: ∀k x k' x',row[k]? =some x→x.isUndef=false→row[k']? =some x'→x'.isUndef=false→k≠k'→Disj (os k) (os k')):
   BR w R loc b ⟨false,lvl,z,[row]⟩ O
theorem BR.loc_some{w:World}{R:Cells}{loc:Locs}{b:Nat}{blk:Blk}{O:Cells}(h:BR w R loc b blk O): ∃l,loc b=some l:=by
 cases h<;>exact⟨_, ‹_›⟩
theorem BR.keep{w w':World}{R R' S:Cells}{loc loc':Locs}{b:Nat}{blk:Blk}{O:Cells}(h:BR w R loc b blk O)(K:Keeps w w' S)
  (hR: ∀g o,R g o→S g o∧R' g o)(hOS: ∀g o,O g o→S g o)(hloc: ∀b l,loc b=some l→loc' b=some l):BR w' R' loc' b blk O:=by
 cases h with
 |arr0 l hl hn hs hbd e=>exact .arr0 l (hloc _ _ hl) hn hs hbd e
 | @arr lvl z rows O l vs os hl hbd hs hn hb hw hc hx hO hd hdd h0 h1 hm=>
  refine .arr l vs os (hloc _ _ hl) hbd hs hn (K.bf _ _ hb) hw (fun i j hi hj=>(K.cell _ _ (hOS _ _ ((hO _ _).2 (.inl rfl)))).trans (hc i j hi hj)) (fun i j row x h1 h2=> ?_) hO hd hdd h0 h1 hm
  have hi:i<rows.length:=(List.getElem?_eq_some_iff.1 h1).1
  have hj:j<z.length:=by
   have:=(List.getElem?_eq_some_iff.1 h2).1
   rw[hw.len row (List.mem_of_getElem? h1)]at this
   exact this
  exact(hx i j row x h1 h2).keep K hR (fun g' o' ho=>hOS _ _ ((hO _ _).2 (.inr ⟨i,j,hi,hj,ho⟩))) (fun _ _ h=>h)
 | @var lvl z row O l vs os hl hbd hs hn hz hb hc hx hO hd hdd=>
  refine .var l vs os (hloc _ _ hl) hbd hs hn hz (K.bf _ _ hb) (fun k x h1 h2=>(K.cell _ _ (hOS _ _ ((hO _ _).2 ⟨k,x,h1,h2,.inl ⟨rfl,rfl⟩⟩))).trans (hc k x h1 h2)) (fun k x h1 h2=> ?_) hO hd hdd
  exact(hx k x h1 h2).keep K hR (fun g' o' ho=>hOS _ _ ((hO _ _).2 ⟨k,x,h1,h2,.inr ho⟩)) hloc
structure Frame(w w':World)(O:Cells):Prop where
 size:w.heap.size≤w'.heap.size
 bf: ∀g n,BF w g n→BF w' g n
 cell: ∀g o,g<w.heap.size→ ¬O g o→w'.cell? ⟨g,o,none⟩=w.cell? ⟨g,o,none⟩
 shape: ∀g,g<w.heap.size→w'.shape? g=w.shape? g
 obj: ∀g,g<w.heap.size→w.shape? g=none→w'.heap[g]? =w.heap[g]?
 same: ∀g,g<w.heap.size→(∀o,¬O g o)→w'.heap[g]? =w.heap[g]?
 os:w'.os=w.os
 tape:w'.tape=w.tape
 output:w'.output=w.output
theorem Frame.refl(w:World)(O:Cells):Frame w w O:=⟨Nat.le_refl _,fun _ _ h=>h,fun _ _ _ _=>rfl,fun _ _=>rfl,fun _ _ _=>rfl,fun _ _ _=>rfl,rfl,rfl,rfl⟩
theorem Frame.trans{w w' w'':World}{O O':Cells}(h:Frame w w' O)(k:Frame w' w'' O')(hs: ∀g o,O' g o→O g o∨w.heap.size≤g):Frame w w'' O:=by
 refine⟨Nat.le_trans h.size k.size,fun g n hb=>k.bf g n (h.bf g n hb),fun g o hg ho=> ?_,fun g hg=>(k.shape g (Nat.lt_of_lt_of_le hg h.size)).trans (h.shape g hg),
  fun g hg hn=> ?_,fun g hg hno=> ?_,k.os.trans h.os,k.tape.trans h.tape,k.output.trans h.output⟩
 ·refine(k.cell g o (Nat.lt_of_lt_of_le hg h.size) fun ho'=> ?_).trans (h.cell g o hg ho)
  rcases hs g o ho' with h1|h1
  ·exact ho h1
  ·omega
 ·exact(k.obj g (Nat.lt_of_lt_of_le hg h.size) ((h.shape g hg).trans hn)).trans (h.obj g hg hn)
 ·refine(k.same g (Nat.lt_of_lt_of_le hg h.size) fun o ho=> ?_).trans (h.same g hg hno)
  rcases hs g o ho with h1|h1
  ·exact hno o h1
  ·omega
theorem Frame.weak{w w':World}{O O':Cells}(h:Frame w w' O)(hs: ∀g o,O g o→O' g o):Frame w w' O':=
 ⟨h.size,h.bf,fun g o hg ho=>h.cell g o hg fun k=>ho (hs g o k),h.shape,h.obj,fun g hg hno=>h.same g hg fun o k=>hno o (hs g o k),h.os,h.tape,h.output⟩
theorem Frame.keeps{w w':World}{O S:Cells}(h:Frame w w' O)(hs: ∀g o,S g o→g<w.heap.size∧ ¬O g o):Keeps w w' S:=
 ⟨h.size,h.bf,fun g o k=>h.cell g o (hs g o k).1 (hs g o k).2⟩
structure Env where
 w0:World
 R0:Cells
 O0:Cells
 A:Locs
def Owned(ob:Nat→Cells)(X:Cells):Cells:=fun g o=>(∃b,ob b g o)∨X g o
def RS(E:Env)(w:World)(ow:Cells):Cells:=fun g o=>(E.R0 g o∨E.O0 g o∨E.w0.heap.size≤g)∧g<w.heap.size∧ ¬ow g o
structure RelC(E:Env)(st:St)(a:Act)(w:World)(X:Cells)(loc:Locs)(ob:Nat→Cells):Prop where
 tm: ∀k,AR w (RS E w (Owned ob X)) loc (st.t k) (a.tmps.getD k undef) none2
 sz:st.n=a.tmps.size
 df:a.defers=[]
 ab: ∀b,st.m b=.abs→loc b=none∧Emp (ob b)
 dd: ∀b,st.m b=.dead→(loc b).isSome∧Emp (ob b)
 lv: ∀b blk,st.m b=.live blk→BR w (RS E w (Owned ob X)) loc b blk (ob b)
 db: ∀b b',b≠b'→Disj (ob b) (ob b')
 dx: ∀b,Disj (ob b) X
 lt: ∀g o,Owned ob X g o→g<w.heap.size
 sub: ∀g o,Owned ob X g o→E.O0 g o∨E.w0.heap.size≤g
 fr:Frame E.w0 w E.O0
 an: ∀b∈st.an,loc b=E.A b∧(loc b).isSome=true
def Rel(E:Env)(st:St)(a:Act)(w:World)(X:Cells):Prop:= ∃loc ob,RelC E st a w X loc ob
end Go.Abs
