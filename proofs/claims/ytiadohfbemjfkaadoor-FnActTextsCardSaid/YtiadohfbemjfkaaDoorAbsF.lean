/- The abstract layer, 17: contracts; a call. -/
import Derived.Test.YtiadohfbemjfkaaDoorAbsE
import Derived.Lib.LaidTab
import Derived.Lib.ItoaNum
import Derived.Lib.TrailingZeros
set_option linter.unusedVariables false
set_option linter.unusedSimpArgs false
noncomputable section
namespace Go.Abs
open Go
def AV.hasRef0:AV→Bool
 | .ref _ _ _=>true
 |_=>false
def AV.hasRef:AV→Bool
 | .agg cs=>cs.any AV.hasRef0
 |v=>v.hasRef0
def AV.goes:AV→Bool
 | .undef=>true
 | .rp _ _=>true
 | .fn _ caps=>caps.isEmpty
 |v=>v.plain
def lendLeaf(x:AV):RP AV:=match x with
 | .ref b off n=>.mem b fun m=>(arrB m).bind fun blk=>.req (decide (blk.lvl≤1)) (.ret (match blk with|⟨_,_,z,rows⟩=>.ro z (subA rows off n)))
 |v=>.req v.goes (.ret v)
def lendLeaves:List AV→RP (List AV)
 |[]=>.ret []
 |x::l=>(lendLeaf x).bind fun y=>(lendLeaves l).bind fun ys=>.ret (y::ys)
def lendVal(x:AV):RP AV:=match x with
 | .agg cs=>(lendLeaves cs).bind fun ys=>.ret (.agg ys)
 |v=>lendLeaf v
def lendVals:List AV→RP (List AV)
 |[]=>.ret []
 |x::l=>(lendVal x).bind fun y=>(lendVals l).bind fun ys=>.ret (y::ys)
def Back(w:World)(R O:Cells)(vals:List Value)(os:List AV)(res:AV):Ending→World→Prop
 | .returned v,w'=> ∃O',Frame w w' O∧(∀g o,O' g o→(O g o∨w.heap.size≤g)∧g<w'.heap.size)∧Parts w' (RS ⟨w,R,O,noLoc⟩ w' O') noLoc (res::os) (v::vals) O'
 |_,_=>False
def FnOk(P:Program)(f:FuncId):Prop:= ∃fn,P.funcs[f]? =some fn∧(fn.name== "runtime.NumGoroutine")=false∧fn.body.isNone=false
def tabL:List (String × Array Value):=[("internal/strconv.uint64pow10",(Lib.pow10Tab.map fun z=>Value.int .u64 z).toArray)]
def errL:List String:=["strconv.ErrSyntax", "strconv.ErrRange"]
def Tabs(P:Program)(w:World)(O:Cells):Prop:=(∀x∈tabL,∀g,P.globalNamed x.1=some g→(∃e fz,w.heap[g]? =some (.cells x.2 e fz))∧ ∀o,¬O g o)∧
 ∀x∈errL,∀g,P.globalNamed x=some g→(∃t p e fz,w.heap[g]? =some (.cells #[.iface t p] e fz))∧ ∀o,¬O g o
structure Con(P:Program)(f:FuncId)(as os:List AV)(res:AV):Prop where
 ok:FnOk P f
 calls: ∀(w:World)(R O:Cells)(vals:List Value),Parts w R noLoc as vals O→(∀g o,R g o→g<w.heap.size∧ ¬O g o)→(∀g o,O g o→g<w.heap.size)→Tabs P w O→Calls P f vals.toArray w (Back w R O vals os res)
def undefs(l:List AV):List AV:=l.map fun _=>.undef
section
variable{P:Program}{T:TT}{E:Env}{o:Oper}{st:St}{a:Act}{w:World}{X:Cells}{loc:Locs}{ob:Nat→Cells}{r:Res}
theorem AR.goes_emp{R R':Cells}{loc loc':Locs}{x:AV}{v:Value}{O:Cells}(h:AR w R loc x v O)(hx:x.goes=true)(hR: ∀g o,R g o→R' g o):AR w R' loc' x v O∧Emp O:=by
 cases h with
 |sc h e=>exact⟨.sc h e,e⟩
 |ro0 e=>exact⟨.ro0 e,e⟩
 |ro vs e h1 h2 h3 h4 h5 h6 h7 h8=>exact⟨.ro vs e h1 h2 h3 h4 (fun i j hi hj=>⟨(h5 i j hi hj).1,hR _ _ (h5 i j hi hj).2⟩) (fun i j row x k1 k2=>(h6 i j row x k1 k2).weak hR (fun _ _ k=>k)) h7 h8,e⟩
 |rp vs e h1 h2 h3 h4=>exact⟨.rp vs e h1 h2 (fun k hk=>⟨(h3 k hk).1,hR _ _ (h3 k hk).2⟩) (fun k x k1=>(h4 k x k1).weak hR (fun _ _ k=>k)),e⟩
 | @fn _ f caps vs O os hn hxx hu=>
  have:caps=[]:=by simpa[AV.goes]using hx
  subst this
  exact⟨.fn os hn (fun k x v h1=>by simp at h1) hu,fun g o k=>by obtain⟨j,hj,_⟩:=(hu.iff g o).1 k;simp at hj⟩
 |_=>simp[AV.goes,AV.plain]at hx
theorem ref_cells(h:RelC E st a w X loc ob){b off n:Nat}{v:Value}(hx:AR w (RS E w (Owned ob X)) loc (.ref b off n) v none2){blk:Blk}(hm:st.m b=.live blk)(harr:blk.arr=true)(hl:blk.lvl≤1):
  (n=0∧ ∃ad,v=.slice ad 0 0)∨ ∃(g oo cap:Nat)(vs:Nat→Nat→Value),v=.slice (some ⟨g,oo,none⟩) n cap∧n≤cap∧BF w g (oo+cap*blk.z.length)∧(subA blk.rows off n).length=n∧Wide blk.z (subA blk.rows off n)∧
   (∀g' o',ob b g' o'↔g'=g)∧
   (∀i j,i<n→j<blk.z.length→w.cell? ⟨g,oo+i*blk.z.length+j,none⟩=some (vs i j))∧
   (∀i j row x,(subA blk.rows off n)[i]? =some row→row[j]? =some x→AR w (RS E w (Owned ob X)) noLoc x (vs i j) none2)∧
   (blk.lvl=0→ ∀row∈subA blk.rows off n,∀x∈row,x.flat=true)∧(∀row∈subA blk.rows off n,∀x∈row,x.plain=true):=by
 obtain⟨arr,lvl,z,rows⟩:=blk
 simp only at harr hl
 subst harr
 obtain⟨l,hll,hn,ad,cap,rfl,hcap,hcase⟩:=hx.inv_ref
 have hat:=h.lv b _ hm
 obtain⟨hs,hln⟩:=hat.width hll
 simp only at hs hln
 rcases hcase with⟨rfl,rfl⟩|⟨hbd,rfl,hbf⟩
 ·exact .inl ⟨rfl,ad,rfl⟩
 ·right
  obtain⟨_,_,_,hb,hW,hO,vs,hcc,hcx,hfl,hpl⟩:=hat.plainArr hl (.inr hbd) hll
  have hsl:(subA rows off n).length=n:=by simp[subA];omega
  have hget: ∀i,i<n→(subA rows off n)[i]? =rows[off+i]? :=fun i hi=>by simp[subA,hi]
  have hmem: ∀row∈subA rows off n,row∈rows:=fun row hr=>List.mem_of_mem_drop (List.mem_of_mem_take hr)
  refine⟨l.g,l.base+off*l.s,cap,fun i j=>vs (off+i) j,rfl,hcap,?_,hsl,⟨fun row hr=>hW.len row (hmem row hr),fun row hr=>hW.known row (hmem row hr)⟩,hO,fun i j hi hj=> ?_,fun i j row x h1 h2=> ?_,fun h0 row hr=>hfl h0 row (hmem row hr),fun row hr=>hpl row (hmem row hr)⟩
  ·refine hbf.mono ?_
   simp only
   rw[hs,Nat.add_mul]
   omega
  ·have:=hcc (off+i) j (by omega) hj
   rw[Nat.add_mul,←Nat.add_assoc]at this
   rw[hs]
   exact this
  ·have hi:i<n:=by have:=(List.getElem?_eq_some_iff.1 h1).1;simp only[hsl]at this;exact this
   simp only at h1
   rw[hget i hi]at h1
   exact hcx (off+i) j row x h1 h2
theorem lendLeaf_ok(h:RelC E st a w X loc ob){x y:AV}{v:Value}(hx:AR w (RS E w (Owned ob X)) loc x v none2)(hr:(lendLeaf x).run st=some y){Rc:Cells}(hR: ∀g o,RS E w (Owned ob X) g o→Rc g o)
  (hb:x.hasRef0=true→ ∀b g o,ob b g o→Rc g o):AR w Rc noLoc y v none2:=by
 cases x with
 |ref b off n=>
  have hr:=mem_some hr
  obtain⟨blk,hm,hr⟩:=bind_some hr
  obtain⟨hm,harr⟩:=arrB_some hm
  obtain⟨hq,hr⟩:=req_some hr
  obtain rfl:=ret_some hr
  have hb:=hb rfl
  rcases ref_cells h hx hm harr (of_decide_eq_true hq)with⟨rfl,ad,rfl⟩|⟨g,oo,cap,vs,rfl,hcap,hbf,hsl,hW,hO,hc,hxx,_,hpl⟩
  ·have:subA blk.rows off 0=[]:=by simp[subA]
   show AR w Rc noLoc (.ro blk.z (subA blk.rows off 0)) _ none2
   rw[this]
   exact .ro0 emp_none2
  ·by_cases h0:n=0
   ·subst h0
    have:subA blk.rows off 0=[]:=by simp[subA]
    show AR w Rc noLoc (.ro blk.z (subA blk.rows off 0)) _ none2
    rw[this]
    exact .ro0 emp_none2
   ·have:=AR.ro (w:=w) (R:=Rc) (loc:=noLoc) (z:=blk.z) (rows:=subA blk.rows off n) (g:=g) (o:=oo) (cap:=cap) (O:=none2) vs emp_none2 (by omega) (by omega) hbf.lt hW
     (fun i j hi hj=>⟨hc i j (by omega) hj,hb b _ _ ((hO _ _).2 rfl)⟩) (fun i j row x h1 h2=>(hxx i j row x h1 h2).weak hR (fun _ _ k=>k)) hpl
    rw[hsl]at this
    exact this hx.ref_len
 |_=>
  obtain⟨hq,hr⟩:=req_some hr
  obtain rfl:=ret_some hr
  exact(hx.goes_emp hq hR).1
theorem lendLeaves_ok(h:RelC E st a w X loc ob){Rc:Cells}(hR: ∀g o,RS E w (Owned ob X) g o→Rc g o): ∀(l ys:List AV)(vs:List Value),vs.length=l.length→(lendLeaves l).run st=some ys→
  (∀(k:Nat) x v,l[k]? =some x→vs[k]? =some v→AR w (RS E w (Owned ob X)) loc x v none2)→(l.any AV.hasRef0=true→ ∀b g o,ob b g o→Rc g o)→
  ys.length=l.length∧ ∀(k:Nat) y v,ys[k]? =some y→vs[k]? =some v→AR w Rc noLoc y v none2
 |[],ys,vs,hl,hr,hx,hb=>by
  obtain rfl:=ret_some (st:=st) hr
  exact⟨rfl,fun k y v h1=>by simp at h1⟩
 |x::l,ys,[],hl,_,_,_=>by simp at hl
 |x::l,ys,v::vs,hl,hr,hx,hb=>by
  obtain⟨y,h1,hr⟩:=bind_some hr
  obtain⟨ys',h2,hr⟩:=bind_some hr
  obtain rfl:=ret_some hr
  have hy:=lendLeaf_ok h (hx 0 x v (by simp) (by simp)) h1 hR (fun hh=>hb (by simp[hh]))
  obtain⟨h3,h4⟩:=lendLeaves_ok h hR l ys' vs (by simpa using hl) h2 (fun k y u k1 k2=>hx (k+1) y u (by simpa using k1) (by simpa using k2)) (fun hh=>hb (by simp only[List.any_cons,hh,Bool.or_true]))
  refine⟨by simp[h3],fun k y' u k1 k2=> ?_⟩
  cases k with
  |zero=>
   simp only[List.getElem?_cons_zero,Option.some.injEq]at k1 k2
   subst k1;subst k2
   exact hy
  |succ k=>exact h4 k y' u (by simpa using k1) (by simpa using k2)
theorem uni_none(n:Nat):Uni n (fun _=>none2) none2:=⟨fun g o=>⟨fun k=>k.elim,fun⟨_,_,k⟩=>k.elim⟩,fun _ _ _ _ _ _ _ k=>k.elim⟩
theorem lendVal_ok(h:RelC E st a w X loc ob){x y:AV}{v:Value}(hx:AR w (RS E w (Owned ob X)) loc x v none2)(hr:(lendVal x).run st=some y){Rc:Cells}(hR: ∀g o,RS E w (Owned ob X) g o→Rc g o)
  (hb:x.hasRef=true→ ∀b g o,ob b g o→Rc g o):AR w Rc noLoc y v none2:=by
 cases x with
 |agg cs=>
  obtain⟨ys,h1,hr⟩:=bind_some hr
  obtain rfl:=ret_some hr
  obtain⟨vs,rfl,hvl,hvx⟩:=hx.inv_agg
  obtain⟨h3,h4⟩:=lendLeaves_ok h hR cs ys vs.toList (by simpa using hvl) h1 (fun k x v h5 h6=>hvx k x v h5 (by simpa using h6)) hb
  exact .agg (fun _=>none2) (by omega) (fun k x v h5 h6=>h4 k x v h5 (by simpa using h6)) (uni_none _)
 |_=>exact lendLeaf_ok h hx hr hR hb
theorem lendVals_ok(h:RelC E st a w X loc ob){Rc:Cells}(hR: ∀g o,RS E w (Owned ob X) g o→Rc g o): ∀(l ys:List AV)(vs:List Value),vs.length=l.length→(lendVals l).run st=some ys→
  (∀(k:Nat) x v,l[k]? =some x→vs[k]? =some v→AR w (RS E w (Owned ob X)) loc x v none2)→(l.any AV.hasRef=true→ ∀b g o,ob b g o→Rc g o)→Parts w Rc noLoc ys vs none2
 |[],ys,[],hl,hr,hx,hb=>by
  obtain rfl:=ret_some (st:=st) hr
  exact emp_none2
 |[],ys,_::_,hl,_,_,_=>by simp at hl
 |x::l,ys,[],hl,_,_,_=>by simp at hl
 |x::l,ys,v::vs,hl,hr,hx,hb=>by
  obtain⟨y,h1,hr⟩:=bind_some hr
  obtain⟨ys',h2,hr⟩:=bind_some hr
  obtain rfl:=ret_some hr
  exact⟨none2,none2,fun g o=>by simp[none2],emp_none2.disj,lendVal_ok h (hx 0 x v (by simp) (by simp)) h1 hR (fun hh=>hb (by simp[hh])),
   lendVals_ok h hR l ys' vs (by simpa using hl) h2 (fun k y u k1 k2=>hx (k+1) y u (by simpa using k1) (by simpa using k2)) (fun hh=>hb (by simp only[List.any_cons,hh,Bool.or_true]))⟩
theorem parts_undefs{R:Cells}: ∀(l:List AV)(vs:List Value)(O:Cells),Parts w R loc (undefs l) vs O→Emp O
 |[],[],O,h=>h
 |[],_::_,O,h=>h.elim
 |_::_,[],O,h=>h.elim
 |x::l,v::vs,O,⟨O1,O2,h1,h2,h3,h4⟩=>by
  have e2:=parts_undefs l vs O2 h4
  cases h3 with
  |sc _ e1=>exact fun g o k=>((h1 g o).1 k).elim (e1 g o) (e2 g o)
theorem RelC.back(h:RelC E st a w X loc ob){w':World}{O' Rc:Cells}(hF:Frame w w' X)(hO: ∀g o,O' g o→(X g o∨w.heap.size≤g)∧g<w'.heap.size):RelC E st a w' O' loc ob:=by
 have hdisj: ∀b,Disj (ob b) O':=fun b g o k1 k2=>by
  rcases(hO g o k2).1 with k|k
  ·exact h.dx b g o k1 k
  ·have:=h.lt g o (.inl ⟨b,k1⟩);omega
 refine h.go X rfl rfl hF (fun g o k=> ?_) (fun g o k=>.inr k) (fun _ _ k=>k) (fun b=>.inl ⟨rfl,rfl,rfl,fun g o k1 k2=>h.dx b g o k2 k1⟩) h.db hdisj
 rcases k with⟨b,k⟩|k
 ·exact⟨.inl (.inl ⟨b,k⟩),Nat.lt_of_lt_of_le (h.lt g o (.inl ⟨b,k⟩)) hF.size⟩
 ·rcases(hO g o k).1 with k1|k1
  ·exact⟨.inl (.inr k1),(hO g o k).2⟩
  ·exact⟨.inr k1,(hO g o k).2⟩
theorem RelC.drop(h:RelC E st a w X loc ob):RelC E st a w none2 loc ob:=by
 refine h.go none2 rfl rfl (Frame.refl w _) (fun g o k=> ?_) (fun _ _ k=>k.elim) (fun _ _ k=>k) (fun b=>.inl ⟨rfl,rfl,rfl,fun _ _ k=>k.elim⟩) h.db (fun b g o _ k=>k.elim)
 rcases k with k|k
 ·exact⟨.inl (.inl k),h.lt g o (.inl k)⟩
 ·exact k.elim
def tookIn(o:Oper)(st:St)(res:AV)(st':St):Prop:=match o.dst with
 |none=>st'=st
 |some d=>impResOk res=true∧(∀p∈(impRes (cid d 0) res).2,st.m p.1=.abs)∧d<st.n∧st'=(st.mws (impRes (cid d 0) res).2).put (some d) (impRes (cid d 0) res).1
theorem took_ok(h:RelC E st a w X loc ob){x:AV}{v:Value}(hx:AR w (RS E w (Owned ob X)) noLoc x v X){st':St}(ht:tookIn o st x st'):Rel E st' (a.put o.dst v) w none2:=by
 unfold tookIn at ht
 split at ht
 ·rename_i hd
  subst ht
  rw[hd]
  exact⟨loc,ob,h.drop⟩
 ·rename_i d hd
  obtain⟨h1,h2,h3,rfl⟩:=ht
  rw[hd]
  obtain⟨loc',ob',hL,hy⟩:=imp_res h (O:=X) (Y:=none2) (fun g o=>by simp[none2]) emp_none2.disj' hx h1 h2
  refine⟨loc',ob',hL.rel.put (some d) _ v ?_ fun _=>hy⟩
  unfold St.dstOk
  rw[mws_n]
  exact decide_eq_true h3
theorem run_call{ρ:Operand→Value}{c:Call}{ty:TypeId}{fo:Operand}{f:FuncId}{caps:Array Value}(hc:c.callee=.value fo)(hf:ρ fo=.func (.func f) #[] caps)(hok:FnOk P f):
  (do let d ←resolve ρ c ty;invoke d.target d.args:Sem Next).run P w=.ok (.enter f (c.args.map ρ++caps)) w:=by
 obtain⟨fn,h1,h2,h3⟩:=hok
 simp only[resolve,hc,hf,Deferred.ofValue,Sem.run_bind,Sem.run_pure,Result.andThen_ok,invoke,callFunc,program]
 have hp:(Sem.program Sem.pure:Sem Program).run P w=.ok P w:=rfl
 simp only[Sem.run_bind,hp,Result.andThen_ok,h1,h2,h3,Bool.false_eq_true,if_false,Array.empty_append,Sem.run_pure]
def expLeaf(x:AV):RP (AV × List (Nat × MB)):=match x with
 | .ref b off n=>.mem b fun m=>(arrB m).bind fun blk=>.req (decide (blk.lvl≤1)) (.ret (match blk with|⟨_,lvl,z,rows⟩=>.own lvl z (subA rows off n),[(b,.dead)]))
 |v=>.req v.goes (.ret (v,[]))
structure Left(E:Env)(a:Act)(w:World)(X:Cells)(loc:Locs)(ob:Nat→Cells)(st':St)(X':Cells)(ob':Nat→Cells)(O:Cells):Prop where
 rel:RelC E st' a w X' loc ob'
 iff: ∀g o,X' g o↔X g o∨O g o
 dis:Disj X O
 own: ∀g o,Owned ob' X' g o→Owned ob X g o
theorem Left.refl(h:RelC E st a w X loc ob):Left E a w X loc ob st X ob none2:=⟨h,fun g o=>by simp[none2],emp_none2.disj',fun _ _ k=>k⟩
theorem Left.trans{st1 st2:St}{X1 X2:Cells}{ob1 ob2:Nat→Cells}{O1 O2:Cells}(h1:Left E a w X loc ob st1 X1 ob1 O1)(h2:Left E a w X1 loc ob1 st2 X2 ob2 O2):Left E a w X loc ob st2 X2 ob2 (fun g o=>O1 g o∨O2 g o)∧Disj O1 O2:=by
 refine⟨⟨h2.rel,fun g o=>by rw[h2.iff,h1.iff,or_assoc],fun g o k1 k2=> ?_,fun g o k=>h1.own g o (h2.own g o k)⟩,fun g o k1 k2=>h2.dis g o ((h1.iff g o).2 (.inr k1)) k2⟩
 rcases k2 with k2|k2
 ·exact h1.dis g o k1 k2
 ·exact h2.dis g o ((h1.iff g o).2 (.inl k1)) k2
theorem Left.RS{st':St}{X' O:Cells}{ob':Nat→Cells}(h:Left E a w X loc ob st' X' ob' O): ∀g o,RS E w (Owned ob X) g o→RS E w (Owned ob' X') g o:=fun g o k=>⟨k.1,k.2.1,fun n=>k.2.2 (h.own g o n)⟩
theorem expLeaf_ok(h:RelC E st a w X loc ob){x:AV}{v:Value}(hx:AR w (RS E w (Owned ob X)) loc x v none2){p:AV × List (Nat × MB)}(hr:(expLeaf x).run st=some p):
  ∃X' ob' O,Left E a w X loc ob (st.mws p.2) X' ob' O∧AR w (RS E w (Owned ob' X')) noLoc p.1 v O:=by
 have rest:x.goes=true→p=(x,[])→ ∃X' ob' O,Left E a w X loc ob (st.mws p.2) X' ob' O∧AR w (RS E w (Owned ob' X')) noLoc p.1 v O:=by
  intro hg hp
  subst hp
  exact⟨X,ob,none2,Left.refl h,(hx.goes_emp hg fun _ _ k=>k).1⟩
 cases x with
 |ref b off n=>
  have hr:=mem_some hr
  obtain⟨blk,hm,hr⟩:=bind_some hr
  obtain⟨hm,harr⟩:=arrB_some hm
  obtain⟨hq,hr⟩:=req_some hr
  obtain rfl:=ret_some hr
  have hl1:=of_decide_eq_true hq
  rcases ref_cells h hx hm harr hl1 with⟨rfl,ad,rfl⟩|⟨g,oo,cap,vs,rfl,hcap,hbf,hsl,hW,hO,hc,hxx,hfl,hpl⟩
  ·have:subA blk.rows off 0=[]:=by simp[subA]
   simp only[this]
   obtain⟨h1,h2⟩:=h.kill hm
   refine⟨X,_,none2,⟨h1,fun g o=>by simp[none2],emp_none2.disj',fun g o k=> ?_⟩,.own0 emp_none2⟩
   rcases k with⟨b',k⟩|k
   ·by_cases hbb:b'=b
    ·subst hbb;simp only[upd,if_true]at k;exact k.elim
    ·simp only[upd,hbb,if_false]at k;exact .inl ⟨b',k⟩
   ·exact .inr k
  ·let X':Cells:=fun g o=>X g o∨ob b g o
   have hown: ∀g o,Owned (upd ob b none2) X' g o↔Owned ob X g o:=by
    intro g o
    constructor
    ·rintro (⟨b',k⟩|k|k)
     ·by_cases hbb:b'=b
      ·subst hbb;simp only[upd,if_true]at k;exact k.elim
      ·simp only[upd,hbb,if_false]at k;exact .inl ⟨b',k⟩
     ·exact .inr k
     ·exact .inl ⟨b,k⟩
    ·rintro (⟨b',k⟩|k)
     ·by_cases hbb:b'=b
      ·subst hbb;exact .inr (.inr k)
      ·exact .inl ⟨b',by simpa only[upd,hbb,if_false]using k⟩
     ·exact .inr (.inl k)
   have hrel:RelC E (st.mws [(b,.dead)]) a w X' loc (upd ob b none2):=by
    refine h.go none2 rfl rfl (Frame.refl w _) (fun g o k=>⟨.inl ((hown g o).1 k),h.lt g o ((hown g o).1 k)⟩) (fun _ _ k=>k.elim) (fun _ _ k=>k) (fun b'=> ?_) (fun b1 b2 hne g o k1 k2=> ?_) (fun b1 g o k1 k2=> ?_)
    ·by_cases hbb:b'=b
     ·subst hbb
      right
      simp only[St.mws,upd,if_true,BF1]
      obtain⟨l,hl⟩:=(h.lv b' _ hm).loc_some
      exact⟨by rw[hl];rfl,emp_none2⟩
     ·left
      exact⟨by simp[St.mws,upd,hbb],by simp[upd,hbb],rfl,fun _ _ k=>k.elim⟩
    ·by_cases h1:b1=b
     ·subst h1;simp only[upd,if_true]at k1;exact k1.elim
     ·by_cases h2:b2=b
      ·subst h2;simp only[upd,if_true]at k2;exact k2.elim
      ·simp only[upd,h1,h2,if_false]at k1 k2
       exact h.db b1 b2 hne g o k1 k2
    ·by_cases h1:b1=b
     ·subst h1;simp only[upd,if_true]at k1;exact k1.elim
     ·simp only[upd,h1,if_false]at k1
      rcases k2 with k2|k2
      ·exact h.dx b1 g o k1 k2
      ·exact h.db b1 b h1 g o k1 k2
   have hL:Left E a w X loc ob (st.mws [(b,.dead)]) X' (upd ob b none2) (ob b):=⟨hrel,fun g o=>Iff.rfl,fun g o k1 k2=>h.dx b g o k2 k1,fun g o k=>(hown g o).1 k⟩
   refine⟨X',_,ob b,hL,?_⟩
   have:=AR.own (w:=w) (R:=RS E w (Owned (upd ob b none2) X')) (loc:=noLoc) (lvl:=blk.lvl) (z:=blk.z) (rows:=subA blk.rows off n) (g:=g) (o:=oo) (cap:=cap) (O:=ob b) vs (fun _ _=>none2) (by omega) hbf hW
    (fun i j hi hj=>hc i j (by omega) hj) (fun i j row x h1 h2=>(hxx i j row x h1 h2).weak hL.RS fun _ _ k=>k)
    (fun g' o'=>by rw[hO];exact⟨.inl,fun k=>k.elim (fun k=>k) fun⟨_,_,_,_,k⟩=>k.elim⟩) (fun _ _ _ _ _ k=>k.elim) (fun _ _ _ _ _ _ _ _ _ _ _ k=>k.elim) hfl (fun _=>hpl)
   rw[hsl]at this
   exact this hx.ref_len
 |_=>
  obtain⟨hq,hr⟩:=req_some hr
  exact rest hq (ret_some hr).symm
theorem bind_run{α β:Type}{r:RP α}{f:α→RP β}{st:St}{a:α}{b:β}(h1:r.run st=some a)(h2:(f a).run st=some b):(r.bind f).run st=some b:=by
 rw[run_bind,h1]
 exact h2
theorem lendLeaf_mono{b:Nat}{x y:AV}(h:(lendLeaf x).run (st.mws [(b,.dead)])=some y):(lendLeaf x).run st=some y:=by
 cases x with
 |ref b' off n=>
  by_cases hb:b'=b
  ·subst hb
   have h:=mem_some h
   obtain⟨blk,hm,_⟩:=bind_some h
   obtain⟨hm,_⟩:=arrB_some hm
   simp[St.mws,upd]at hm
  ·have e:(st.mws [(b,.dead)]).m b'=st.m b':=by simp[St.mws,upd,hb]
   simp only[lendLeaf,RP.run]at h⊢
   rw[e]at h
   cases hm:st.m b' with
   |live blk=>
    rw[hm]at h
    exact h
   |_=>rw[hm]at h;simp[arrB,liveA,RP.bind,RP.run]at h
 |_=>exact h
theorem lendLeaves_mono{b:Nat}: ∀{l ys:List AV},(lendLeaves l).run (st.mws [(b,.dead)])=some ys→(lendLeaves l).run st=some ys
 |[],ys,h=>h
 |x::l,ys,h=>by
  obtain⟨y,h1,h⟩:=bind_some h
  obtain⟨ys',h2,h⟩:=bind_some h
  obtain rfl:=ret_some h
  exact bind_run (lendLeaf_mono h1) (bind_run (lendLeaves_mono h2) rfl)
theorem lendVal_mono{b:Nat}{x y:AV}(h:(lendVal x).run (st.mws [(b,.dead)])=some y):(lendVal x).run st=some y:=by
 cases x with
 |agg cs=>
  obtain⟨ys',h2,h⟩:=bind_some h
  obtain rfl:=ret_some h
  exact bind_run (lendLeaves_mono h2) rfl
 |_=>unfold lendVal at h⊢;exact lendLeaf_mono h
theorem lendVals_mono{b:Nat}: ∀{l ys:List AV},(lendVals l).run (st.mws [(b,.dead)])=some ys→(lendVals l).run st=some ys
 |[],ys,h=>h
 |x::l,ys,h=>by
  obtain⟨y,h1,h⟩:=bind_some h
  obtain⟨ys',h2,h⟩:=bind_some h
  obtain rfl:=ret_some h
  exact bind_run (lendVal_mono h1) (bind_run (lendVals_mono h2) rfl)
def AV.refs0:AV→List Nat
 | .ref b _ _=>[b]
 |_=>[]
def refsL:List AV→List Nat
 |[]=>[]
 |x::l=>x.refs0++refsL l
def AV.refs:AV→List Nat
 | .agg cs=>refsL cs
 |v=>v.refs0
def refsV:List AV→List Nat
 |[]=>[]
 |x::l=>x.refs++refsV l
def deadsB:List Nat→List (Nat × MB)
 |[]=>[]
 |b::l=>(b,.dead)::deadsB l
def deadsOf(as:List AV):List (Nat × MB):=deadsB (refsV as)
theorem mws_deads: ∀(bs:List Nat)(s:St)(b:Nat),(s.mws (deadsB bs)).m b=if b∈bs then .dead else s.m b
 |[],s,b=>by simp[deadsB,St.mws]
 |c::bs,s,b=>by
  show(St.mws {s with m:=upd s.m c .dead} (deadsB bs)).m b=_
  rw[mws_deads bs]
  by_cases h:b∈bs
  ·simp[h]
  ·by_cases h2:b=c
   ·subst h2;simp[h,upd]
   ·simp[h,h2,upd]
theorem RelC.kills(h:RelC E st a w X loc ob)(bs:List Nat)(hb: ∀b∈bs,(loc b).isSome):RelC E (st.mws (deadsB bs)) a w X loc (fun b=>if b∈bs then none2 else ob b):=by
 have hob: ∀b g o,(if b∈bs then none2 else ob b) g o→ob b g o:=by
  intro b g o k
  by_cases h:b∈bs
  ·rw[if_pos h]at k;exact k.elim
  ·rw[if_neg h]at k;exact k
 have hsub: ∀g o,Owned (fun b=>if b∈bs then none2 else ob b) X g o→Owned ob X g o:=by
  rintro g o (⟨b,k⟩|k)
  ·exact .inl ⟨b,hob b g o k⟩
  ·exact .inr k
 refine h.go none2 (mws_n _ _) (mws_t _ _) (Frame.refl w _) (fun g o k=>⟨.inl (hsub g o k),h.lt g o (hsub g o k)⟩) (fun _ _ k=>k.elim) (fun _ _ k=>k) (fun b=> ?_) (fun b1 b2 hne g o k1 k2=>h.db b1 b2 hne g o (hob _ _ _ k1) (hob _ _ _ k2)) (fun b1 g o k1 k2=>h.dx b1 g o (hob _ _ _ k1) k2) (mws_an _ _)
 by_cases hbb:b∈bs
 ·right
  rw[mws_deads,if_pos hbb]
  simp only[hbb,if_true]
  exact⟨hb b hbb,emp_none2⟩
 ·left
  exact⟨by rw[mws_deads,if_neg hbb],by simp[hbb],rfl,fun _ _ k=>k.elim⟩
section
variable{bs:List Nat}
theorem frzLeaf_ok(h:RelC E st a w X loc ob){x y:AV}{v:Value}(hx:AR w (RS E w (Owned ob X)) loc x v none2)(hr:(lendLeaf x).run st=some y)(hb: ∀b∈x.refs0,b∈bs):
  AR w (RS E w (Owned (fun b=>if b∈bs then none2 else ob b) X)) noLoc y v none2∧ ∀b∈x.refs0,(loc b).isSome:=by
 have hsub: ∀g o,Owned (fun b=>if b∈bs then none2 else ob b) X g o→Owned ob X g o:=by
  rintro g o (⟨b,k⟩|k)
  ·by_cases h:b∈bs
   ·simp only[h,if_true]at k;exact k.elim
   ·simp only[h,if_false]at k;exact .inl ⟨b,k⟩
  ·exact .inr k
 have hR: ∀g o,RS E w (Owned ob X) g o→RS E w (Owned (fun b=>if b∈bs then none2 else ob b) X) g o:=fun g o k=>⟨k.1,k.2.1,fun n=>k.2.2 (hsub g o n)⟩
 cases x with
 |ref b off n=>
  have hbb:b∈bs:=hb b (by simp[AV.refs0])
  have hcell: ∀g o,ob b g o→RS E w (Owned (fun b=>if b∈bs then none2 else ob b) X) g o:=fun g o k=>⟨.inr (h.sub g o (.inl ⟨b,k⟩)),h.lt g o (.inl ⟨b,k⟩),fun m=>by
   rcases m with⟨b',m⟩|m
   ·by_cases h':b'∈bs
    ·simp only[h',if_true]at m;exact m.elim
    ·simp only[h',if_false]at m
     exact h.db b' b (fun e=>h' (e▸hbb)) g o m k
   ·exact h.dx b g o k m⟩
  have hr:=mem_some hr
  obtain⟨blk,hm,hr⟩:=bind_some hr
  obtain⟨hm,harr⟩:=arrB_some hm
  obtain⟨hq,hr⟩:=req_some hr
  obtain rfl:=ret_some hr
  refine⟨?_,fun c hc=>by
   simp only[AV.refs0,List.mem_singleton]at hc
   subst hc
   obtain⟨l,hl,_⟩:=hx.inv_ref
   rw[hl];rfl⟩
  rcases ref_cells h hx hm harr (of_decide_eq_true hq)with⟨rfl,ad,rfl⟩|⟨g,oo,cap,vs,rfl,hcap,hbf,hsl,hW,hO,hc,hxx,_,hpl⟩
  ·have:subA blk.rows off 0=[]:=by simp[subA]
   show AR w _ noLoc (.ro blk.z (subA blk.rows off 0)) _ none2
   rw[this]
   exact .ro0 emp_none2
  ·by_cases h0:n=0
   ·subst h0
    have:subA blk.rows off 0=[]:=by simp[subA]
    show AR w _ noLoc (.ro blk.z (subA blk.rows off 0)) _ none2
    rw[this]
    exact .ro0 emp_none2
   ·have:=AR.ro (w:=w) (R:=RS E w (Owned (fun b=>if b∈bs then none2 else ob b) X)) (loc:=noLoc) (z:=blk.z) (rows:=subA blk.rows off n) (g:=g) (o:=oo) (cap:=cap) (O:=none2) vs emp_none2 (by omega) (by omega) hbf.lt hW
     (fun i j hi hj=>⟨hc i j (by omega) hj,hcell _ _ ((hO _ _).2 rfl)⟩) (fun i j row x h1 h2=>(hxx i j row x h1 h2).weak hR (fun _ _ k=>k)) hpl
    rw[hsl]at this
    exact this hx.ref_len
 |_=>
  obtain⟨hq,hr⟩:=req_some hr
  obtain rfl:=ret_some hr
  exact⟨(hx.goes_emp hq hR).1,fun b hb=>by simp[AV.refs0]at hb⟩
theorem frzLeaves_ok(h:RelC E st a w X loc ob): ∀(l ys:List AV)(vs:List Value),vs.length=l.length→(lendLeaves l).run st=some ys→
  (∀(k:Nat) x v,l[k]? =some x→vs[k]? =some v→AR w (RS E w (Owned ob X)) loc x v none2)→(∀b∈refsL l,b∈bs)→
  ys.length=l.length∧(∀b∈refsL l,(loc b).isSome)∧ ∀(k:Nat) y v,ys[k]? =some y→vs[k]? =some v→AR w (RS E w (Owned (fun b=>if b∈bs then none2 else ob b) X)) noLoc y v none2
 |[],ys,vs,hl,hr,hx,hb=>by
  obtain rfl:=ret_some (st:=st) hr
  exact⟨rfl,fun b hb=>by simp[refsL]at hb,fun k y v h1=>by simp at h1⟩
 |x::l,ys,[],hl,_,_,_=>by simp at hl
 |x::l,ys,v::vs,hl,hr,hx,hb=>by
  obtain⟨y,h1,hr⟩:=bind_some hr
  obtain⟨ys',h2,hr⟩:=bind_some hr
  obtain rfl:=ret_some hr
  obtain⟨hy,hs⟩:=frzLeaf_ok h (hx 0 x v (by simp) (by simp)) h1 (fun b k=>hb b (by simp[refsL,k]))
  obtain⟨h3,h5,h4⟩:=frzLeaves_ok h l ys' vs (by simpa using hl) h2 (fun k y u k1 k2=>hx (k+1) y u (by simpa using k1) (by simpa using k2)) (fun b k=>hb b (by simp[refsL,k]))
  refine⟨by simp[h3],fun b hb=> ?_,fun k y' u k1 k2=> ?_⟩
  ·simp only[refsL,List.mem_append]at hb
   exact hb.elim (hs b) (h5 b)
  ·cases k with
   |zero=>
    simp only[List.getElem?_cons_zero,Option.some.injEq]at k1 k2
    subst k1;subst k2
    exact hy
   |succ k=>exact h4 k y' u (by simpa using k1) (by simpa using k2)
theorem frzVal_ok(h:RelC E st a w X loc ob){x y:AV}{v:Value}(hx:AR w (RS E w (Owned ob X)) loc x v none2)(hr:(lendVal x).run st=some y)(hb: ∀b∈x.refs,b∈bs):
  AR w (RS E w (Owned (fun b=>if b∈bs then none2 else ob b) X)) noLoc y v none2∧ ∀b∈x.refs,(loc b).isSome:=by
 cases x with
 |agg cs=>
  obtain⟨ys,h1,hr⟩:=bind_some hr
  obtain rfl:=ret_some hr
  obtain⟨vs,rfl,hvl,hvx⟩:=hx.inv_agg
  obtain⟨h3,h5,h4⟩:=frzLeaves_ok h cs ys vs.toList (by simpa using hvl) h1 (fun k x v h5 h6=>hvx k x v h5 (by simpa using h6)) hb
  exact⟨.agg (fun _=>none2) (by omega) (fun k x v h5 h6=>h4 k x v h5 (by simpa using h6)) (uni_none _),h5⟩
 |_=>exact frzLeaf_ok h hx hr hb
theorem frzVals_ok(h:RelC E st a w X loc ob): ∀(l ys:List AV)(vs:List Value),vs.length=l.length→(lendVals l).run st=some ys→
  (∀(k:Nat) x v,l[k]? =some x→vs[k]? =some v→AR w (RS E w (Owned ob X)) loc x v none2)→(∀b∈refsV l,b∈bs)→Parts w (RS E w (Owned (fun b=>if b∈bs then none2 else ob b) X)) noLoc ys vs none2∧ ∀b∈refsV l,(loc b).isSome
 |[],ys,[],hl,hr,hx,hb=>by
  obtain rfl:=ret_some (st:=st) hr
  exact⟨emp_none2,fun b hb=>by simp[refsV]at hb⟩
 |[],ys,_::_,hl,_,_,_=>by simp at hl
 |x::l,ys,[],hl,_,_,_=>by simp at hl
 |x::l,ys,v::vs,hl,hr,hx,hb=>by
  obtain⟨y,h1,hr⟩:=bind_some hr
  obtain⟨ys',h2,hr⟩:=bind_some hr
  obtain rfl:=ret_some hr
  obtain⟨hy,hs⟩:=frzVal_ok h (hx 0 x v (by simp) (by simp)) h1 (fun b k=>hb b (by simp[refsV,k]))
  obtain⟨hp,hs2⟩:=frzVals_ok h l ys' vs (by simpa using hl) h2 (fun k y u k1 k2=>hx (k+1) y u (by simpa using k1) (by simpa using k2)) (fun b k=>hb b (by simp[refsV,k]))
  exact⟨⟨none2,none2,fun g o=>by simp[none2],emp_none2.disj,hy,hp⟩,fun b hb=>by
   simp only[refsV,List.mem_append]at hb
   exact hb.elim (hs b) (hs2 b)⟩
end
end
end Go.Abs
