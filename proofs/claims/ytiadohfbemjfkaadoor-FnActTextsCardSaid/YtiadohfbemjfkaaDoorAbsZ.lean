/- The abstract layer, 13: append. -/
import Derived.Test.YtiadohfbemjfkaaDoorAbsY
set_option linter.unusedVariables false
set_option linter.unusedSimpArgs false
noncomputable section
namespace Go.Abs
open Go
section
variable{P:Program}{T:TT}{E:Env}{o:Oper}{st:St}{a:Act}{w:World}{X:Cells}{loc:Locs}{ob:Nat→Cells}{r:Res}
theorem RelC.kill(h:RelC E st a w X loc ob){b:Nat}{blk:Blk}(hm:st.m b=.live blk):RelC E (st.mws [(b,.dead)]) a w X loc (upd ob b none2)∧ ∀g o,RS E w (Owned ob X) g o→RS E w (Owned (upd ob b none2) X) g o:=by
 have hob: ∀b' g o,upd ob b none2 b' g o→ob b' g o:=by
  intro b' g o k
  by_cases hbb:b'=b
  ·subst hbb
   simp only[upd,if_true]at k
   exact k.elim
  ·simpa only[upd,hbb,if_false]using k
 have hsub: ∀g o,Owned (upd ob b none2) X g o→Owned ob X g o:=by
  rintro g o (⟨b',k⟩|k)
  ·exact .inl ⟨b',hob _ _ _ k⟩
  ·exact .inr k
 refine⟨h.go none2 rfl rfl (Frame.refl w _) (fun g o k=>⟨.inl (hsub g o k),h.lt g o (hsub g o k)⟩) (fun _ _ k=>k.elim) (fun _ _ k=>k) (fun b'=> ?_) (fun b1 b2 hne g o k1 k2=>h.db b1 b2 hne g o (hob _ _ _ k1) (hob _ _ _ k2)) (fun b1 g o k1 k2=>h.dx b1 g o (hob _ _ _ k1) k2),
  RS.sub (Nat.le_refl _) fun g o k=>.inl (hsub g o k)⟩
 by_cases hbb:b'=b
 ·subst hbb
  right
  simp only[St.mws,upd,if_true,BF1]
  obtain⟨l,hl⟩:=(h.lv b' _ hm).loc_some
  exact⟨by rw[hl];rfl,emp_none2⟩
 ·left
  exact⟨by simp[St.mws,upd,hbb],by simp[upd,hbb],rfl,fun _ _ k=>k.elim⟩
theorem RelC.newArr0(h:RelC E st a w X loc ob){d:Nat}(hd:st.m d=.abs)(lvl:Nat)(z:List AV):
  let loc':=upd loc d (some ⟨0,0,z.length,0,false⟩)
  RelC E (st.mws [(d,.live ⟨true,lvl,z,[]⟩)]) a w X loc' ob∧ ∀ad,AR w (RS E w (Owned ob X)) loc' (.ref d 0 0) (.slice ad 0 0) none2:=by
 intro loc'
 have had:=h.ab d hd
 have hloc: ∀b l,loc b=some l→loc' b=some l:=fun b l hl=>by
  have hne:b≠d:=fun e=>by rw[e,had.1]at hl;cases hl
  simp[loc',upd,hne,hl]
 refine⟨h.go none2 rfl rfl (Frame.refl w _) (fun g o k=>⟨.inl k,h.lt g o k⟩) (fun _ _ k=>k.elim) hloc (fun b=> ?_) h.db h.dx,fun ad=>.ref0 ⟨0,0,z.length,0,false⟩ emp_none2 (by simp[loc',upd]) (Nat.le_refl _)⟩
 by_cases hb:b=d
 ·subst hb
  right
  simp only[St.mws,upd,if_true,BF1]
  exact .arr0 ⟨0,0,z.length,0,false⟩ (by simp[loc',upd]) rfl rfl rfl had.2
 ·left
  exact⟨by simp[St.mws,upd,hb],rfl,by simp[loc',upd,hb],fun _ _ k=>k.elim⟩
theorem RelC.moveArr(h:RelC E st a w X loc ob){b d lvl:Nat}{z zb:List AV}{rows:List (List AV)}(hm:st.m b=.live ⟨true,lvl,zb,rows⟩)(hd:st.m d=.abs)(h1:lvl≤1){l:Loc}(hl:loc b=some l)(hbd:l.bound=true)
  {lvl' base':Nat}{rows':List (List AV)}(hw:Wide z rows'){w':World}(hF:Frame w w' (fun g _=>g=l.g))(hb:BF w' l.g (base'+rows'.length*z.length))
  (hc: ∀i j row x,rows'[i]? =some row→row[j]? =some x→ ∃v,w'.cell? ⟨l.g,base'+i*z.length+j,none⟩=some v∧AR w (RS E w (Owned ob X)) noLoc x v none2)
  (h2:lvl'=0→ ∀row∈rows',∀x∈row,x.flat=true)(h3: ∀row∈rows',∀x∈row,x.plain=true)(hmx:rows'.length≤maxLn):
  let loc':=upd loc d (some ⟨l.g,base',z.length,rows'.length,true⟩)
  ∃ob',RelC E (st.mws [(b,.dead),(d,.live ⟨true,lvl',z,rows'⟩)]) a w' X loc' ob'∧
   ∀n cap,n=rows'.length→n≤cap→BF w' l.g (base'+cap*z.length)→AR w' (RS E w' (Owned ob' X)) loc' (.ref d 0 n) (.slice (some ⟨l.g,base',none⟩) n cap) none2:=by
 intro loc'
 obtain⟨_,hs,hn,hb0,hW,hO,vs,hcc,hx,_,_⟩:=(h.lv b _ hm).plainArr h1 (.inr hbd) hl
 have had:=h.ab d hd
 have hne:d≠b:=fun e=>by rw[e,hm]at hd;cases hd
 have hloc: ∀b l,loc b=some l→loc' b=some l:=fun b l hl=>by
  have hne:b≠d:=fun e=>by rw[e,had.1]at hl;cases hl
  simp[loc',upd,hne,hl]
 let Od:Cells:=fun g _=>g=l.g
 let ob':Nat→Cells:=upd (upd ob b none2) d Od
 have hob': ∀b' g o,ob' b' g o→(b'=d∧ob b g o)∨(b'≠d∧b'≠b∧ob b' g o):=by
  intro b' g o k
  by_cases h4:b'=d
  ·subst h4
   simp only[ob',upd,if_true,Od]at k
   exact .inl ⟨rfl,(hO g o).2 k⟩
  ·by_cases h5:b'=b
   ·subst h5
    simp only[ob',upd,h4,if_false,if_true]at k
    exact k.elim
   ·simp only[ob',upd,h4,h5,if_false]at k
    exact .inr ⟨h4,h5,k⟩
 have hsub: ∀g o,Owned ob' X g o→Owned ob X g o:=by
  rintro g o (⟨b',k⟩|k)
  ·rcases hob' _ _ _ k with⟨_,k⟩|⟨_,_,k⟩
   ·exact .inl ⟨b,k⟩
   ·exact .inl ⟨b',k⟩
  ·exact .inr k
 have hWt: ∀g o,Od g o→Owned ob X g o:=fun g o k=>.inl ⟨b,(hO g o).2 k⟩
 have hD: ∀g o,Owned ob' X g o→(Owned ob X g o∨w.heap.size≤g)∧g<w'.heap.size:=fun g o k=>⟨.inl (hsub g o k),Nat.lt_of_lt_of_le (h.lt g o (hsub g o k)) hF.size⟩
 have hld:loc' d=some ⟨l.g,base',z.length,rows'.length,true⟩:=by simp[loc',upd]
 refine⟨ob',h.go Od rfl rfl hF hD hWt hloc (fun b'=> ?_) (fun b1 b2 hne' g o k1 k2=> ?_) (fun b1 g o k1 k2=> ?_),fun n cap hn' hcap hbf=> ?_⟩
 ·by_cases h4:b'=d
  ·subst h4
   right
   simp only[St.mws,upd,if_true,BF1,ob']
   have hsome: ∀i j,i<rows'.length→j<z.length→ ∃row x,rows'[i]? =some row∧row[j]? =some x:=by
    intro i j hi hj
    have hlr:=hw.len rows'[i] (List.getElem_mem hi)
    have hj':j<rows'[i].length:=by omega
    exact⟨rows'[i],rows'[i][j],by simp[hi],by simp[hj']⟩
   refine .arr ⟨l.g,base',z.length,rows'.length,true⟩ (fun i j=>(w'.cell? ⟨l.g,base'+i*z.length+j,none⟩).getD undef) (fun _ _=>none2) hld rfl rfl rfl hb hw
    (fun i j hi hj=> ?_) (fun i j row x h4 h5=> ?_) (fun g o=> ?_) (fun _ _ _ _ _ k=>k.elim) (fun _ _ _ _ _ _ _ _ _ _ _ k=>k.elim) h2 (fun _=>h3) hmx
   ·obtain⟨row,x,h4,h5⟩:=hsome i j hi hj
    obtain⟨v,h6,_⟩:=hc i j row x h4 h5
    simp only[h6]
    rfl
   ·obtain⟨v,h6,h7⟩:=hc i j row x h4 h5
    simp only[h6]
    exact h7.over hF hWt (fun g o k=>.inl (hsub g o k)) (fun _ _ k=>k)
   ·simp only[Od]
    constructor
    ·intro k;exact .inl k
    ·rintro (k|⟨_,_,_,_,k⟩)
     ·exact k
     ·exact k.elim
  ·by_cases h5:b'=b
   ·subst h5
    right
    simp only[St.mws,upd,if_true,if_false,Ne.symm hne,BF1,ob']
    exact⟨by rw[hloc _ _ hl];rfl,emp_none2⟩
   ·left
    refine⟨by simp[St.mws,upd,h4,h5],by simp[ob',upd,h4,h5],by simp[loc',upd,h4],fun g o k1 k2=> ?_⟩
    exact h.db b b' (Ne.symm h5) g o ((hO g o).2 k1) k2
 ·rcases hob' _ _ _ k1 with⟨e1,k3⟩|⟨h4,h5,k3⟩
  ·rcases hob' _ _ _ k2 with⟨e2,k4⟩|⟨h6,h7,k4⟩
   ·exact hne' (e1.trans e2.symm)
   ·exact h.db b b2 (Ne.symm h7) g o k3 k4
  ·rcases hob' _ _ _ k2 with⟨e2,k4⟩|⟨h6,h7,k4⟩
   ·exact h.db b1 b h5 g o k3 k4
   ·exact h.db b1 b2 hne' g o k3 k4
 ·rcases hob' _ _ _ k1 with⟨e1,k3⟩|⟨h4,h5,k3⟩
  ·exact h.dx b g o k3 k2
  ·exact h.dx b1 g o k3 k2
 ·subst hn'
  have:=AR.ref (w:=w') (R:=RS E w' (Owned ob' X)) (loc:=loc') (b:=d) (off:=0) (len:=rows'.length) (cap:=cap) (O:=none2) ⟨l.g,base',z.length,rows'.length,true⟩ emp_none2 hld rfl (by simp) hcap (by simpa using hbf) hmx
  simpa using this
theorem app_rows{R:Cells}{s m:Nat}{as bs:List (List AV)}{olds news:List Value}(zs:Array Value)(ho:olds.length=as.length*s)(hn:news.length=bs.length*s)
  (hwa: ∀row∈as,row.length=s)(hwb: ∀row∈bs,row.length=s)
  (ha: ∀i j row x,as[i]? =some row→row[j]? =some x→AR w R noLoc x (olds.getD (i*s+j) undef) none2)
  (hb: ∀i j row x,bs[i]? =some row→row[j]? =some x→AR w R noLoc x (news.getD (i*s+j) undef) none2):
  ∀i j row x,(as++bs)[i]? =some row→row[j]? =some x→AR w R noLoc x ((olds.toArray++news.toArray++zs).getD (i*s+j) undef) none2:=by
 intro i j row x h1 h2
 have hj:j<s:=by
  have:=(List.getElem?_eq_some_iff.1 h2).1
  have hm:=List.mem_of_getElem? h1
  rw[List.mem_append]at hm
  rcases hm with hm|hm
  ·rw[hwa row hm]at this;exact this
  ·rw[hwb row hm]at this;exact this
 by_cases hi:i<as.length
 ·rw[List.getElem?_append_left hi]at h1
  have hlt:=idx_lt hi hj
  have e:(olds.toArray++news.toArray++zs).getD (i*s+j) undef=olds.getD (i*s+j) undef:=by
   rw[Array.getD_eq_getD_getElem?,Array.getElem?_append_left (by simp;omega),Array.getElem?_append_left (by simp;omega)]
   simp
  rw[e]
  exact ha i j row x h1 h2
 ·rw[List.getElem?_append_right (by omega)]at h1
  have hi':i-as.length<bs.length:=(List.getElem?_eq_some_iff.1 h1).1
  have hlt:=idx_lt hi' hj
  have e1:i*s=as.length*s+(i-as.length)*s:=by rw[←Nat.add_mul];congr 1;omega
  have e:(olds.toArray++news.toArray++zs).getD (i*s+j) undef=news.getD ((i-as.length)*s+j) undef:=by
   rw[Array.getD_eq_getD_getElem?,Array.getElem?_append_left (by simp;omega),Array.getElem?_append_right (by simp;omega)]
   simp only[List.size_toArray,List.getElem?_toArray,List.getD_eq_getElem?_getD]
   congr 2
   omega
  rw[e]
  exact hb _ j row x h1 h2
theorem did_append(hT:T.ok P)(h:RelC E st a w X loc ob){c:Call}(ho:o.op=.call c)(hc:c.callee=.builtin .append)(hr:(evBuiltin T .append c o).run st=some r):Did P E o st a w X r:=by
 simp only[evBuiltin]at hr
 split at hr
 case h_2=>exact(fail_some hr).elim
 rename_i s x hargs
 obtain⟨t,hat,hr1⟩:=argT_some hr
 obtain⟨u,hau,hr2⟩:=argT_some hr1
 obtain⟨d,hdst,hr2⟩:=dstOf_some hr2
 obtain⟨hdn,hr2⟩:=newB_some hr2
 obtain⟨e,he,hr3⟩:=bind_some hr2
 obtain⟨el,hdt,hel,_⟩:=sliceI_some hT he
 obtain⟨_,hsrc,hr4⟩:=bind_some hr3
 obtain⟨du,hdu,hkind⟩:=srcOk_some hT hsrc
 obtain⟨xv,hxv,hr5⟩:=bind_some hr4
 have hxv:=opnd_some h hxv
 obtain⟨rs,hrs,hr6⟩:=bind_some hr5
 obtain⟨sv,hsv,hr7⟩:=bind_some hr6
 have hsv:=opnd_some h hsv
 obtain⟨hq0,hr8⟩:=req_some hr7
 simp only[Bool.and_eq_true,List.all_eq_true,decide_eq_true_eq]at hq0
 obtain⟨⟨⟨hs0,hb0⟩,hb1⟩,hzp⟩:=hq0
 have hzlen:=hel.zlen
 obtain⟨news,hR⟩:=rowsOf_some (P:=P) h hxv hrs (by omega)
 rw[hzlen]at hR
 obtain⟨lx,rows2⟩:=rs
 simp only at hr8 hR
 have hca:c.args=#[s,x]:=by have:=congrArg List.toArray hargs;simpa using this
 have hm':c.args.map a.eval=#[a.eval s,a.eval x]:=by simp[hca]
 have hct: ∀ty:TypeId,Builtin.append_ c.argTypes ty #[a.eval s,a.eval x]=Builtin.append_ #[t,u] ty #[a.eval s,a.eval x]:=by
  intro ty
  simp only[Builtin.append_,hat,hau]
  simp
 have hrun: ∀v w',(∀ty:TypeId,(Builtin.append_ #[t,u] ty #[a.eval s,a.eval x]).run P w=.ok v w')→(execOp a.eval o).run P w=.ok (.value v) w':=by
  intro v w' hv
  obtain⟨_,op,ty,_,_,_⟩:=o
  subst ho
  simp only[execOp]
  rw[run_builtin hc]
  simp only[builtin]
  refine run_v ?_
  rw[hm',hct]
  exact hv _
 obtain⟨z,hz0,hzs,hzl⟩:=hel.zeroV w
 have hzr: ∀w',(zeroValue el).run P w'=.ok z w':=by
  intro w'
  obtain⟨info,d,zz,h1,h2,hz,hs,h3,h4,h5,h6,_⟩:=hel.ex
  have h7:(zeroValue el).run P w=.ok zz w:=by
   simp only[zeroValue,Sem.run_bind,run_typeInfo w h1,Result.andThen_ok,hz];rfl
  have h8:(zeroValue el).run P w'=.ok zz w':=by
   simp only[zeroValue,Sem.run_bind,run_typeInfo w' h1,Result.andThen_ok,hz];rfl
  rw[h7]at hz0
  injection hz0 with hz0
  rw[h8,hz0]
 have hbig: ∀m,m*e.bytes≤maxBytes→m≤maxLn:=by
  intro m hm
  have:m≤m*e.bytes:=Nat.le_mul_of_pos_right _ hb0
  unfold maxBytes at hm
  unfold maxLn
  omega
 -- in a new row
 have grow: ∀(st1:St)(ob1:Nat→Cells),RelC E st1 a w X loc ob1→st1.m d=.abs→(∀g o,RS E w (Owned ob X) g o→RS E w (Owned ob1 X) g o)→
   ∀(lvl n cap:Nat)(ad:Option Addr)(as:List (List AV))(olds:List Value),a.eval s=.slice ad n cap→as.length=n→ ¬n+rows2.length≤cap→(n+rows2.length)*e.bytes≤maxBytes→
   olds.length=n*e.size→(Builtin.firstCells e.size n (.slice ad n cap)).run P w.drew=.ok olds.toArray w.drew→lvl≤1→
   (∀row∈as,row.length=e.size)→(∀i j row x,as[i]? =some row→row[j]? =some x→AR w (RS E w (Owned ob X)) noLoc x (olds.getD (i*e.size+j) undef) none2)→
   (lvl=0→ ∀row∈as,∀x∈row,x.flat=true)→(∀row∈as,∀x∈row,x.plain=true)→
   ∃nx v w' loc' ob',(execOp a.eval o).run P w=.ok nx w'∧(nx=.value v∨(nx=.skip∧v=undef))∧RelC E (st1.mws [(d,.live ⟨true,max lvl lx,e.zero,as++rows2⟩)]) a w' X loc' ob'∧
    AR w' (RS E w' (Owned ob' X)) loc' (.ref d 0 (n+rows2.length)) v none2:=by
  intro st1 ob1 h1 hd1 hRS lvl n cap ad as olds hav hasl hg hmax hol hold hlvl hwa haa hfa hpa
  have hg':=grownCap_ge w (n+rows2.length) cap el
  obtain⟨h2,h3⟩:=h1.world (w':=w.drew) (Frame.drew w _ none2)
  have hFd:Frame w w.drew none2:=Frame.drew w _ none2
  have hmono: ∀g o,RS E w (Owned ob X) g o→RS E w.drew (Owned ob1 X) g o:=fun g o k=>h3 g o (hRS g o k)
  have over: ∀x v,AR w (RS E w (Owned ob X)) noLoc x v none2→AR w.drew (RS E w.drew (Owned ob1 X)) noLoc x v none2:=fun x v hv=>
   hv.keep (S:=fun _ _=>True) ⟨Nat.le_refl _,fun _ _ h=>h,fun _ _ _=>rfl⟩ (fun g o k=>⟨trivial,hmono g o k⟩) (fun _ _ _=>trivial) (fun _ _ k=>k)
  have hrows:=app_rows (w:=w.drew) (R:=RS E w.drew (Owned ob1 X)) (m:=0) (Builtin.zeroCells z.cells (grownCap w (n+rows2.length) cap el-(n+rows2.length))) (by rw[hasl];exact hol) hR.nlen hwa hR.wid
   (fun i j row x k1 k2=>over _ _ (haa i j row x k1 k2)) (fun i j row x k1 k2=>over _ _ (hR.at_ i j row x k1 k2))
  have hsz:(olds.toArray++news.toArray++Builtin.zeroCells z.cells (grownCap w (n+rows2.length) cap el-(n+rows2.length))).size=grownCap w (n+rows2.length) cap el*e.size:=by
   simp only[Array.size_append,List.size_toArray,size_zeroCells,hzs,hol,hR.nlen,←Nat.add_mul]
   congr 1
   omega
  have hpl: ∀row∈as++rows2,∀x∈row,x.plain=true:=by
   intro row hr
   rw[List.mem_append]at hr
   rcases hr with hr|hr
   ·exact hpa row hr
   ·exact hR.plain row hr
  have hlen2:(as++rows2).length=n+rows2.length:=by rw[List.length_append,hasl]
  obtain⟨ob',h4,h5,h6⟩:=h2.newArr hd1 (rows:=as++rows2) (z:=e.zero) (lvl:=max lvl lx) _ el (0,0) (fun i _ h=>by simp at h)
   ⟨fun row hr=>by
    rw[List.mem_append]at hr
    rw[hzlen]
    rcases hr with hr|hr
    ·exact hwa row hr
    ·exact hR.wid row hr,fun row hr x hx=>light_known (plain_light (hpl row hr x hx))⟩
   (by rw[hlen2,hzlen,hsz];exact Nat.mul_le_mul_right _ hg') (by rw[hzlen];exact hrows)
   (fun h0 row hr=>by
    rw[List.mem_append]at hr
    rcases hr with hr|hr
    ·exact hfa (by omega) row hr
    ·exact hR.flat (by omega) row hr)
   (fun _=>hpl) (by rw[hlen2];exact hbig _ hmax)
  refine⟨_,_,_,_,ob',hrun _ _ (fun ty=> ?_),.inl rfl,h4,h6 _ _ hlen2.symm hg' (by rw[hzlen,hsz];exact Nat.le_refl _)⟩
  rw[hav]
  exact run_append_out hdt hel hdu hkind hR ad n cap hg hzr hb0 hmax hold
 cases sv with
 |emp=>
  obtain⟨hq,hr9⟩:=req_some hr8
  obtain rfl:=ret_some hr9
  obtain⟨ad,hav⟩:=hsv.inv_emp
  have hmx:rows2.length*e.bytes≤maxBytes:=of_decide_eq_true hq
  by_cases h0:rows2.length=0
  ·have hnil:rows2=[]:=List.eq_nil_of_length_eq_zero h0
   subst hnil
   obtain⟨h2,h3⟩:=h.newArr0 hdn lx e.zero
   have hnn:news=[]:=List.eq_nil_of_length_eq_zero (by rw[hR.nlen];simp)
   subst hnn
   refine⟨_,_,w,_,ob,hrun (.slice ad 0 0) w (fun ty=> ?_),.inl rfl,h2,h3 ad⟩
   rw[hav]
   exact run_append_in hdt hel hdu hkind hR ad 0 0 (by simp) (by cases ad<;>simp[storeCells]<;>rfl)
  ·have:=grow st ob h hdn (fun _ _ k=>k) 0 0 0 ad [] [] hav rfl (by omega) (by simpa using hmx) (by simp) (by
    cases ad with
    |none=>exact run_firstCells_none w.drew e.size 0 0 0
    |some ad=>exact run_firstCells_some w.drew e.size 0 ad 0 0 [] (by simp) (fun j v h=>by simp at h)) (by omega) (fun _ h=>by simp at h) (fun i j row x h=>by simp at h) (fun _ _ h=>by simp at h) (fun _ h=>by simp at h)
   simp only[Nat.zero_max,Nat.zero_add,List.nil_append]at this
   exact this
 |ref b off n=>
  have hr9:=mem_some hr8
  obtain⟨blk,hm,hr10⟩:=bind_some hr9
  obtain⟨hm,harr⟩:=arrB_some hm
  obtain⟨hq,hr11⟩:=req_some hr10
  simp only[Bool.and_eq_true,beq_iff_eq,decide_eq_true_eq]at hq
  obtain⟨⟨hzs',hlv⟩,hmx⟩:=hq
  obtain rfl:=ret_some hr11
  obtain⟨l,hl,hn,ad,cap,hav,hcap,hcase⟩:=hsv.inv_ref
  obtain⟨arr,lvl,z',rows⟩:=blk
  simp only at harr hzs' hlv
  subst harr
  have hat':=h.lv b _ hm
  obtain⟨hs,hln⟩:=hat'.width hl
  simp only at hs hln
  have hne:d≠b:=fun e=>by rw[e,hm]at hdn;cases hdn
  obtain⟨hk1,hk2⟩:=h.kill hm
  have hkd:(st.mws [(b,.dead)]).m d=.abs:=by simp[St.mws,upd,hne,hdn]
  have hsl:(subA rows off n).length=n:=by simp[subA];omega
  have hmem: ∀row∈subA rows off n,row∈rows:=fun row hr=>List.mem_of_mem_drop (List.mem_of_mem_take hr)
  rcases hcase with⟨rfl,rfl⟩|⟨hbd,rfl,hbf⟩
  ·have hsub0:subA rows off 0=[]:=by simp[subA]
   by_cases h0:rows2.length=0
   ·have hnil:rows2=[]:=List.eq_nil_of_length_eq_zero h0
    subst hnil
    obtain⟨h2,h3⟩:=hk1.newArr0 hkd (max lvl lx) e.zero
    have hnn:news=[]:=List.eq_nil_of_length_eq_zero (by rw[hR.nlen];simp)
    subst hnn
    refine⟨_,_,w,_,_,hrun (.slice ad 0 0) w (fun ty=> ?_),.inl rfl,?_,h3 ad⟩
    ·rw[hav]
     exact run_append_in hdt hel hdu hkind hR ad 0 0 (by simp) (by cases ad<;>simp[storeCells]<;>rfl)
    ·simp only[hsub0,List.append_nil]
     exact h2
   ·have:=grow _ _ hk1 hkd hk2 lvl 0 0 ad [] [] hav rfl (by omega) (by simpa using hmx) (by simp) (by
     cases ad with
     |none=>exact run_firstCells_none w.drew e.size 0 0 0
     |some ad=>exact run_firstCells_some w.drew e.size 0 ad 0 0 [] (by simp) (fun j v h=>by simp at h)) hlv (fun _ h=>by simp at h) (fun i j row x h=>by simp at h) (fun _ _ h=>by simp at h) (fun _ h=>by simp at h)
    simp only[hsub0]
    exact this
  ·obtain⟨_,_,_,hb,hW,hO,vs,hcc,hcx,hfl,hpl⟩:=hat'.plainArr hlv (.inr hbd) hl
   have hget: ∀i,i<n→(subA rows off n)[i]? =rows[off+i]? :=fun i hi=>by simp[subA,hi]
   by_cases hroom:n+rows2.length≤cap
   ·have hle:(off+(n+rows2.length))*l.s≤(off+cap)*l.s:=Nat.mul_le_mul_right _ (by omega)
    have hse:l.s=e.size:=by rw[hs,hzs']
    rw[Nat.add_mul,Nat.add_mul n]at hle
    have hbn: ∀k,k<news.length→l.base+off*l.s+n*e.size+k<l.base+(off+cap)*l.s:=fun k hk=>by
     rw[hR.nlen]at hk
     rw[hse]at hle⊢
     omega
    have hst:=run_storeCells_cells (P:=P) l.g (l.base+off*l.s+n*e.size) news 0 w
     (fun k hk=>by
      obtain⟨u,hu⟩:=hbf.cell (o:=l.base+off*l.s+n*e.size+0+k) (by have:=hbn k hk;omega)
      rw[hu];rfl)
     (fun k hk=>hbf.unfrozen (by have:=hbn k hk;omega)) hR.one
    simp only[Nat.add_zero]at hst
    have hF:Frame w (w.setCells l.g (l.base+off*l.s+n*e.size) news) (fun g _=>g=l.g):=Frame.setCells _ _ _ _ w fun _ _=>rfl
    have hplain: ∀row∈subA rows off n++rows2,∀x∈row,x.plain=true:=by
     intro row hr
     rw[List.mem_append]at hr
     rcases hr with hr|hr
     ·exact hpl row (hmem row hr)
     ·exact hR.plain row hr
    have hlen2:(subA rows off n++rows2).length=n+rows2.length:=by rw[List.length_append,hsl]
    have hwide:Wide e.zero (subA rows off n++rows2):=by
     refine⟨fun row hr=> ?_,fun row hr x hx=>light_known (plain_light (hplain row hr x hx))⟩
     rw[List.mem_append]at hr
     rw[hzlen]
     rcases hr with hr|hr
     ·rw[hW.len row (hmem row hr)];exact hzs'
     ·exact hR.wid row hr
    have hzz:z'.length=e.zero.length:=by rw[hzlen];exact hzs'
    -- the block under the element's own zero row
    have key:=h.moveArr (z:=e.zero) (lvl':=max lvl lx) (base':=l.base+off*l.s) (rows':=subA rows off n++rows2) hm hdn hlv hl hbd (w':=w.setCells l.g (l.base+off*l.s+n*e.size) news)
     hwide hF
     (hF.bf _ _ (hbf.mono (by rw[hlen2,hzlen,←hse,Nat.add_mul n,Nat.add_mul];rw[Nat.add_mul]at hle;omega)))
     (fun i j row x h1 h2=>by
      have hj:j<e.size:=by
       have:=(List.getElem?_eq_some_iff.1 h2).1
       rw[hwide.len row (List.mem_of_getElem? h1),hzlen]at this
       exact this
      by_cases hi:i<n
      ·rw[List.getElem?_append_left (by omega),hget i hi]at h1
       refine⟨vs (off+i) j,?_,hcx (off+i) j row x h1 h2⟩
       rw[World.cell?_setCells_out l.g _ _ w _ (fun _ _=>by
        simp only
        left
        have:=idx_lt hi hj
        rw[hzlen]
        omega)]
       have:=hcc (off+i) j (by omega) (by omega)
       rw[Nat.add_mul,←Nat.add_assoc]at this
       rw[hs,←hzz]
       exact this
      ·rw[List.getElem?_append_right (by omega),hsl]at h1
       have hi':i-n<rows2.length:=(List.getElem?_eq_some_iff.1 h1).1
       have hlt:(i-n)*e.size+j<news.length:=by rw[hR.nlen];exact idx_lt hi' hj
       have:=World.cell?_setCells_in l.g news (l.base+off*l.s+n*e.size) w (fun k hk=>by
        obtain⟨u,hu⟩:=hbf.cell (o:=l.base+off*l.s+n*e.size+k) (hbn k hk)
        rw[hu];rfl) ((i-n)*e.size+j) hlt
       refine⟨_,?_,hR.at_ (i-n) j row x h1 h2⟩
       have e1:l.base+off*l.s+i*e.zero.length+j=l.base+off*l.s+n*e.size+((i-n)*e.size+j):=by
        rw[hzlen]
        have:i*e.size=n*e.size+(i-n)*e.size:=by rw[←Nat.add_mul];congr 1;omega
        omega
       rw[e1,this]
       simp[hlt])
     (fun h0 row hr=>by
      rw[List.mem_append]at hr
      rcases hr with hr|hr
      ·exact hfl (by omega) row (hmem row hr)
      ·exact hR.flat (by omega) row hr)
     hplain (by rw[hlen2];exact hbig _ hmx)
    obtain⟨ob',h2,h3⟩:=key
    refine⟨_,_,_,_,ob',hrun _ _ (fun ty=> ?_),.inl rfl,h2,h3 (n+rows2.length) cap hlen2.symm hroom (hF.bf _ _ (hbf.mono (by rw[hzlen,←hse,Nat.add_mul];omega)))⟩
    rw[hav]
    exact run_append_in hdt hel hdu hkind hR _ n cap hroom (by simp only[add_plain'];exact hst)
   ·have hrow: ∃olds,Rows P w (RS E w (Owned ob X)) e.size (.slice (some ⟨l.g,l.base+off*l.s,none⟩) n cap) lvl (subA rows off n) olds:=by
     have:=rows_slice (P:=P) (w:=w) (R:=RS E w (Owned ob X)) (g:=l.g) (o:=l.base+off*l.s) (s:=e.size) (lvl:=lvl) (cap:=cap) (rows:=subA rows off n) (fun i j=>vs (off+i) j) (.inl hs0)
      (fun i j hi hj=>by
       have:=hcc (off+i) j (by omega) (by omega)
       rw[Nat.add_mul,←Nat.add_assoc]at this
       rw[hs]
       rw[←hzs']
       exact this)
      (fun row hr=>(hW.len row (hmem row hr)).trans hzs')
      (fun i j row x h1 h2=>hcx (off+i) j row x (by rw[←hget i (by have:=(List.getElem?_eq_some_iff.1 h1).1;omega)];exact h1) h2)
      hlv (fun h0 row hr=>hfl h0 row (hmem row hr)) (fun row hr=>hpl row (hmem row hr))
     rw[hsl]at this
     exact this hsv.ref_len
    obtain⟨olds,hO2⟩:=hrow
    have hrd:=hO2.read n w.drew (by omega) rfl
    have hnl:=hO2.nlen
    rw[hsl]at hnl
    rw[←hnl,List.take_length]at hrd
    exact grow _ _ hk1 hkd hk2 lvl n cap _ _ olds hav hsl hroom hmx hnl hrd hlv hO2.wid hO2.at_ hO2.flat hO2.plain
 |_=>exact(fail_some hr8).elim
end
end Go.Abs
