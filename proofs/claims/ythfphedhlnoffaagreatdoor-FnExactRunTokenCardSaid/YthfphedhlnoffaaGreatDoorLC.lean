import Derived.Test.YthfphedhlnoffaaGreatDoorLB
import Derived.Lib.Strings
import Derived.Laws.StructEq
import Derived.IntWalk
/- The abstract layer, 7: slices, lengths, numbers and strings, struct literals. -/
set_option linter.unusedVariables false
set_option linter.unusedSimpArgs false
noncomputable section
namespace Go.Abs
open Go
section
variable{P:Program}{T:TT}{E:Env}{o:Oper}{st:St}{a:Act}{w:World}{X:Cells}{loc:bG}{ob:Nat→Cells}{r:di}
theorem sE{v:AV}{n:Nat}(h:(B9 v).run st=some n):(∃s,v=.str s∧n=s.length)∨(∃b off,v=.ref b off n)∨(∃z rows,v=.ro z rows∧n=rows.length)∨(v=.emp∧n=0):=by
 cases v with
 |str s=>exact .inl ⟨s,rfl,(au h).symm⟩
 |ref b off k=>obtain rfl:=au h;exact .inr (.inl ⟨b,off,rfl⟩)
 |ro z rows=>exact .inr (.inr (.inl ⟨z,rows,rfl,(au h).symm⟩))
 |emp=>exact .inr (.inr (.inr ⟨rfl,(au h).symm⟩))
 |_=>exact(ay h).elim
theorem zo{R:Cells}{v:AV}{u:Value}{n:Nat}(hv:AR w R loc v u ae)(h:(B9 v).run st=some n)(hs: ∀s,v≠.str s): ∃ad cap,u=.slice ad n cap∧n≤cap:=by
 rcases sE h with⟨s,rfl,_⟩|⟨b,off,rfl⟩|⟨z,rows,rfl,rfl⟩|⟨rfl,rfl⟩
 ·exact absurd rfl (hs s)
 ·obtain⟨l,_,_,ad,cap,rfl,hc,_⟩:=hv.inv_ref;exact⟨ad,cap,rfl,hc⟩
 ·obtain⟨ad,cap,rfl,hc,_⟩:=hv.inv_ro;exact⟨ad,cap,rfl,hc⟩
 ·obtain⟨ad,rfl⟩:=hv.inv_emp;exact⟨ad,0,rfl,Nat.le_refl _⟩
theorem AF{R:Cells}{v:AV}{u:Value}{n:Nat}(hv:AR w R loc v u ae)(h:(B9 v).run st=some n):n≤cj:=by
 rcases sE h with⟨s,rfl,rfl⟩|⟨b,off,rfl⟩|⟨z,rows,rfl,rfl⟩|⟨rfl,rfl⟩
 ·exact hv.str_len
 ·exact hv.ref_len
 ·exact hv.ro_len
 ·exact Nat.zero_le _
theorem nw(s:List UInt8):(ByteArray.mk s.toArray).size=s.length:=by simp[ByteArray.size]
theorem ji{c:Call}{i:Nat}{k:TypeId→RP di}(h:(vZ c i k).run st=some r): ∃t,c.argTypes[i]? =some t∧(k t).run st=some r:=by
 unfold vZ at h
 split at h
 ·exact⟨_, ‹_›,h⟩
 ·exact(ay h).elim
theorem kJ{ρ:Operand→Value}{c:Call}{ty:TypeId}{b:Builtin}(hc:c.callee=.builtin b):
  (do let d ←resolve ρ c ty;invoke d.target d.args:Sem Next).run P w=(builtin b c.argTypes ty (c.args.map fun| .const _=>true|_=>false) (c.args.map ρ)).run P w:=by
 simp only[resolve,hc]
 rfl
theorem D7(hT:T.ok P)(h:RelC E st a w X loc ob){c:Call}(ho:o.op=.call c)(hc:c.callee=.builtin .len)(hr:(fG T .len c o).run st=some r):Did P E o st a w X r:=by
 simp only[fG]at hr
 split at hr
 ·rename_i x hargs
  obtain⟨t,hat,hr⟩:=ji hr
  obtain⟨v,hv,hr⟩:=bind_some hr
  have hv:=bp h hv
  obtain⟨_,hf,hr⟩:=bind_some hr
  obtain⟨n,hn,hr⟩:=bind_some hr
  obtain rfl:=bA hr
  obtain⟨ti,d,hti,hd,hut,hfit⟩:=oP hT hf
  have hca:c.args=#[x]:=by have:=congrArg List.toArray hargs;simpa using this
  refine Did.pure h (v:=.int .i64 n) ?_ (.sc ⟨rfl,nv (AF hv hn)⟩ ah)
  obtain⟨_,op,ty,_,_,_⟩:=o
  subst ho
  simp only[execOp]
  rw[kJ hc]
  simp only[builtin]
  have hm:c.args.map a.eval=#[a.eval x]:=by simp[hca]
  refine eF ?_
  rw[hm]
  rcases hfit with⟨e,rfl,hk⟩|⟨_,_,_,_,_,_,_,rfl,_⟩|⟨rfl,s,rfl⟩
  ·obtain⟨ad,cap,hav,_⟩:=zo hv hn (fun s e=>by subst e;rcases hk with⟨_,_,_,h1⟩|⟨_,_,h1⟩|h1<;>cases h1)
   simp only[Builtin.len_,List.getElem?_toArray,List.getElem?_cons_zero,hat,hav,Sem.run_bind,run_underlying hd,Result.andThen_ok]
   rfl
  ·exact(ay hn).elim
  ·obtain rfl:=au (st:=st) hn
   simp only[Builtin.len_,List.getElem?_toArray,List.getElem?_cons_zero,hat,hv.inv_str,Sem.run_bind,run_underlying hd,Result.andThen_ok]
   simp only[pure,Sem.run,goInt,nw]
 ·exact(ay hr).elim
theorem uh(x:Int)(m:Nat):(0≤x→0≤x.fdiv (2 ^ m)∧x.fdiv (2 ^ m)≤x)∧(x<0→x≤x.fdiv (2 ^ m)∧x.fdiv (2 ^ m)≤0):=by
 have hp:(0:Int)<2 ^ m:=Int.pow_pos (by decide)
 rw[Int.fdiv_eq_ediv_of_nonneg _ (Int.le_of_lt hp)]
 refine⟨fun h=>⟨Int.ediv_nonneg h (Int.le_of_lt hp),Int.ediv_le_self _ h⟩,fun h=>⟨?_,?_⟩⟩
 ·rw[Int.le_ediv_iff_mul_le hp]
  have:=Int.mul_le_mul_of_nonpos_left (a:=x) (b:=2 ^ m) (c:=1) (by omega) (by omega)
  simpa using this
 ·exact Int.le_of_lt (Int.ediv_neg_of_neg_of_pos h hp)
theorem zg{k:IntKind}{x:Int}(m:Nat)(h:dE k x=true):dE k (x.fdiv (2 ^ m))=true:=by
 obtain⟨h1,h2⟩:=uh x m
 generalize x.fdiv (2 ^ m)=d at h1 h2
 cases k<;>simp only[dE,Bool.and_eq_true,decide_eq_true_eq]at h⊢ <;>(by_cases hx:0≤x)<;>first|(have:=h1 hx;omega)|(have:=h2 (by omega);omega)
theorem tf(x y:Int):(0≤x→0≤x.tmod y∧x.tmod y≤x)∧(x<0→x≤x.tmod y∧x.tmod y≤0):=by
 have pos: ∀z:Int,0≤z→0≤z.tmod y∧z.tmod y≤z:=by
  intro z hz
  have h0:=Int.tmod_nonneg y hz
  have h1:(z.tmod y).natAbs=z.natAbs%y.natAbs:=Int.natAbs_tmod z y
  have h2:=Nat.mod_le z.natAbs y.natAbs
  omega
 refine⟨pos x,fun h=> ?_⟩
 have:=pos (-x) (by omega)
 rw[Int.neg_tmod]at this
 omega
theorem zi{k:IntKind}{x:Int}(y:Int)(h:dE k x=true):dE k (x.tmod y)=true:=by
 obtain⟨h1,h2⟩:=tf x y
 generalize x.tmod y=d at h1 h2
 cases k<;>simp only[dE,Bool.and_eq_true,decide_eq_true_eq]at h⊢ <;>(by_cases hx:0≤x)<;>first|(have:=h1 hx;omega)|(have:=h2 (by omega);omega)
theorem xn{op:BinOp}{k k':IntKind}{x y:Int}{v:AV}(hfx:dE k x=true)(hr:(sP op k k' x y).run st=some v): ∃u,(binOp op 0 (.int k x) (.int k' y)).run P w=.ok u w∧SR v u:=by
 cases op<;>simp only[sP]at hr
 case shl=>
  obtain⟨hq,hr⟩:=bb hr
  obtain rfl:=au hr
  have: ¬y<0:=by have:=of_decide_eq_true hq;omega
  exact⟨_,by simp only[binOp,Op.shift,this,if_false];rfl,rfl,jk _ _⟩
 case shr=>
  obtain⟨hq,hr⟩:=bb hr
  obtain rfl:=au hr
  have: ¬y<0:=by have:=of_decide_eq_true hq;omega
  exact⟨_,by simp only[binOp,Op.shift,this,if_false];rfl,rfl,zg _ hfx⟩
 all_goals
  split at hr
  case isFalse=>exact(ay hr).elim
  rename_i hk
  subst hk
  simp only[vf]at hr
 case quo=>
  obtain⟨hq,hr⟩:=bb hr
  obtain rfl:=au hr
  have: ¬y=0:=by simpa using hq
  exact⟨_,by simp only[binOp,Op.intDiv,this,if_false,ne_eq,not_true_eq_false];rfl,rfl,jk _ _⟩
 case rem=>
  obtain⟨hq,hr⟩:=bb hr
  obtain rfl:=au hr
  have: ¬y=0:=by simpa using hq
  exact⟨_,by simp only[binOp,Op.intDiv,this,if_false,ne_eq,not_true_eq_false];rfl,rfl,zi _ hfx⟩
 all_goals first
  |exact(ay hr).elim
  |(obtain rfl:=au hr
    first
     |exact⟨_,by simp only[binOp,ne_eq,not_true_eq_false,if_false];rfl,rfl,jk _ _⟩
     |exact⟨_,by simp only[binOp,ne_eq,not_true_eq_false,if_false];rfl,rfl⟩)
theorem qg(op:BinOp)(t t':TypeId)(k k':IntKind)(x y:Int):binOp op t (.int k x) (.int k' y)=binOp op t' (.int k x) (.int k' y):=by cases op<;>rfl
theorem iA{op:BinOp}{t:TypeId}{x y:Operand}{u v:Value}(h:(∀cs,u≠.agg cs)∧u≠.nilIface):(eqGuard op t x y u v).run P w=.ok () w:=by
 cases op<;>simp only[eqGuard,Bool.not_true,Bool.not_false,Bool.false_eq_true,if_false,if_true]<;>first
  |rfl
  |(cases u<;>first|rfl|exact absurd rfl (h.1 _)|exact absurd rfl h.2)
theorem wv{op:BinOp}{x y:List UInt8}{v:AV}(hr:(tE op x y).run st=some v): ∃u,(Op.stringOp op ⟨x.toArray⟩ ⟨y.toArray⟩).run P w=.ok u w∧SR v u:=by
 cases op<;>simp only[tE]at hr
 case add=>
  obtain⟨hq,hr⟩:=bb hr
  obtain rfl:=au hr
  have hq:=of_decide_eq_true hq
  have h1: ¬(((ByteArray.mk x.toArray).size+(ByteArray.mk y.toArray).size:Nat):Int)>IntKind.i64.max:=by
   have:IntKind.i64.max=9223372036854775807:=by decide
   rw[this,nw,nw]
   unfold gt at hq
   omega
  refine⟨.string (⟨x.toArray⟩++⟨y.toArray⟩),?_,?_⟩
  ·unfold Op.stringOp
   simp only[h1,if_false]
   rfl
  ·refine⟨?_,?_⟩
   ·show Value.string _=Value.string _
    congr 1
   ·rw[List.length_append]
    unfold gt at hq
    unfold cj
    omega
 all_goals first
  |exact(ay hr).elim
  |(obtain rfl:=au hr
    refine⟨_,rfl,?_⟩
    simp only[SR,Lib.toList_data])
theorem pY(hT:T.ok P)(d:Nat)(us vs:Array Value): ∀(fs:List Field)(k:Nat)(cs ds:List AV)(e:Bool),gb T (fs.map (·.type)) cs ds=some e→
  (∀(j:Nat) f,fs[j]? =some f→f.offset=k+j∧f.name≠ "_")→
  (∀(j:Nat) x c,cs[j]? =some x→us[k+j]? =some c→SR x c∨x.flat=false)→(∀(j:Nat) x c,ds[j]? =some x→vs[k+j]? =some c→SR x c∨x.flat=false)→
  k+cs.length≤us.size→k+ds.length≤vs.size→(Op.eqFields (d+1) us vs fs).run P w=.ok e w
 |[],k,[],[],e,h,_,_,_,_,_=>by simp only[List.map_nil,gb]at h;injection h with h;subst h;simp[Op.eqFields]
 |[],k,[],_::_,e,h,_,_,_,_,_=>by simp[gb]at h
 |[],k,_::_,_,e,h,_,_,_,_,_=>by simp[gb]at h
 |f::fs,k,[],_,e,h,_,_,_,_,_=>by simp[gb]at h
 |f::fs,k,_::_,[],e,h,_,_,_,_,_=>by simp[gb]at h
 |f::fs,k,x::cs,y::ds,e,h,ho,hu,hv,hus,hvs=>by
  simp only[List.map_cons,gb]at h
  obtain⟨hoff,hname⟩:=ho 0 f (by simp)
  simp only[Nat.add_zero]at hoff
  simp only[List.length_cons]at hus hvs
  have hk1:k<us.size:=by omega
  have hk2:k<vs.size:=by omega
  have hx:=hu 0 x us[k] (by simp) (by simp[hk1])
  have hy:=hv 0 y vs[k] (by simp) (by simp[hk2])
  split at h
  case h_2=>cases h
  rename_i i hi
  obtain⟨dt,hd,hut⟩:=(hT.at hi).und
  have rest: ∀e',gb T (fs.map (·.type)) cs ds=some e'→(Op.eqFields (d+1) us vs fs).run P w=.ok e' w:=fun e' he'=>
   pY hT d us vs fs (k+1) cs ds e' he' (fun j f' hf=>by have:=ho (j+1) f' (by simpa using hf);exact⟨by omega,this.2⟩)
    (fun j x' c h1 h2=>hu (j+1) x' c (by simpa using h1) (by rw[←h2];congr 1;omega)) (fun j x' c h1 h2=>hv (j+1) x' c (by simpa using h1) (by rw[←h2];congr 1;omega)) (by omega) (by omega)
  have hpart: ∀(zs:Array Value)(hz:k<zs.size),fI (fx dt)=false→(part f.type zs f.offset).run P w=.ok zs[k] w:=by
   intro zs hz hag
   simp only[part,Sem.run_bind,oz hd,hag,Result.andThen_ok,Bool.false_eq_true,if_false,hoff]
   simp[hz]
  have fin: ∀(b e':Bool),fI (fx dt)=false→gb T (fs.map (·.type)) cs ds=some e'→(Op.equalIn (d+1) f.type us[k] vs[k]).run P w=.ok b w→e=(b&&e')→(Op.eqFields (d+1) us vs (f::fs)).run P w=.ok e w:=by
   intro b e' hag he' hb hee
   rw[Op.eqFields]
   simp only[if_pos hname,Sem.run_bind,hpart us hk1 hag,hpart vs hk2 hag,hb,Result.andThen_ok]
   subst hee
   cases b
   ·simp
   ·simpa using rest e' he'
  split at h
  ·rename_i k1 k2 a1 k3 b1 hu1
   by_cases hkk:k2=k3
   case neg=>rw[if_neg hkk]at h;cases h
   rw[if_pos hkk]at h
   subst hkk
   obtain⟨e',he',rfl⟩:=Option.map_eq_some_iff.1 h
   have hx:us[k]=.int k2 a1:=(hx.resolve_right (by simp[AV.flat])).1
   have hy:vs[k]=.int k2 b1:=(hy.resolve_right (by simp[AV.flat])).1
   have hdt:=nO (hut.symm.trans hu1)
   exact fin (a1==b1) e' (by rw[hdt];rfl) he' (by rw[hx,hy];exact run_equalIn_int w d f.type k2 k1 a1 b1 (by rw[hd,hdt])) rfl
  ·rename_i a1 b1 hu1
   obtain⟨e',he',rfl⟩:=Option.map_eq_some_iff.1 h
   have hx:us[k]=.bool a1:=hx.resolve_right (by simp[AV.flat])
   have hy:vs[k]=.bool b1:=hy.resolve_right (by simp[AV.flat])
   have hdt:=uO (hut.symm.trans hu1)
   exact fin (a1==b1) e' (by rw[hdt];rfl) he' (by rw[hx,hy];exact run_equalIn_bool' w d f.type a1 b1 (by rw[hd,hdt])) rfl
  ·rename_i a1 b1 hu1
   obtain⟨e',he',rfl⟩:=Option.map_eq_some_iff.1 h
   have hx:us[k]=.string ⟨a1.toArray⟩:=(hx.resolve_right (by simp[AV.flat])).1
   have hy:vs[k]=.string ⟨b1.toArray⟩:=(hy.resolve_right (by simp[AV.flat])).1
   have hdt:=jD (hut.symm.trans hu1)
   refine fin (a1==b1) e' (by rw[hdt];rfl) he' ?_ rfl
   rw[hx,hy]
   have:=run_equalIn_string (P:=P) w d f.type ⟨a1.toArray⟩ ⟨b1.toArray⟩ (by rw[hd,hdt])
   rw[Lib.toList_data,Lib.toList_data]at this
   simpa using this
  ·cases h
theorem AR.flat_SR{R:Cells}{loc:bG}{x:AV}{c:Value}{O:Cells}(h:AR w R loc x c O):SR x c∨x.flat=false:=by
 cases h with
 |sc h e=>exact .inl h
 |_=>exact .inr rfl
theorem Dz(hT:T.ok P)(h:RelC E st a w X loc ob){op:BinOp}{t ty:TypeId}{x y:Operand}(ho:o.op=.binOp op t x y ty)
  (hr:((cK x).bind fun a=>(cK y).bind fun b=>(C0 T (T.get t) op a b).bind il).run st=some r):Did P E o st a w X r:=by
 obtain⟨u,hu,hr⟩:=bind_some hr
 have hu:=bp h hu
 obtain⟨v,hv,hr⟩:=bind_some hr
 have hv:=bp h hv
 obtain⟨z,hz,hr⟩:=bind_some hr
 obtain rfl:=bA hr
 have key: ∀res,(eqGuard op t x y (a.eval x) (a.eval y)).run P w=.ok () w→(binOp op t (a.eval x) (a.eval y)).run P w=.ok res w→SR z res→Did P E o st a w X (z,[]):=by
  intro res h1 h2 h3
  refine Did.pure h (v:=res) ?_ (.sc h3 ah)
  obtain⟨_,op,_,_,_,_⟩:=o
  subst ho
  simp only[execOp]
  refine eF ?_
  simp only[Sem.run_bind,h1,Result.andThen_ok,h2]
 cases u with
 |int k n=>
  obtain⟨k',m,rfl⟩: ∃k' m,v=.int k' m:=by cases v<;>first|exact⟨_,_,rfl⟩|exact(ay hz).elim
  have hz:(sP op k k' n m).run st=some z:=hz
  obtain⟨res,h1,h2⟩:=xn (P:=P) (w:=w) hu.fits hz
  rw[qg op 0 t]at h1
  have e1:=hu.inv_int
  have e2:=hv.inv_int
  exact key res (iA (by rw[e1];exact⟨fun _ h=>Value.noConfusion h,fun h=>Value.noConfusion h⟩)) (by rw[e1,e2];exact h1) h2
 |str s=>
  obtain⟨s',rfl⟩: ∃s',v=.str s':=by cases v<;>first|exact⟨_,rfl⟩|exact(ay hz).elim
  have hz:(tE op s s').run st=some z:=hz
  obtain⟨res,h1,h2⟩:=wv (P:=P) (w:=w) hz
  have e1:=hu.inv_str
  have e2:=hv.inv_str
  refine key res (iA (by rw[e1];exact⟨fun _ h=>Value.noConfusion h,fun h=>Value.noConfusion h⟩)) ?_ h2
  rw[e1,e2]
  cases op<;>exact h1
 |bool b=>
  obtain⟨b',rfl⟩: ∃b',v=.bool b':=by cases v<;>first|exact⟨_,rfl⟩|exact(ay hz).elim
  simp only[C0]at hz
  split at hz
  case h_2=>exact(ay hz).elim
  rename_i i hi
  split at hz
  case h_2=>exact(ay hz).elim
  rename_i hut
  obtain⟨d,hd,hut'⟩:=(hT.at hi).und
  have hdb:=uO (hut'.symm.trans hut)
  subst hdb
  have e1:=hu.inv_bool
  have e2:=hv.inv_bool
  have hg:(eqGuard op t x y (a.eval x) (a.eval y)).run P w=.ok () w:=iA (by rw[e1];exact⟨fun _ h=>Value.noConfusion h,fun h=>Value.noConfusion h⟩)
  have heq:=run_equalIn_bool' (P:=P) w 9999 t b b' hd
  cases op<;>simp only[yr]at hz<;>try exact(ay hz).elim
  ·obtain rfl:=au hz
   refine key (.bool (b==b')) hg ?_ rfl
   rw[e1,e2]
   simp only[binOp,Op.equal,Op.maxDepth,Sem.run_bind,heq,Result.andThen_ok]
   rfl
  ·obtain rfl:=au hz
   refine key (.bool (!(b==b'))) hg ?_ rfl
   rw[e1,e2]
   simp only[binOp,Op.equal,Op.maxDepth,Sem.run_bind,heq,Result.andThen_ok]
   rfl
 |agg cs=>
  obtain⟨ds,rfl⟩: ∃ds,v=.agg ds:=by cases v<;>first|exact⟨_,rfl⟩|exact(ay hz).elim
  simp only[C0,Ak]at hz
  split at hz
  case h_2=>exact(ay hz).elim
  rename_i i hi
  obtain⟨heqs,hz⟩:=bb hz
  split at hz
  case h_2=>exact(ay hz).elim
  rename_i fs hut
  split at hz
  case h_2=>exact(ay hz).elim
  rename_i e hle
  obtain⟨us,e1,hus,hux⟩:=hu.inv_agg
  obtain⟨vs,e2,hvs,hvx⟩:=hv.inv_agg
  obtain⟨info,d,zv,h1,hd,h3,h4,h5,h6,hut',h7,h8⟩:=(hT.at hi).ex
  rw[hut']at hut
  obtain⟨fa,rfl,rfl⟩:=jN hut
  rw[h8]at heqs
  simp only[BK,Bool.and_eq_true,beq_iff_eq,List.all_eq_true,bne_iff_ne,Bool.not_eq_true']at heqs
  obtain⟨⟨⟨hnm,hof⟩,hst⟩,hgt⟩:=heqs
  have hfo:P.fieldsOf t=fa:=by simp[Program.fieldsOf,hd]
  have hrun:(Op.equalIn 10000 t (.agg us) (.agg vs)).run P w=.ok e w:=by
   rw[run_equalIn_struct w 9999 t us vs (by rw[hfo];exact hd) hst,hfo]
   refine pY hT 9998 us vs fa.toList 0 cs ds e (by rw[List.map_map]at hle;exact hle) (fun j f hf=> ?_) (fun j x' c h1 h2=>(hux j x' c h1 (by simpa using h2)).flat_SR) (fun j x' c h1 h2=>(hvx j x' c h1 (by simpa using h2)).flat_SR) (by omega) (by omega)
   refine⟨?_,hnm f (List.mem_of_getElem? hf)⟩
   have:(fa.toList.map (·.offset))[j]? =some f.offset:=by simp only[List.getElem?_map,hf,Option.map_some]
   rw[hof]at this
   have hj:j<fa.size:=by have:=(List.getElem?_eq_some_iff.1 hf).1;simpa using this
   rw[List.getElem?_range hj]at this
   injection this with this
   omega
  have hg:(eqGuard op t x y (a.eval x) (a.eval y)).run P w=.ok () w:=by rw[e1,e2];exact run_eqGuard_agg w op t x y us vs hgt
  split at hz
  ·obtain rfl:=au hz
   refine key (.bool e) hg ?_ rfl
   rw[e1,e2,run_eql_struct,hrun]
   rfl
  ·obtain rfl:=au hz
   refine key (.bool (!e)) hg ?_ rfl
   rw[e1,e2,run_neq_struct,hrun]
   rfl
  ·exact(ay hz).elim
 |_=>exact(ay hz).elim
end
end Go.Abs

/- The abstract layer, 8: cutting slices; struct literals. -/
noncomputable section
namespace Go.Abs
open Go
section
variable{P:Program}{T:TT}{E:Env}{o:Oper}{st:St}{a:Act}{w:World}{X:Cells}{loc:bG}{ob:Nat→Cells}{r:di}
theorem qi(h:RelC E st a w X loc ob){x:Option Operand}{n m:Nat}(hr:(uM x n).run st=some m):
  (x=none∧m=n)∨ ∃y k,x=some y∧a.eval y=.int k m:=by
 cases x with
 |none=>exact .inl ⟨rfl,(au (st:=st) hr).symm⟩
 |some y=>
  obtain⟨v,hv,hr⟩:=bind_some hr
  have hv:=bp h hv
  obtain⟨k,i,rfl,h0,rfl⟩:=hU hr
  refine .inr ⟨y,k,rfl,?_⟩
  rw[hv.inv_int]
  congr 1
  omega
theorem kP{k:IntKind}{n y:Nat}(code:BoundsCode)(hn:n≤y)(w:World):(Instr.sliceBound (.int k n) y code).run P w=.ok n w:=by
 simp only[Instr.sliceBound,Sem.run_bind,iI,Result.andThen_ok]
 have:(0:Int)≤n∧(n:Int)≤y:=⟨by omega,by omega⟩
 simp only[this,and_self,if_true]
 rfl
theorem gw(h:RelC E st a w X loc ob){lo hi:Option Operand}{l hh len cap:Nat}(b:Bool)(hl:(uM lo 0).run st=some l)(hh':(uM hi len).run st=some hh)(h1:l≤hh)(h2:hh≤cap)(h3:len≤cap):
  (Instr.sliceBounds b len cap (lo.map a.eval) (hi.map a.eval) none).run P w=.ok (l,hh,cap) w:=by
 have eL:(match lo.map a.eval with
   |some v=>do
    let l ←Instr.sliceBound v hh (if(none:Option Value).isSome then .slice3C else .sliceB)
    pure (l,hh,cap)
   |none=>do
    let l ←pure 0
    pure (l,hh,cap):Sem (Nat × Nat × Nat)).run P w=.ok (l,hh,cap) w:=by
  rcases qi h hl with⟨rfl,rfl⟩|⟨y,k,rfl,hy⟩
  ·rfl
  ·simp only[Option.map_some,hy,Sem.run_bind,kP _ h1 w,Result.andThen_ok,Sem.run_pure]
 rcases qi h hh' with⟨rfl,rfl⟩|⟨y,k,rfl,hy⟩
 ·simp only[Instr.sliceBounds,Option.map_none,Sem.run_bind,Sem.run_pure,Result.andThen_ok]
  exact eL
 ·simp only[Instr.sliceBounds,Option.map_some,hy,Sem.run_bind,Sem.run_pure,Result.andThen_ok]
  rw[kP _ h2 w]
  simp only[Result.andThen_ok]
  exact eL
theorem vF(hT:T.ok P){t:TypeId}{s:Nat}{d:TypeDesc}{i:TI}(hi:T.get t=some i)(hut:i.ut=fx d)(hs:(zY T t).run st=some s):
  d=.string∨ ∃el e,TIok P el e∧e.size=s∧(d=.slice el∨ ∃n,d=.array n el):=by
 obtain⟨i',hi',hs⟩:=bind_some hs
 have hi':=cL hi'
 rw[hi]at hi'
 injection hi' with hi'
 subst hi'
 split at hs
 ·rename_i e hu
  obtain⟨j,hj,hs⟩:=bind_some hs
  obtain rfl:=au hs
  exact .inr ⟨e,j,hT.at (cL hj),rfl,.inl (fC (hut.symm.trans hu))⟩
 ·rename_i n e hu
  obtain⟨j,hj,hs⟩:=bind_some hs
  obtain rfl:=au hs
  exact .inr ⟨e,j,hT.at (cL hj),rfl,.inr ⟨n,lF (hut.symm.trans hu)⟩⟩
 ·rename_i hu
  exact .inl (jD (hut.symm.trans hu))
 ·exact(ay hs).elim
theorem BR.arr_len{R:Cells}{loc:bG}{b:Nat}{blk:Blk}{O:Cells}(h:BR w R loc b blk O)(ha:blk.arr=true):blk.rows.length≤cj:=by
 cases h with
 |arr0 _ _ _ _ _ _=>exact Nat.zero_le _
 |arr l vs os hl hbd hs hn hb hw hc hx hO hd hdd h0 h1 hm=>exact hm
 |var _ _ _ _ _ _ _ _ _ _ _ _ _ _=>cases ha
theorem zf(hT:T.ok P)(h:RelC E st a w X loc ob){t:TypeId}{x:Operand}{lo hi:Option Operand}(ho:o.op=.slice t x lo hi none)(hr:(yQ T t x lo hi).run st=some r):Did P E o st a w X r:=by
 obtain⟨xv,hx,hr⟩:=bind_some hr
 have hx:=bp h hx
 obtain⟨_,hf,hr⟩:=bind_some hr
 obtain⟨ti,d,hti,hd,hut,hfit⟩:=oP hT hf
 obtain⟨s,hs,hr⟩:=bind_some hr
 have hwid:=vF hT hti hut hs
 obtain⟨v,hv,hr⟩:=bind_some hr
 obtain⟨l,hl,hr⟩:=bind_some hr
 obtain⟨len,hlen,hr⟩:=bind_some hr
 obtain⟨hh,hhi,hr⟩:=bind_some hr
 obtain⟨hq,hcut⟩:=bb hr
 clear hr
 simp only[Bool.and_eq_true,decide_eq_true_eq]at hq
 obtain⟨hq1,hq2⟩:=hq
 -- the machine's way over a slice
 have keyS: ∀(ad:Option Addr)(cap:Nat),(∃el e,TIok P el e∧e.size=s∧d=.slice el)→a.eval x=.slice ad len cap→len≤cap→
   (execOp a.eval o).run P w=.ok (.value (.slice (if cap=l then ad else ad.map (·.add (l*s))) (hh-l) (cap-l))) w:=by
  rintro ad cap ⟨el,e,hel,rfl,rfl⟩ hax hc
  obtain⟨_,op,_,_,_,_⟩:=o
  subst ho
  simp only[execOp,Option.map_none]
  refine eF ?_
  have hb:=gw (P:=P) h true hl hhi hq1 (Nat.le_trans hq2 hc) hc
  simp only[Instr.sliceAt,Instr.slice,Sem.run_bind,run_underlying hd,Result.andThen_ok,hax,hb,hel.size w,Sem.run_pure]
 rcases sL hv with⟨rfl,hnp⟩|⟨b,blk,rfl,hm,harr,rfl⟩
 ·have hds:(∀s',v≠.str s')→ ∃el e,TIok P el e∧e.size=s∧d=.slice el:=by
   intro hns
   rcases hfit with⟨e',rfl,h1⟩|⟨_,_,b',x',y',_,_,h1,_⟩|⟨rfl,s',h1⟩
   ·rcases hwid with h2|⟨el,e,h2,h3,h4|⟨_,h4⟩⟩
    ·cases h2
    ·exact⟨el,e,h2,h3,h4⟩
    ·cases h4
   ·exact absurd h1 (hnp _ _ _)
   ·exact absurd h1 (hns s')
  cases v with
  |str b=>
   obtain rfl:=bA hcut
   have hd':d=.string:=by
    rcases hfit with⟨e',rfl,h1⟩|⟨_,_,_,_,_,_,_,h1,_⟩|⟨rfl,_⟩
    ·rcases h1 with⟨_,_,_,h1⟩|⟨_,_,h1⟩|h1<;>cases h1
    ·cases h1
    ·rfl
   subst hd'
   obtain rfl:=au (st:=st) hlen
   refine Did.pure h (v:=.string ((ByteArray.mk b.toArray).extract l hh)) ?_ (.sc ?_ ah)
   ·obtain⟨_,op,_,_,_,_⟩:=o
    subst ho
    simp only[execOp,Option.map_none]
    refine eF ?_
    have hb:=gw (P:=P) (cap:=b.length) h false hl hhi hq1 hq2 (Nat.le_refl _)
    simp only[Instr.sliceAt,Instr.slice,Sem.run_bind,run_underlying hd,Result.andThen_ok,hx.inv_str,nw,hb,Sem.run_pure,Option.isSome_none,Bool.false_eq_true,if_false]
   ·refine⟨?_,by have:=hx.str_len;rw[List.length_take,List.length_drop];omega⟩
    show Value.string _=Value.string _
    congr 1
    apply ByteArray.ext
    rw[ByteArray.data_extract]
    simp[List.extract_eq_take_drop]
  |ref b off n=>
   have hln:len=n:=(au (st:=st) hlen).symm
   subst hln
   replace hcut:=cM hcut
   obtain⟨blk,hm,hcut⟩:=bind_some hcut
   obtain⟨hm,harr⟩:=dC hm
   obtain⟨hq,hcut⟩:=bb hcut
   have hz:blk.z.length=s:=by simpa using hq
   obtain rfl:=bA hcut
   obtain⟨lc,hlc,hn,ad,cap,hav,hcap,hcase⟩:=hx.inv_ref
   refine Did.pure h (keyS ad cap (hds fun _ h=>AV.noConfusion h) hav hcap) ?_
   have hs:=((h.lv b blk hm).width hlc).1
   by_cases hcl:cap=l
   ·rw[if_pos hcl]
    have h1:hh-l=0:=by omega
    have h2:cap-l=0:=by omega
    rw[h1,h2]
    exact .ref0 lc ah hlc (by omega)
   ·rw[if_neg hcl]
    rcases hcase with⟨h0,h0'⟩|⟨hbd,rfl,hbf⟩
    ·omega
    ·simp only[Option.map_some,ee]
     rw[hz]at hs
     have:=AR.ref (w:=w) (R:=RS E w (al ob X)) (loc:=loc) (b:=b) (off:=off+l) (len:=hh-l) (cap:=cap-l) (O:=ae) lc ah hlc hbd (by omega) (by omega)
      (by rw[show off+l+(cap-l)=off+cap by omega];exact hbf)
     rw[hs,Nat.add_mul,←Nat.add_assoc]at this
     rw[hs]
     exact this (by have:=hx.ref_len;omega)
  |ro z rows=>
   have hln:len=rows.length:=(au (st:=st) hlen).symm
   subst hln
   obtain⟨hq,hcut⟩:=bb hcut
   have hz:z.length=s:=by simpa using hq
   obtain rfl:=bA hcut
   obtain⟨ad,cap,hav,hcap,hcase⟩:=hx.inv_ro
   refine Did.pure h (keyS ad cap (hds fun _ h=>AV.noConfusion h) hav hcap) ?_
   have hsl:(am rows l (hh-l)).length=hh-l:=by simp[am];omega
   by_cases he:hh-l=0
   ·have:am rows l (hh-l)=[]:=List.eq_nil_of_length_eq_zero (by rw[hsl,he])
    rw[this,he]
    exact .ro0 ah
   ·have hcl: ¬cap=l:=by omega
    rw[if_neg hcl]
    rcases hcase with rfl|⟨g,off,vs,hpos,rfl,hg,hW,hc,hxx,hpp⟩
    ·simp at hq2;omega
    ·simp only[Option.map_some,ee]
     have hget: ∀i,i<hh-l→(am rows l (hh-l))[i]? =rows[l+i]? :=fun i hi=>by simp[am,hi]
     have hmem: ∀row∈am rows l (hh-l),row∈rows:=fun row hr=>List.mem_of_mem_drop (List.mem_of_mem_take hr)
     have:=AR.ro (w:=w) (R:=RS E w (al ob X)) (loc:=loc) (z:=z) (rows:=am rows l (hh-l)) (g:=g) (o:=off+l*s) (cap:=cap-l) (O:=ae) (fun i j=>vs (l+i) j) ah (by omega) (by omega) hg
      ⟨fun row hr=>hW.len row (hmem row hr),fun row hr=>hW.known row (hmem row hr)⟩
      (fun i j hi hj=>by
       have:=hc (l+i) j (by omega) hj
       rw[Nat.add_mul,←Nat.add_assoc]at this
       rw[hz]at this⊢
       exact this)
      (fun i j row x h1 h2=>hxx (l+i) j row x (by rw[←hget i (by have:=(List.getElem?_eq_some_iff.1 h1).1;omega)];exact h1) h2) (fun row hr=>hpp row (hmem row hr))
     rw[hsl]at this
     exact this (by have:=hx.ro_len;omega)
  |emp=>
   have hln:len=0:=(au (st:=st) hlen).symm
   subst hln
   obtain rfl:=bA hcut
   obtain⟨ad,hav⟩:=hx.inv_emp
   refine Did.pure h (keyS ad 0 (hds fun _ h=>AV.noConfusion h) hav (Nat.le_refl _)) (.sc ?_ ah)
   have:l=0:=by omega
   subst this
   have:hh=0:=by omega
   subst this
   exact⟨_,rfl⟩
  |_=>exact(ay hcut).elim
 ·have hln:len=blk.rows.length:=(au (st:=st) hlen).symm
  subst hln
  replace hcut:=cM hcut
  obtain⟨blk',hm',hcut⟩:=bind_some hcut
  obtain⟨hm',_⟩:=dC hm'
  rw[hm]at hm'
  injection hm' with hm'
  subst hm'
  obtain⟨hq,hcut⟩:=bb hcut
  have hz:blk.z.length=s:=by simpa using hq
  obtain rfl:=bA hcut
  obtain⟨lc,hlc,hbd,hi0,hav⟩:=hx.inv_ptr
  obtain⟨hs,hln⟩:=(h.lv b blk hm).width hlc
  rw[hz]at hs
  have hda: ∃el e,TIok P el e∧e.size=s∧d=.array blk.rows.length el:=by
   rcases hfit with⟨e',rfl,h1⟩|⟨n,e',b',x',y',blk',rfl,h1,h2,_,h3⟩|⟨rfl,_,h1⟩
   ·rcases h1 with⟨_,_,_,h1⟩|⟨_,_,h1⟩|h1<;>cases h1
   ·injection h1 with h1
    subst h1
    rw[hm]at h2
    injection h2 with h2
    subst h2
    rcases hwid with h2|⟨el,e,h2,h4,h5|⟨_,h5⟩⟩
    ·cases h2
    ·cases h5
    ·injection h5 with h5 h6
     subst h6
     exact⟨e',e,h2,h4,by rw[h3]⟩
   ·cases h1
  obtain⟨el,e,hel,hes,rfl⟩:=hda
  have hbf:BF w lc.g (lc.base+blk.rows.length*blk.z.length):=by
   have:=h.lv b blk hm
   cases this with
   |arr0 l' hl' hn' _ _ _=>rw[hlc]at hl';injection hl' with hl';subst hl';omega
   |arr l' vs os hl' hbd' _ _ hb _ _ _ _ _ _ _ _=>rw[hlc]at hl';injection hl' with hl';subst hl';exact hb
   |var l' vs os hl' _ _ _ _ _ _ _ _ _ _=>simp at harr
  have hrun:(execOp a.eval o).run P w=.ok (.value (.slice (some (if blk.rows.length=l then⟨lc.g,lc.base,none⟩else⟨lc.g,lc.base+l*s,none⟩)) (hh-l) (blk.rows.length-l))) w:=by
   obtain⟨_,op,_,_,_,_⟩:=o
   subst ho
   simp only[execOp,Option.map_none]
   refine eF ?_
   have hb:=gw (P:=P) (cap:=blk.rows.length) h false hl hhi hq1 hq2 (Nat.le_refl _)
   have hav':a.eval x=.pointer (some ⟨lc.g,lc.base,none⟩):=by rw[hav];simp
   simp only[Instr.sliceAt,Instr.sureAddr,Sem.run_bind,run_underlying hd,Result.andThen_ok,hav',hb,hel.size w,Sem.run_pure,hes,ee]
  refine Did.pure h hrun ?_
  by_cases hcl:blk.rows.length=l
  ·rw[if_pos hcl]
   have h1:hh-l=0:=by omega
   have h2:blk.rows.length-l=0:=by omega
   rw[h1,h2]
   exact .ref0 lc ah hlc (by omega)
  ·rw[if_neg hcl]
   have:=AR.ref (w:=w) (R:=RS E w (al ob X)) (loc:=loc) (b:=b) (off:=0+l) (len:=hh-l) (cap:=blk.rows.length-l) (O:=ae) lc ah hlc hbd (by omega) (by omega)
    (by rw[show 0+l+(blk.rows.length-l)=blk.rows.length by omega,hs];rw[hz]at hbf;exact hbf)
   rw[hs,Nat.zero_add]at this
   rw[Nat.zero_add]
   have hbl:blk.rows.length≤cj:=(h.lv b blk hm).arr_len harr
   exact this (by omega)
theorem rd: ∀(l:List Value)(off s:Nat)(cells:Array Value),((l.zipIdx s).foldl (fun cs p=>cs.setIfInBounds (off+p.2) p.1) cells).size=cells.size∧
  ∀k,((l.zipIdx s).foldl (fun cs p=>cs.setIfInBounds (off+p.2) p.1) cells)[k]? =if off+s≤k∧k<off+s+l.length∧k<cells.size then l[k-(off+s)]? else cells[k]?
 |[],off,s,cells=>⟨rfl,fun k=>by
   have: ¬(off+s≤k∧k<off+s+([]:List Value).length∧k<cells.size):=by simp;omega
   rw[if_neg this];rfl⟩
 |x::l,off,s,cells=>by
  obtain⟨h1,h2⟩:=rd l off (s+1) (cells.setIfInBounds (off+s) x)
  simp only[List.zipIdx_cons,List.foldl_cons]
  refine⟨by rw[h1];simp,fun k=> ?_⟩
  rw[h2 k]
  simp only[Array.size_setIfInBounds,List.length_cons]
  by_cases hk:k=off+s
  ·subst hk
   have e1: ¬(off+(s+1)≤off+s∧off+s<off+(s+1)+l.length∧off+s<cells.size):=by omega
   rw[if_neg e1]
   by_cases hlt:off+s<cells.size
   ·have e2:off+s≤off+s∧off+s<off+s+(l.length+1)∧off+s<cells.size:=by omega
    rw[if_pos e2]
    simp[hlt]
   ·have e2: ¬(off+s≤off+s∧off+s<off+s+(l.length+1)∧off+s<cells.size):=by omega
    rw[if_neg e2]
    simp[hlt]
  ·by_cases hc:off+s≤k∧k<off+s+(l.length+1)∧k<cells.size
   ·have e1:off+(s+1)≤k∧k<off+(s+1)+l.length∧k<cells.size:=by omega
    rw[if_pos hc,if_pos e1]
    rw[show k-(off+s)=(k-(off+(s+1)))+1 by omega]
    simp
   ·have e1: ¬(off+(s+1)≤k∧k<off+(s+1)+l.length∧k<cells.size):=by omega
    rw[if_neg hc,if_neg e1]
    rw[Array.getElem?_setIfInBounds_ne (Ne.symm hk)]
def LR(w:World)(R:Cells)(loc:bG)(cs:List AV)(cells:Array Value):Prop:=cells.size=cs.length∧ ∀(k:Nat) x c,cs[k]? =some x→cells[k]? =some c→AR w R loc x c ae
theorem gD(row:List AV)(j:Nat)(vs:List AV)(h:j+vs.length≤row.length)(k:Nat):(setCells row j vs)[k]? =if j≤k∧k<j+vs.length then vs[k-j]? else row[k]? :=by
 unfold setCells
 by_cases h1:k<j
 ·rw[if_neg (by omega),List.append_assoc,List.getElem?_append_left (by rw[List.length_take];omega),List.getElem?_take,if_pos h1]
 ·by_cases h2:k<j+vs.length
  ·rw[if_pos ⟨by omega,h2⟩,List.append_assoc,List.getElem?_append_right (by rw[List.length_take];omega),List.getElem?_append_left (by rw[List.length_take];omega),List.length_take]
   congr 1;omega
  ·rw[if_neg (by omega),List.getElem?_append_right (by rw[List.length_append,List.length_take];omega),List.getElem?_drop,List.length_append,List.length_take]
   congr 1;omega
theorem uf(row:List AV)(j:Nat)(vs:List AV)(h:j+vs.length≤row.length):(setCells row j vs).length=row.length:=by
 simp[setCells];omega
theorem sx{R:Cells}{loc:bG}(place:Nat→Option (Nat × Nat)): ∀(ps:List (Nat × AV))(cps:List (Nat × Value))(cs cs':List AV)(cells:Array Value),ve place cs ps=some cs'→LR w R loc cs cells→
  ps.length=cps.length→(∀(k:Nat) p c,ps[k]? =some p→cps[k]? =some c→p.1=c.1∧AR w R loc p.2 c.2 ae∧p.2.leaves.all AV.light=true)→
  ∃cells',Instr.fill place cells cps=some cells'∧LR w R loc cs' cells'
 |[],[],cs,cs',cells,h,hl,_,_=>by simp only[ve]at h;injection h with h;subst h;exact⟨cells,rfl,hl⟩
 |[],_::_,_,_,_,_,_,h,_=>by simp at h
 |_::_,[],_,_,_,_,_,h,_=>by simp at h
 |(i,x)::ps,(i',v)::cps,cs,cs',cells,h,hl,hlen,hp=>by
  obtain⟨rfl,hx,hlt⟩:=hp 0 (i,x) (i',v) (by simp) (by simp)
  simp only[ve]at h
  split at h
  case h_2=>cases h
  rename_i o ho
  split at h
  case isFalse=>cases h
  rename_i hc
  obtain⟨hn,hone,hxx⟩:=hx.leaves hlt
  have hsz:v.cells.size=x.leaves.length:=by simpa using hn
  obtain⟨f1,f2⟩:=rd v.cells.toList o.1 0 cells
  have hfold:v.cells.zipIdx.foldl (fun cs(p:Value × Nat)=>cs.setIfInBounds (o.1+p.2) p.1) cells=(v.cells.toList.zipIdx 0).foldl (fun cs p=>cs.setIfInBounds (o.1+p.2) p.1) cells:=by
   rw[←Array.foldl_toList]
   simp
  have hl':LR w R loc (setCells cs o.1 x.leaves) (v.cells.zipIdx.foldl (fun cs(p:Value × Nat)=>cs.setIfInBounds (o.1+p.2) p.1) cells):=by
   rw[hfold]
   refine⟨by rw[f1,uf _ _ _ (by omega)];exact hl.1,fun k y c h1 h2=> ?_⟩
   rw[f2 k]at h2
   rw[gD _ _ _ (by omega)]at h1
   simp only[Nat.add_zero,Array.length_toList,hsz]at h2
   by_cases hin:o.1≤k∧k<o.1+x.leaves.length
   ·rw[if_pos hin]at h1
    rw[if_pos ⟨hin.1,hin.2,by rw[hl.1];omega⟩]at h2
    exact hxx _ y c h1 h2
   ·rw[if_neg hin]at h1
    rw[if_neg (by omega)]at h2
    exact hl.2 k y c h1 h2
  obtain⟨cells',h3,h4⟩:=sx place ps cps _ cs' _ h hl' (by simpa using hlen) (fun k p c h1 h2=>hp (k+1) p c (by simpa using h1) (by simpa using h2))
  refine⟨cells',?_,h4⟩
  simp only[Instr.fill,ho]
  have: ¬((decide (v.cells.size≠o.2)||decide (o.1+v.cells.size>cells.size))=true):=by
   simp only[Bool.or_eq_true,decide_eq_true_eq,not_or]
   rw[hsz,hl.1]
   omega
  rw[if_neg this]
  exact h3
theorem qt(hT:T.ok P)(w:World): ∀(fs:List Field),(∀f∈fs,(T.get f.type).isSome=true)→
  ∃pl:List (Nat × Nat),(fs.mapM (m:=Sem) fun f=>do pure (f.offset,←sizeOf f.type)).run P w=.ok pl w∧ ∀i:Nat,pl[i]? =iY T (fs.map fun f=>(f.offset,f.type)) i
 |[],_=>⟨[],rfl,fun i=>by simp[iY]⟩
 |f::fs,h=>by
  obtain⟨pl,h1,h2⟩:=qt hT w fs (fun g hg=>h g (by simp[hg]))
  obtain⟨j,hj⟩:=Option.isSome_iff_exists.1 (h f (by simp))
  refine⟨(f.offset,j.size)::pl,?_,fun i=> ?_⟩
  ·simp only[List.mapM_cons,Sem.run_bind,(hT.at hj).size w,Result.andThen_ok,Sem.run_pure,h1]
  ·cases i with
   |zero=>simp[iY,hj]
   |succ i=>
    have:=h2 i
    simp only[List.getElem?_cons_succ,this]
    simp[iY]
theorem zM(hT:T.ok P)(h:RelC E st a w X loc ob){t:TypeId}{ps:Array (Nat × Operand)}(ho:o.op=.build t ps)(hr:(xM T t ps.toList).run st=some r):Did P E o st a w X r:=by
 obtain⟨i,hi,hr1⟩:=bind_some hr
 have hti:=hT.at (cL hi)
 obtain⟨d,hd,hut⟩:=hti.und
 obtain⟨z,hz,hzs,hzl⟩:=hti.zeroV w
 split at hr1
 case h_3=>exact(ay hr1).elim
 case h_2=>
  rename_i n e hfs
  rw[hut]at hfs
  obtain rfl:=lF hfs
  split at hr1
  case h_2=>exact(ay hr1).elim
  rename_i hps
  obtain⟨j,hj,hr2⟩:=bind_some hr1
  have htj:=hT.at (cL hj)
  obtain rfl:=bA hr2
  have hps:ps.toList=[]:=hps
  refine Did.pure h (v:=.agg z.cells) ?_ ?_
  ·obtain⟨_,op,_,_,_,_⟩:=o
   subst ho
   simp only[execOp]
   refine eF ?_
   have hpl':(ps.map fun(p:Nat × Operand)=>(p.1,a.eval p.2)).toList=[]:=by simp[hps]
   simp only[Instr.build,Sem.run_bind,hz,Result.andThen_ok,run_underlying hd,htj.size w,hpl',Instr.fill]
   rfl
  ·refine .agg (fun _=>ae) (by rw[hzl];simp) (fun k x c h1 h2=> ?_) ⟨fun g o=>⟨fun k=>k.elim,fun⟨_,_,k⟩=>k.elim⟩,fun _ _ _ _ _ _ _ k=>k.elim⟩
   exact jl hzl k x c h1 (by simpa using h2)
 rename_i fs hfs
 rw[hut]at hfs
 obtain⟨fa,rfl,rfl⟩:=jN hfs
 obtain⟨vs,hvs,hr2⟩:=bind_some hr1
 obtain⟨hq,hr3⟩:=bb hr2
 simp only[Bool.and_eq_true,List.all_eq_true]at hq
 obtain⟨cs,hcs,hr4⟩:=bind_some hr3
 have hcs:=jR hcs
 obtain rfl:=bA hr4
 obtain⟨hl,hx⟩:=dR h hvs
 obtain⟨pl,hpl,hpf⟩:=qt hT w fa.toList (fun f hf=>hq.2 (f.offset,f.type) (List.mem_map.2 ⟨f,hf,rfl⟩))
 have hz0:LR w (RS E w (al ob X)) loc i.zero z.cells:=⟨by rw[hzl];simp,fun k y c h1 h2=>jl hzl k y c h1 (by simpa using h2)⟩
 obtain⟨cells',hfill,hlr⟩:=sx (iY T (fa.toList.map fun f=>(f.offset,f.type))) ((ps.toList.map (·.1)).zip vs) (ps.toList.map fun p=>(p.1,a.eval p.2)) i.zero cs z.cells hcs hz0
  (by simp[hl]) (fun k p c h1 h2=>by
   simp only[List.getElem?_map,Option.map_eq_some_iff]at h2
   obtain⟨q,hq1,rfl⟩:=h2
   rw[List.getElem?_zip_eq_some]at h1
   obtain⟨h3,h4⟩:=h1
   simp only[List.getElem?_map,hq1,Option.map_some]at h3
   injection h3 with h3
   exact⟨h3.symm,hx k p.2 q.2 h4 (by simp[hq1]),List.all_eq_true.2 (hq.1 p.2 (List.mem_of_getElem? h4)|>fun hh=>by simpa using hh)⟩)
 refine Did.pure h (v:=.agg cells') ?_ ?_
 ·obtain⟨_,op,_,_,_,_⟩:=o
  subst ho
  simp only[execOp]
  refine eF ?_
  have hplaces:(fa.mapM (m:=Sem) fun f=>do pure (f.offset,←sizeOf f.type)).run P w=.ok pl.toArray w:=by
   rw[Array.mapM_eq_mapM_toList]
   have e: ∀X:Sem (List (Nat × Nat)),(List.toArray<$>X:Sem (Array (Nat × Nat)))=(do let l ←X;pure l.toArray):=fun _=>rfl
   rw[e,Sem.run_bind,hpl,Result.andThen_ok]
   rfl
  have hfun:(pl.toArray[·]?)=iY T (fa.toList.map fun f=>(f.offset,f.type)):=by
   funext i
   rw[←hpf i]
   simp
  simp only[Instr.build,Sem.run_bind,hz,Result.andThen_ok,run_underlying hd,hplaces,hfun]
  have hpl':(ps.map fun(p:Nat × Operand)=>(p.1,a.eval p.2)).toList=ps.toList.map fun p=>(p.1,a.eval p.2):=by simp
  rw[hpl',hfill]
  rfl
 ·exact .agg (fun _=>ae) hlr.1 (fun k x c h1 h2=>hlr.2 k x c h1 h2) ⟨fun g o=>⟨fun k=>k.elim,fun⟨_,_,k⟩=>k.elim⟩,fun _ _ _ _ _ _ _ k=>k.elim⟩
end
end Go.Abs

/- The abstract layer, 9: new arrays. -/
noncomputable section
namespace Go.Abs
open Go
section
variable{P:Program}{T:TT}{E:Env}{o:Oper}{st:St}{a:Act}{w:World}{X:Cells}{loc:bG}{ob:Nat→Cells}{r:di}
structure LRows(w:World)(R:Cells)(s:Nat)(rows:List (List AV))(cells:Array Value):Prop where
 size:rows.length*s≤cells.size
 wid: ∀row∈rows,row.length=s
 at_: ∀i j row x,rows[i]? =some row→row[j]? =some x→AR w R aC x (cells.getD (i*s+j) undef) ae
theorem ik{i j n s:Nat}(hi:i<n)(hj:j<s):i*s+j<n*s:=by
 have:(i+1)*s≤n*s:=Nat.mul_le_mul_right _ hi
 rw[Nat.add_mul,Nat.one_mul]at this
 omega
theorem yx{i j s:Nat}(hj:j<s):(i*s+j)%s=j:=by rw[Nat.mul_comm,Nat.mul_add_mod];exact Nat.mod_eq_of_lt hj
theorem rT{R:Cells}{z:Value}{l:List AV}{s n m:Nat}(hl:l=z.cells.toList.map ofVal)(hs:z.cells.size=s)(h0:0<s)(hn:n≤m):
  LRows w R s (List.replicate n l) ((Array.range (m*s)).map (z.cells[· %z.cells.size]!)):=by
 have hle:n*s≤m*s:=Nat.mul_le_mul_right _ hn
 refine⟨by simpa using hle,fun row hr=>by rw[List.eq_of_mem_replicate hr,hl];simpa using hs,fun i j row x h1 h2=> ?_⟩
 have hi:i<n:=by have:=(List.getElem?_eq_some_iff.1 h1).1;simpa using this
 obtain rfl:l=row:=by
  rw[List.getElem?_replicate,if_pos hi]at h1
  injection h1
 have hj:j<s:=by have:=(List.getElem?_eq_some_iff.1 h2).1;rw[hl]at this;simp at this;omega
 have hlt:=ik hi hj
 have hc:((Array.range (m*s)).map (z.cells[· %z.cells.size]!)).getD (i*s+j) undef=z.cells[j]! :=by
  have:i*s+j<m*s:=by omega
  simp[this,hs,yx hj]
 rw[hc]
 have hz:z.cells.toList[j]? =some z.cells[j]! :=by
  have:j<z.cells.size:=by omega
  simp[this]
 exact jl hl j x _ h2 hz
theorem pk: ∀(ps:List (Nat × AV))(rows:List (List AV)),(gf rows ps).length=rows.length
 |[],_=>rfl
 |(i,v)::ps,rows=>by simp only[gf];rw[pk ps];simp
theorem sb{R:Cells}{loc:bG}{s:Nat}: ∀(ps:List (Nat × AV))(cps:List (Nat × Value))(rows:List (List AV))(cells:Array Value),LRows w R s rows cells→ps.length=cps.length→
  (∀(k:Nat) p c,ps[k]? =some p→cps[k]? =some c→p.1=c.1∧AR w R loc p.2 c.2 ae∧p.2.leaves.all AV.plain=true∧p.2.leaves.length=s∧p.1<rows.length)→
  ∃cells',Instr.fill (fun i=>some (i*s,s)) cells cps=some cells'∧LRows w R s (gf rows ps) cells'∧cells'.size=cells.size
 |[],[],rows,cells,h,_,_=>⟨cells,rfl,h,rfl⟩
 |[],_::_,_,_,_,h,_=>by simp at h
 |_::_,[],_,_,_,h,_=>by simp at h
 |(i,x)::ps,(i',v)::cps,rows,cells,hl,hlen,hp=>by
  obtain⟨rfl,hx,hpl,hxs,hi⟩:=hp 0 (i,x) (i',v) (by simp) (by simp)
  simp only at hx hpl hxs hi
  have hlt:x.leaves.all AV.light=true:=List.all_eq_true.2 fun y hy=>cR (List.all_eq_true.1 hpl y hy)
  obtain⟨hn,hone,hxx⟩:=hx.leaves hlt
  have hsz:v.cells.size=s:=by rw[←hxs];simpa using hn
  obtain⟨f1,f2⟩:=rd v.cells.toList (i*s) 0 cells
  have hfold:v.cells.zipIdx.foldl (fun cs(p:Value × Nat)=>cs.setIfInBounds (i*s+p.2) p.1) cells=(v.cells.toList.zipIdx 0).foldl (fun cs p=>cs.setIfInBounds (i*s+p.2) p.1) cells:=by
   rw[←Array.foldl_toList]
   simp
  have hl':LRows w R s (rows.set i x.leaves) (v.cells.zipIdx.foldl (fun cs(p:Value × Nat)=>cs.setIfInBounds (i*s+p.2) p.1) cells):=by
   rw[hfold]
   refine⟨by rw[f1];simpa using hl.size,fun row hr=> ?_,fun i' j row y h1 h2=> ?_⟩
   ·rcases List.mem_or_eq_of_mem_set hr with hr|rfl
    ·exact hl.wid row hr
    ·exact hxs
   ·have hi':i'<rows.length:=by have:=(List.getElem?_eq_some_iff.1 h1).1;simpa using this
    have hsp:=hl.size
    simp only[Array.length_toList,hsz,Nat.add_zero]at f2
    by_cases he:i'=i
    ·subst he
     rw[List.getElem?_set_self hi']at h1
     injection h1 with h1
     subst h1
     have hj:j<s:=by rw[←hxs];exact(List.getElem?_eq_some_iff.1 h2).1
     have hb:=ik hi' hj
     have:=f2 (i'*s+j)
     rw[if_pos ⟨by omega,by omega,by omega⟩]at this
     have hc:v.cells.toList[j]? =some (v.cells.getD j undef):=by simp[hsz,hj]
     rw[show i'*s+j-i'*s=j by omega,hc]at this
     have e:((v.cells.toList.zipIdx 0).foldl (fun cs(p:Value × Nat)=>cs.setIfInBounds (i'*s+p.2) p.1) cells).getD (i'*s+j) undef=v.cells.getD j undef:=by
      rw[Array.getD_eq_getD_getElem?,this];rfl
     rw[e]
     exact(hxx j y _ h2 hc).plain_loc (List.all_eq_true.1 hpl y (List.mem_of_getElem? h2))
    ·rw[List.getElem?_set_ne (Ne.symm he)]at h1
     have hj:j<s:=by
      have:=(List.getElem?_eq_some_iff.1 h2).1
      rw[hl.wid row (List.mem_of_getElem? h1)]at this
      exact this
     have:=f2 (i'*s+j)
     have hout: ¬(i*s≤i'*s+j∧i'*s+j<i*s+s∧i'*s+j<cells.size):=by
      rintro ⟨ha,hb,_⟩
      rcases Nat.lt_or_gt_of_ne he with hc|hc
      ·have:=ik hc hj;omega
      ·have:(i+1)*s≤i'*s:=Nat.mul_le_mul_right _ hc
       rw[Nat.add_mul,Nat.one_mul]at this
       omega
     rw[if_neg hout]at this
     have e:((v.cells.toList.zipIdx 0).foldl (fun cs(p:Value × Nat)=>cs.setIfInBounds (i*s+p.2) p.1) cells).getD (i'*s+j) undef=cells.getD (i'*s+j) undef:=by
      rw[Array.getD_eq_getD_getElem?,this,←Array.getD_eq_getD_getElem?]
     rw[e]
     exact hl.at_ i' j row y h1 h2
  obtain⟨cells',h3,h4,h5⟩:=sb (loc:=loc) ps cps _ _ hl' (by simpa using hlen) (fun k p c h1 h2=>by
   have:=hp (k+1) p c (by simpa using h1) (by simpa using h2)
   exact⟨this.1,this.2.1,this.2.2.1,this.2.2.2.1,by simpa using this.2.2.2.2⟩)
  refine⟨cells',?_,h4,?_⟩
  ·simp only[Instr.fill]
   have hle:(i+1)*s≤rows.length*s:=Nat.mul_le_mul_right _ hi
   rw[Nat.add_mul,Nat.one_mul]at hle
   have hsp:=hl.size
   have: ¬((decide (v.cells.size≠s)||decide (i*s+v.cells.size>cells.size))=true):=by
    simp only[Bool.or_eq_true,decide_eq_true_eq,not_or]
    rw[hsz]
    omega
   rw[if_neg this]
   exact h3
  ·rw[h5,hfold,f1]
theorem pA: ∀(ps:List (Nat × AV))(rows:List (List AV))(row:List AV),row∈gf rows ps→row∈rows∨ ∃p∈ps,row=p.2.leaves
 |[],rows,row,h=>.inl h
 |(i,v)::ps,rows,row,h=>by
  simp only[gf]at h
  rcases pA ps _ row h with h|⟨p,hp,rfl⟩
  ·rcases List.mem_or_eq_of_mem_set h with h|rfl
   ·exact .inl h
   ·exact .inr ⟨(i,v),by simp,rfl⟩
  ·exact .inr ⟨p,by simp[hp],rfl⟩
theorem iB(hT:T.ok P){t:TypeId}{e:TI}(he:(oh T t).run st=some e): ∃el,P.underlying t=some (.slice el)∧TIok P el e∧T.get el=some e:=by
 unfold oh at he
 split at he
 case h_2=>exact(ay he).elim
 rename_i i hi
 split at he
 case h_2=>exact(ay he).elim
 rename_i el hu
 obtain⟨d,hd,hut⟩:=(hT.at hi).und
 have:=fC (hut.symm.trans hu)
 subst this
 have he:=cL he
 exact⟨el,hd,hT.at he,he⟩
theorem qu(hT:T.ok P)(h:RelC E st a w X loc ob){t:TypeId}{n:Nat}{ps:Array (Nat × Operand)}(ho:o.op=.buildSlice t n ps){d:Nat}(hr:(nM T t n ps.toList d).run st=some r):Did P E o st a w X r:=by
 obtain⟨hd,hr1⟩:=gH hr
 obtain⟨e,he,hr2⟩:=bind_some hr1
 obtain⟨el,hdt,hel,_⟩:=iB hT he
 obtain⟨vs,hvs,hr3⟩:=bind_some hr2
 obtain⟨hq,hr4⟩:=bb hr3
 simp only[Bool.and_eq_true,List.all_eq_true,decide_eq_true_eq,beq_iff_eq]at hq
 obtain⟨⟨⟨⟨hpl,hzp⟩,hs0⟩,hns⟩,hps⟩:=hq
 obtain⟨hvl,hx⟩:=dR h hvs
 obtain⟨z,hz,hzs,hzl⟩:=hel.zeroV w
 have hzlen:=hel.zlen
 have hcall: ∀cells,Instr.fill (fun i=>some (i*e.size,e.size)) ((Array.range (n*e.size)).map ((if n*e.size=0 then(#[]:Array Value)else z.cells)[· %(if n*e.size=0 then(#[]:Array Value)else z.cells).size]!)) (ps.toList.map fun p=>(p.1,a.eval p.2))=some cells→
   (execOp a.eval o).run P w=.ok (.value (.slice (some ⟨w.heap.size,0,none⟩) n n)) (World.push w (.cells cells el)):=by
  intro cells hf
  obtain⟨_,op,_,_,_,_⟩:=o
  subst ho
  simp only[execOp]
  refine eF ?_
  have h1: ¬n*e.size>2 ^ 24:=by
   have:(2:Nat) ^ 24=16777216:=by decide
   omega
  have hpl':(ps.map fun(p:Nat × Operand)=>(p.1,a.eval p.2)).toList=ps.toList.map fun p=>(p.1,a.eval p.2):=by simp
  simp only[Instr.buildSlice,Sem.run_bind,run_underlying hdt,Result.andThen_ok,hel.size w,h1,if_false,Sem.run_pure]
  by_cases h0:n*e.size=0
  ·rw[if_pos h0]at hf⊢
   simp only[Sem.run_bind,Sem.run_pure,Result.andThen_ok]
   rw[hpl',hf]
   simp only[Sem.run_bind,jx,Result.andThen_ok,Sem.run_pure]
  ·rw[if_neg h0]at hf⊢
   simp only[Sem.run_bind,Sem.run_pure,Result.andThen_ok,hz]
   rw[hpl',hf]
   simp only[Sem.run_bind,jx,Result.andThen_ok,Sem.run_pure]
 by_cases hn:n=0
 ·subst hn
  rw[if_pos rfl]at hr4
  obtain rfl:=bA hr4
  have hpe:ps.toList=[]:=by
   cases hl:ps.toList with
   |nil=>rfl
   |cons p l=>exact absurd (hps p (by rw[hl];simp)) (by omega)
  have hc:=hcall #[] (by rw[hpe];simp[Instr.fill])
  obtain⟨h1,h2⟩:=h.world (Frame.push w (.cells #[] el) ae)
  exact⟨_,_,_,loc,ob,hc,.inl rfl,h1,.sc ⟨_,rfl⟩ ah⟩
 ·rw[if_neg hn]at hr4
  obtain rfl:=au hr4
  have hns0: ¬n*e.size=0:=by
   intro h0
   rcases Nat.mul_eq_zero.1 h0 with h0|h0<;>omega
  simp only[hns0,if_false]at hcall
  have hz0:=rT (w:=w) (R:=RS E w (al ob X)) (n:=n) (m:=n) hzl hzs hs0 (Nat.le_refl _)
  obtain⟨cells,hf,hlr,hcs⟩:=sb (loc:=loc) ((ps.toList.map (·.1)).zip vs) (ps.toList.map fun p=>(p.1,a.eval p.2)) _ _ hz0 (by simp[hvl]) (fun k p c h1 h2=>by
   simp only[List.getElem?_map,Option.map_eq_some_iff]at h2
   obtain⟨q,hq1,rfl⟩:=h2
   rw[List.getElem?_zip_eq_some]at h1
   obtain⟨h3,h4⟩:=h1
   simp only[List.getElem?_map,hq1,Option.map_some]at h3
   injection h3 with h3
   have:=hpl p.2 (List.mem_of_getElem? h4)
   refine⟨h3.symm,hx k p.2 q.2 h4 (by simp[hq1]),List.all_eq_true.2 this.1,this.2,?_⟩
   rw[←h3]
   simpa using hps q (List.mem_of_getElem? hq1))
  have hlen:(gf (List.replicate n e.zero) ((ps.toList.map (·.1)).zip vs)).length=n:=by rw[pk];simp
  have hleaf: ∀row∈gf (List.replicate n e.zero) ((ps.toList.map (·.1)).zip vs),(∀x∈row,x∈e.zero)∨ ∃v∈vs,row=v.leaves:=by
   intro row hr
   rcases pA _ _ row hr with hr|⟨p,hp,rfl⟩
   ·rw[List.eq_of_mem_replicate hr];exact .inl fun x hx=>hx
   ·exact .inr ⟨p.2,(List.of_mem_zip hp).2,rfl⟩
  have hplain: ∀row∈gf (List.replicate n e.zero) ((ps.toList.map (·.1)).zip vs),∀x∈row,x.plain=true:=by
   intro row hr x hx
   rcases hleaf row hr with h1|⟨v,hv,rfl⟩
   ·exact hzp x (h1 x hx)
   ·exact(hpl v hv).1 x hx
  obtain⟨ob',h2,h3,h4⟩:=h.newArr hd (z:=e.zero) (lvl:=if(vs.all fun v=>v.leaves.all AV.flat)&&e.zero.all AV.flat then 0 else 1) cells el (0,0) (fun i _ h=>by simp at h)
   ⟨fun row hr=>by rw[hlr.wid row hr,hzlen],fun row hr x hx=>dN (cR (hplain row hr x hx))⟩ (by rw[hzlen];exact hlr.size) (by rw[hzlen];exact hlr.at_)
   (fun h0 row hr x hx=>by
    split at h0
    ·rename_i hfl
     simp only[Bool.and_eq_true,List.all_eq_true]at hfl
     rcases hleaf row hr with h1|⟨v,hv,rfl⟩
     ·exact hfl.2 x (h1 x hx)
     ·exact hfl.1 v hv x hx
    ·cases h0)
   (fun _=>hplain) (by
    rw[hlen]
    have:n≤n*e.size:=Nat.le_mul_of_pos_right _ hs0
    unfold cj
    omega)
  refine⟨_,_,_,_,ob',hcall cells hf,.inl rfl,h2,h4 n n hlen.symm (Nat.le_refl _) ?_⟩
  rw[hzlen,hcs]
  simp
theorem qW{n:Nat}(h:n≤ao):IntKind.i64.wrap (n:Int)=n:=by
 unfold ao at h
 exact IntWalk.i64_in _ (by omega)
theorem rN(hT:T.ok P)(h:RelC E st a w X loc ob){t:TypeId}{l c:Operand}(ho:o.op=.makeSlice t l c){d:Nat}(hr:(pv T t l c d).run st=some r):Did P E o st a w X r:=by
 obtain⟨hd,hr1⟩:=gH hr
 obtain⟨e,he,hr2⟩:=bind_some hr1
 obtain⟨el,hdt,hel,_⟩:=iB hT he
 obtain⟨lv,hlv,hr3⟩:=bind_some hr2
 have hlv:=bp h hlv
 obtain⟨cv,hcv,hr4⟩:=bind_some hr3
 have hcv:=bp h hcv
 obtain⟨n,hn,hr5⟩:=bind_some hr4
 obtain⟨m,hm,hr6⟩:=bind_some hr5
 obtain⟨k1,i1,rfl,hp1,rfl⟩:=hU hn
 obtain⟨k2,i2,rfl,hp2,rfl⟩:=hU hm
 obtain⟨hq,hr7⟩:=bb hr6
 simp only[Bool.and_eq_true,List.all_eq_true,decide_eq_true_eq]at hq
 obtain⟨⟨⟨⟨hq1,hq2⟩,hq3⟩,hs0⟩,hzp⟩:=hq
 obtain rfl:=au hr7
 obtain⟨n,rfl⟩:=Int.eq_ofNat_of_zero_le hp1
 obtain⟨m,rfl⟩:=Int.eq_ofNat_of_zero_le hp2
 simp only[Int.toNat_natCast]at*
 obtain⟨z,hz,hzs,hzl⟩:=hel.zeroV w
 have hzlen:=hel.zlen
 have hcells: ∃cells,LRows w (RS E w (al ob X)) e.size (List.replicate n e.zero) cells∧cells.size=m*e.size∧
   (execOp a.eval o).run P w=.ok (.value (.slice (some ⟨w.heap.size,0,none⟩) n m)) (World.push w (.cells cells el)):=by
  obtain⟨info,dd,zz,i1,i2,i3,i4,i5,i6,i7,i8,i9⟩:=hel.ex
  have hwn:=qW (n:=n) (by omega)
  have hwm:=qW (n:=m) hq3
  have hbig: ¬(((e.bytes*m:Nat):Int)>2 ^ 48):=by
   have:(2:Int) ^ 48=281474976710656:=by decide
   rw[Nat.mul_comm]at hq2
   unfold ao at hq2
   omega
  have hroom: ¬m*e.bytes>roomBytes:=by
   have:roomBytes=140737488355328:=by decide
   unfold ao at hq2
   omega
  refine⟨(Array.range (m*e.size)).map ((if m*e.size=0 then(#[]:Array Value)else z.cells)[· %(if m*e.size=0 then(#[]:Array Value)else z.cells).size]!),?_,by simp,?_⟩
  ·by_cases h0:m*e.size=0
   ·have hn0:n=0:=by
     rcases Nat.mul_eq_zero.1 h0 with h0|h0<;>omega
    subst hn0
    exact⟨by simp,fun row hr=>by simp at hr,fun i j row x h1=>by simp at h1⟩
   ·rw[if_neg h0]
    exact rT hzl hzs hs0 hq1
  ·obtain⟨_,op,_,_,_,_⟩:=o
   subst ho
   simp only[execOp]
   refine eF ?_
   have hti:=run_typeInfo (P:=P) w i1
   have hb:(info.bytes:Nat)=e.bytes:=i6
   have c1: ¬((n:Int)<0):=by omega
   have c2: ¬((m:Int)<0):=by omega
   have c3: ¬((n:Int)>m):=by omega
   have hbig': ¬((e.bytes:Int)*m>2 ^ 48):=by rw[←Int.natCast_mul];exact hbig
   simp only[Instr.makeSlice,Sem.run_bind,run_underlying hdt,Result.andThen_ok,hlv.inv_int,hcv.inv_int,asInt,asIntOf,Sem.run_pure,hti,hwn,hwm,hb,decide_eq_false c1,decide_eq_false c2,decide_eq_false c3,decide_eq_false hbig',Bool.or_false,Bool.false_eq_true,if_false,run_askRoom,Int.toNat_natCast,hel.size w]
   by_cases h0:m*e.size=0
   ·simp only[h0,if_true,Sem.run_bind,Sem.run_pure,Result.andThen_ok,jx]
   ·simp only[h0,if_false,Sem.run_bind,Sem.run_pure,Result.andThen_ok,hz,jx]
 obtain⟨cells,hlr,hcs,hrun⟩:=hcells
 obtain⟨ob',h2,h3,h4⟩:=h.newArr hd (rows:=List.replicate n e.zero) (z:=e.zero) (lvl:=gh e.zero) cells el (0,0) (fun i _ h=>by simp at h)
  ⟨fun row hr=>by rw[List.eq_of_mem_replicate hr],fun row hr x hx=>by rw[List.eq_of_mem_replicate hr]at hx;exact dN (cR (hzp x hx))⟩
  (by rw[hzlen];exact hlr.size) (by rw[hzlen];exact hlr.at_)
  (fun h0 row hr x hx=>by
   rw[List.eq_of_mem_replicate hr]at hx
   unfold gh at h0
   split at h0
   ·rename_i hfl;exact List.all_eq_true.1 hfl x hx
   ·cases h0)
  (fun _ row hr x hx=>by rw[List.eq_of_mem_replicate hr]at hx;exact hzp x hx) (by
   rw[List.length_replicate]
   unfold ao at hq3
   unfold cj
   omega)
 refine⟨_,_,_,_,ob',hrun,.inl rfl,h2,h4 n m (by simp) hq1 ?_⟩
 rw[hzlen,hcs]
 exact Nat.le_refl _
end
end Go.Abs
