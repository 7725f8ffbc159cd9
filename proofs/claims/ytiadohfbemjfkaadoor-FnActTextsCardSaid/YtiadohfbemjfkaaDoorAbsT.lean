/- The abstract layer, 7: slices, lengths, numbers and strings, struct literals. -/
import Derived.Test.YtiadohfbemjfkaaDoorAbsQ
import Derived.Lib.Strings
import Derived.Laws.StructEq
set_option linter.unusedVariables false
set_option linter.unusedSimpArgs false
noncomputable section
namespace Go.Abs
open Go
section
variable{P:Program}{T:TT}{E:Env}{o:Oper}{st:St}{a:Act}{w:World}{X:Cells}{loc:Locs}{ob:Nat→Cells}{r:Res}
theorem lenA_some{v:AV}{n:Nat}(h:(lenA v).run st=some n):(∃s,v=.str s∧n=s.length)∨(∃b off,v=.ref b off n)∨(∃z rows,v=.ro z rows∧n=rows.length)∨(v=.emp∧n=0):=by
 cases v with
 |str s=>exact .inl ⟨s,rfl,(ret_some h).symm⟩
 |ref b off k=>obtain rfl:=ret_some h;exact .inr (.inl ⟨b,off,rfl⟩)
 |ro z rows=>exact .inr (.inr (.inl ⟨z,rows,rfl,(ret_some h).symm⟩))
 |emp=>exact .inr (.inr (.inr ⟨rfl,(ret_some h).symm⟩))
 |_=>exact(fail_some h).elim
theorem slice_len{R:Cells}{v:AV}{u:Value}{n:Nat}(hv:AR w R loc v u none2)(h:(lenA v).run st=some n)(hs: ∀s,v≠.str s): ∃ad cap,u=.slice ad n cap∧n≤cap:=by
 rcases lenA_some h with⟨s,rfl,_⟩|⟨b,off,rfl⟩|⟨z,rows,rfl,rfl⟩|⟨rfl,rfl⟩
 ·exact absurd rfl (hs s)
 ·obtain⟨l,_,_,ad,cap,rfl,hc,_⟩:=hv.inv_ref;exact⟨ad,cap,rfl,hc⟩
 ·obtain⟨ad,cap,rfl,hc,_⟩:=hv.inv_ro;exact⟨ad,cap,rfl,hc⟩
 ·obtain⟨ad,rfl⟩:=hv.inv_emp;exact⟨ad,0,rfl,Nat.le_refl _⟩
theorem lenA_len{R:Cells}{v:AV}{u:Value}{n:Nat}(hv:AR w R loc v u none2)(h:(lenA v).run st=some n):n≤maxLn:=by
 rcases lenA_some h with⟨s,rfl,rfl⟩|⟨b,off,rfl⟩|⟨z,rows,rfl,rfl⟩|⟨rfl,rfl⟩
 ·exact hv.str_len
 ·exact hv.ref_len
 ·exact hv.ro_len
 ·exact Nat.zero_le _
theorem str_size(s:List UInt8):(ByteArray.mk s.toArray).size=s.length:=by simp[ByteArray.size]
theorem argT_some{c:Call}{i:Nat}{k:TypeId→RP Res}(h:(argT c i k).run st=some r): ∃t,c.argTypes[i]? =some t∧(k t).run st=some r:=by
 unfold argT at h
 split at h
 ·exact⟨_, ‹_›,h⟩
 ·exact(fail_some h).elim
theorem run_builtin{ρ:Operand→Value}{c:Call}{ty:TypeId}{b:Builtin}(hc:c.callee=.builtin b):
  (do let d ←resolve ρ c ty;invoke d.target d.args:Sem Next).run P w=(builtin b c.argTypes ty (c.args.map fun| .const _=>true|_=>false) (c.args.map ρ)).run P w:=by
 simp only[resolve,hc]
 rfl
theorem did_len(hT:T.ok P)(h:RelC E st a w X loc ob){c:Call}(ho:o.op=.call c)(hc:c.callee=.builtin .len)(hr:(evBuiltin T .len c o).run st=some r):Did P E o st a w X r:=by
 simp only[evBuiltin]at hr
 split at hr
 ·rename_i x hargs
  obtain⟨t,hat,hr⟩:=argT_some hr
  obtain⟨v,hv,hr⟩:=bind_some hr
  have hv:=opnd_some h hv
  obtain⟨_,hf,hr⟩:=bind_some hr
  obtain⟨n,hn,hr⟩:=bind_some hr
  obtain rfl:=val_some hr
  obtain⟨ti,d,hti,hd,hut,hfit⟩:=fits_some hT hf
  have hca:c.args=#[x]:=by have:=congrArg List.toArray hargs;simpa using this
  refine Did.pure h (v:=.int .i64 n) ?_ (.sc ⟨rfl,fits_len (lenA_len hv hn)⟩ emp_none2)
  obtain⟨_,op,ty,_,_,_⟩:=o
  subst ho
  simp only[execOp]
  rw[run_builtin hc]
  simp only[builtin]
  have hm:c.args.map a.eval=#[a.eval x]:=by simp[hca]
  refine run_v ?_
  rw[hm]
  rcases hfit with⟨e,rfl,hk⟩|⟨_,_,_,_,_,_,_,rfl,_⟩|⟨rfl,s,rfl⟩
  ·obtain⟨ad,cap,hav,_⟩:=slice_len hv hn (fun s e=>by subst e;rcases hk with⟨_,_,_,h1⟩|⟨_,_,h1⟩|h1<;>cases h1)
   simp only[Builtin.len_,List.getElem?_toArray,List.getElem?_cons_zero,hat,hav,Sem.run_bind,run_underlying hd,Result.andThen_ok]
   rfl
  ·exact(fail_some hn).elim
  ·obtain rfl:=ret_some (st:=st) hn
   simp only[Builtin.len_,List.getElem?_toArray,List.getElem?_cons_zero,hat,hv.inv_str,Sem.run_bind,run_underlying hd,Result.andThen_ok]
   simp only[pure,Sem.run,goInt,str_size]
 ·exact(fail_some hr).elim
theorem fdiv_between(x:Int)(m:Nat):(0≤x→0≤x.fdiv (2 ^ m)∧x.fdiv (2 ^ m)≤x)∧(x<0→x≤x.fdiv (2 ^ m)∧x.fdiv (2 ^ m)≤0):=by
 have hp:(0:Int)<2 ^ m:=Int.pow_pos (by decide)
 rw[Int.fdiv_eq_ediv_of_nonneg _ (Int.le_of_lt hp)]
 refine⟨fun h=>⟨Int.ediv_nonneg h (Int.le_of_lt hp),Int.ediv_le_self _ h⟩,fun h=>⟨?_,?_⟩⟩
 ·rw[Int.le_ediv_iff_mul_le hp]
  have:=Int.mul_le_mul_of_nonpos_left (a:=x) (b:=2 ^ m) (c:=1) (by omega) (by omega)
  simpa using this
 ·exact Int.le_of_lt (Int.ediv_neg_of_neg_of_pos h hp)
theorem fits_fdiv{k:IntKind}{x:Int}(m:Nat)(h:fitsK k x=true):fitsK k (x.fdiv (2 ^ m))=true:=by
 obtain⟨h1,h2⟩:=fdiv_between x m
 generalize x.fdiv (2 ^ m)=d at h1 h2
 cases k<;>simp only[fitsK,Bool.and_eq_true,decide_eq_true_eq]at h⊢ <;>(by_cases hx:0≤x)<;>first|(have:=h1 hx;omega)|(have:=h2 (by omega);omega)
theorem tmod_between(x y:Int):(0≤x→0≤x.tmod y∧x.tmod y≤x)∧(x<0→x≤x.tmod y∧x.tmod y≤0):=by
 have pos: ∀z:Int,0≤z→0≤z.tmod y∧z.tmod y≤z:=by
  intro z hz
  have h0:=Int.tmod_nonneg y hz
  have h1:(z.tmod y).natAbs=z.natAbs%y.natAbs:=Int.natAbs_tmod z y
  have h2:=Nat.mod_le z.natAbs y.natAbs
  omega
 refine⟨pos x,fun h=> ?_⟩
 have:=pos (-x) (by omega)
 rw[Int.neg_tmod]at this
 omega
theorem fits_tmod{k:IntKind}{x:Int}(y:Int)(h:fitsK k x=true):fitsK k (x.tmod y)=true:=by
 obtain⟨h1,h2⟩:=tmod_between x y
 generalize x.tmod y=d at h1 h2
 cases k<;>simp only[fitsK,Bool.and_eq_true,decide_eq_true_eq]at h⊢ <;>(by_cases hx:0≤x)<;>first|(have:=h1 hx;omega)|(have:=h2 (by omega);omega)
theorem run_binInt{op:BinOp}{k k':IntKind}{x y:Int}{v:AV}(hfx:fitsK k x=true)(hr:(binInt op k k' x y).run st=some v): ∃u,(binOp op 0 (.int k x) (.int k' y)).run P w=.ok u w∧SR v u:=by
 cases op<;>simp only[binInt]at hr
 case shl=>
  obtain⟨hq,hr⟩:=req_some hr
  obtain rfl:=ret_some hr
  have: ¬y<0:=by have:=of_decide_eq_true hq;omega
  exact⟨_,by simp only[binOp,Op.shift,this,if_false];rfl,rfl,fits_wrap _ _⟩
 case shr=>
  obtain⟨hq,hr⟩:=req_some hr
  obtain rfl:=ret_some hr
  have: ¬y<0:=by have:=of_decide_eq_true hq;omega
  exact⟨_,by simp only[binOp,Op.shift,this,if_false];rfl,rfl,fits_fdiv _ hfx⟩
 all_goals
  split at hr
  case isFalse=>exact(fail_some hr).elim
  rename_i hk
  subst hk
  simp only[arithInt]at hr
 case quo=>
  obtain⟨hq,hr⟩:=req_some hr
  obtain rfl:=ret_some hr
  have: ¬y=0:=by simpa using hq
  exact⟨_,by simp only[binOp,Op.intDiv,this,if_false,ne_eq,not_true_eq_false];rfl,rfl,fits_wrap _ _⟩
 case rem=>
  obtain⟨hq,hr⟩:=req_some hr
  obtain rfl:=ret_some hr
  have: ¬y=0:=by simpa using hq
  exact⟨_,by simp only[binOp,Op.intDiv,this,if_false,ne_eq,not_true_eq_false];rfl,rfl,fits_tmod _ hfx⟩
 all_goals first
  |exact(fail_some hr).elim
  |(obtain rfl:=ret_some hr
    first
     |exact⟨_,by simp only[binOp,ne_eq,not_true_eq_false,if_false];rfl,rfl,fits_wrap _ _⟩
     |exact⟨_,by simp only[binOp,ne_eq,not_true_eq_false,if_false];rfl,rfl⟩)
theorem binOp_int_type(op:BinOp)(t t':TypeId)(k k':IntKind)(x y:Int):binOp op t (.int k x) (.int k' y)=binOp op t' (.int k x) (.int k' y):=by cases op<;>rfl
theorem run_eqGuard{op:BinOp}{t:TypeId}{x y:Operand}{u v:Value}(h:(∀cs,u≠.agg cs)∧u≠.nilIface):(eqGuard op t x y u v).run P w=.ok () w:=by
 cases op<;>simp only[eqGuard,Bool.not_true,Bool.not_false,Bool.false_eq_true,if_false,if_true]<;>first
  |rfl
  |(cases u<;>first|rfl|exact absurd rfl (h.1 _)|exact absurd rfl h.2)
theorem run_binStr{op:BinOp}{x y:List UInt8}{v:AV}(hr:(binStr op x y).run st=some v): ∃u,(Op.stringOp op ⟨x.toArray⟩ ⟨y.toArray⟩).run P w=.ok u w∧SR v u:=by
 cases op<;>simp only[binStr]at hr
 case add=>
  obtain⟨hq,hr⟩:=req_some hr
  obtain rfl:=ret_some hr
  have hq:=of_decide_eq_true hq
  have h1: ¬(((ByteArray.mk x.toArray).size+(ByteArray.mk y.toArray).size:Nat):Int)>IntKind.i64.max:=by
   have:IntKind.i64.max=9223372036854775807:=by decide
   rw[this,str_size,str_size]
   unfold maxStr at hq
   omega
  refine⟨.string (⟨x.toArray⟩++⟨y.toArray⟩),?_,?_⟩
  ·unfold Op.stringOp
   simp only[h1,if_false]
   rfl
  ·refine⟨?_,?_⟩
   ·show Value.string _=Value.string _
    congr 1
   ·rw[List.length_append]
    unfold maxStr at hq
    unfold maxLn
    omega
 all_goals first
  |exact(fail_some hr).elim
  |(obtain rfl:=ret_some hr
    refine⟨_,rfl,?_⟩
    simp only[SR,Lib.toList_data])
theorem leafEq_run(hT:T.ok P)(d:Nat)(us vs:Array Value): ∀(fs:List Field)(k:Nat)(cs ds:List AV)(e:Bool),leafEq T (fs.map (·.type)) cs ds=some e→
  (∀(j:Nat) f,fs[j]? =some f→f.offset=k+j∧f.name≠ "_")→
  (∀(j:Nat) x c,cs[j]? =some x→us[k+j]? =some c→SR x c∨x.flat=false)→(∀(j:Nat) x c,ds[j]? =some x→vs[k+j]? =some c→SR x c∨x.flat=false)→
  k+cs.length≤us.size→k+ds.length≤vs.size→(Op.eqFields (d+1) us vs fs).run P w=.ok e w
 |[],k,[],[],e,h,_,_,_,_,_=>by simp only[List.map_nil,leafEq]at h;injection h with h;subst h;simp[Op.eqFields]
 |[],k,[],_::_,e,h,_,_,_,_,_=>by simp[leafEq]at h
 |[],k,_::_,_,e,h,_,_,_,_,_=>by simp[leafEq]at h
 |f::fs,k,[],_,e,h,_,_,_,_,_=>by simp[leafEq]at h
 |f::fs,k,_::_,[],e,h,_,_,_,_,_=>by simp[leafEq]at h
 |f::fs,k,x::cs,y::ds,e,h,ho,hu,hv,hus,hvs=>by
  simp only[List.map_cons,leafEq]at h
  obtain⟨hoff,hname⟩:=ho 0 f (by simp)
  simp only[Nat.add_zero]at hoff
  simp only[List.length_cons]at hus hvs
  have hk1:k<us.size:=by omega
  have hk2:k<vs.size:=by omega
  have hx:=hu 0 x us[k] (by simp) (by simp[hk1])
  have hy:=hv 0 y vs[k] (by simp) (by simp[hk2])
  split at h
  case h_2=>cases h
  rename_i i hi
  obtain⟨dt,hd,hut⟩:=(hT.at hi).und
  have rest: ∀e',leafEq T (fs.map (·.type)) cs ds=some e'→(Op.eqFields (d+1) us vs fs).run P w=.ok e' w:=fun e' he'=>
   leafEq_run hT d us vs fs (k+1) cs ds e' he' (fun j f' hf=>by have:=ho (j+1) f' (by simpa using hf);exact⟨by omega,this.2⟩)
    (fun j x' c h1 h2=>hu (j+1) x' c (by simpa using h1) (by rw[←h2];congr 1;omega)) (fun j x' c h1 h2=>hv (j+1) x' c (by simpa using h1) (by rw[←h2];congr 1;omega)) (by omega) (by omega)
  have hpart: ∀(zs:Array Value)(hz:k<zs.size),isAggT (utOf dt)=false→(part f.type zs f.offset).run P w=.ok zs[k] w:=by
   intro zs hz hag
   simp only[part,Sem.run_bind,run_isAgg hd,hag,Result.andThen_ok,Bool.false_eq_true,if_false,hoff]
   simp[hz]
  have fin: ∀(b e':Bool),isAggT (utOf dt)=false→leafEq T (fs.map (·.type)) cs ds=some e'→(Op.equalIn (d+1) f.type us[k] vs[k]).run P w=.ok b w→e=(b&&e')→(Op.eqFields (d+1) us vs (f::fs)).run P w=.ok e w:=by
   intro b e' hag he' hb hee
   rw[Op.eqFields]
   simp only[if_pos hname,Sem.run_bind,hpart us hk1 hag,hpart vs hk2 hag,hb,Result.andThen_ok]
   subst hee
   cases b
   ·simp
   ·simpa using rest e' he'
  split at h
  ·rename_i k1 k2 a1 k3 b1 hu1
   by_cases hkk:k2=k3
   case neg=>rw[if_neg hkk]at h;cases h
   rw[if_pos hkk]at h
   subst hkk
   obtain⟨e',he',rfl⟩:=Option.map_eq_some_iff.1 h
   have hx:us[k]=.int k2 a1:=(hx.resolve_right (by simp[AV.flat])).1
   have hy:vs[k]=.int k2 b1:=(hy.resolve_right (by simp[AV.flat])).1
   have hdt:=und_int (hut.symm.trans hu1)
   exact fin (a1==b1) e' (by rw[hdt];rfl) he' (by rw[hx,hy];exact run_equalIn_int w d f.type k2 k1 a1 b1 (by rw[hd,hdt])) rfl
  ·rename_i a1 b1 hu1
   obtain⟨e',he',rfl⟩:=Option.map_eq_some_iff.1 h
   have hx:us[k]=.bool a1:=hx.resolve_right (by simp[AV.flat])
   have hy:vs[k]=.bool b1:=hy.resolve_right (by simp[AV.flat])
   have hdt:=und_bool (hut.symm.trans hu1)
   exact fin (a1==b1) e' (by rw[hdt];rfl) he' (by rw[hx,hy];exact run_equalIn_bool' w d f.type a1 b1 (by rw[hd,hdt])) rfl
  ·rename_i a1 b1 hu1
   obtain⟨e',he',rfl⟩:=Option.map_eq_some_iff.1 h
   have hx:us[k]=.string ⟨a1.toArray⟩:=(hx.resolve_right (by simp[AV.flat])).1
   have hy:vs[k]=.string ⟨b1.toArray⟩:=(hy.resolve_right (by simp[AV.flat])).1
   have hdt:=und_str (hut.symm.trans hu1)
   refine fin (a1==b1) e' (by rw[hdt];rfl) he' ?_ rfl
   rw[hx,hy]
   have:=run_equalIn_string (P:=P) w d f.type ⟨a1.toArray⟩ ⟨b1.toArray⟩ (by rw[hd,hdt])
   rw[Lib.toList_data,Lib.toList_data]at this
   simpa using this
  ·cases h
theorem AR.flat_SR{R:Cells}{loc:Locs}{x:AV}{c:Value}{O:Cells}(h:AR w R loc x c O):SR x c∨x.flat=false:=by
 cases h with
 |sc h e=>exact .inl h
 |_=>exact .inr rfl
theorem did_bin(hT:T.ok P)(h:RelC E st a w X loc ob){op:BinOp}{t ty:TypeId}{x y:Operand}(ho:o.op=.binOp op t x y ty)
  (hr:((opnd x).bind fun a=>(opnd y).bind fun b=>(binA T (T.get t) op a b).bind val).run st=some r):Did P E o st a w X r:=by
 obtain⟨u,hu,hr⟩:=bind_some hr
 have hu:=opnd_some h hu
 obtain⟨v,hv,hr⟩:=bind_some hr
 have hv:=opnd_some h hv
 obtain⟨z,hz,hr⟩:=bind_some hr
 obtain rfl:=val_some hr
 have key: ∀res,(eqGuard op t x y (a.eval x) (a.eval y)).run P w=.ok () w→(binOp op t (a.eval x) (a.eval y)).run P w=.ok res w→SR z res→Did P E o st a w X (z,[]):=by
  intro res h1 h2 h3
  refine Did.pure h (v:=res) ?_ (.sc h3 emp_none2)
  obtain⟨_,op,_,_,_,_⟩:=o
  subst ho
  simp only[execOp]
  refine run_v ?_
  simp only[Sem.run_bind,h1,Result.andThen_ok,h2]
 cases u with
 |int k n=>
  obtain⟨k',m,rfl⟩: ∃k' m,v=.int k' m:=by cases v<;>first|exact⟨_,_,rfl⟩|exact(fail_some hz).elim
  have hz:(binInt op k k' n m).run st=some z:=hz
  obtain⟨res,h1,h2⟩:=run_binInt (P:=P) (w:=w) hu.fits hz
  rw[binOp_int_type op 0 t]at h1
  have e1:=hu.inv_int
  have e2:=hv.inv_int
  exact key res (run_eqGuard (by rw[e1];exact⟨fun _ h=>Value.noConfusion h,fun h=>Value.noConfusion h⟩)) (by rw[e1,e2];exact h1) h2
 |str s=>
  obtain⟨s',rfl⟩: ∃s',v=.str s':=by cases v<;>first|exact⟨_,rfl⟩|exact(fail_some hz).elim
  have hz:(binStr op s s').run st=some z:=hz
  obtain⟨res,h1,h2⟩:=run_binStr (P:=P) (w:=w) hz
  have e1:=hu.inv_str
  have e2:=hv.inv_str
  refine key res (run_eqGuard (by rw[e1];exact⟨fun _ h=>Value.noConfusion h,fun h=>Value.noConfusion h⟩)) ?_ h2
  rw[e1,e2]
  cases op<;>exact h1
 |bool b=>
  obtain⟨b',rfl⟩: ∃b',v=.bool b':=by cases v<;>first|exact⟨_,rfl⟩|exact(fail_some hz).elim
  simp only[binA]at hz
  split at hz
  case h_2=>exact(fail_some hz).elim
  rename_i i hi
  split at hz
  case h_2=>exact(fail_some hz).elim
  rename_i hut
  obtain⟨d,hd,hut'⟩:=(hT.at hi).und
  have hdb:=und_bool (hut'.symm.trans hut)
  subst hdb
  have e1:=hu.inv_bool
  have e2:=hv.inv_bool
  have hg:(eqGuard op t x y (a.eval x) (a.eval y)).run P w=.ok () w:=run_eqGuard (by rw[e1];exact⟨fun _ h=>Value.noConfusion h,fun h=>Value.noConfusion h⟩)
  have heq:=run_equalIn_bool' (P:=P) w 9999 t b b' hd
  cases op<;>simp only[binBool]at hz<;>try exact(fail_some hz).elim
  ·obtain rfl:=ret_some hz
   refine key (.bool (b==b')) hg ?_ rfl
   rw[e1,e2]
   simp only[binOp,Op.equal,Op.maxDepth,Sem.run_bind,heq,Result.andThen_ok]
   rfl
  ·obtain rfl:=ret_some hz
   refine key (.bool (!(b==b'))) hg ?_ rfl
   rw[e1,e2]
   simp only[binOp,Op.equal,Op.maxDepth,Sem.run_bind,heq,Result.andThen_ok]
   rfl
 |agg cs=>
  obtain⟨ds,rfl⟩: ∃ds,v=.agg ds:=by cases v<;>first|exact⟨_,rfl⟩|exact(fail_some hz).elim
  simp only[binA,binAgg]at hz
  split at hz
  case h_2=>exact(fail_some hz).elim
  rename_i i hi
  obtain⟨heqs,hz⟩:=req_some hz
  split at hz
  case h_2=>exact(fail_some hz).elim
  rename_i fs hut
  split at hz
  case h_2=>exact(fail_some hz).elim
  rename_i e hle
  obtain⟨us,e1,hus,hux⟩:=hu.inv_agg
  obtain⟨vs,e2,hvs,hvx⟩:=hv.inv_agg
  obtain⟨info,d,zv,h1,hd,h3,h4,h5,h6,hut',h7,h8⟩:=(hT.at hi).ex
  rw[hut']at hut
  obtain⟨fa,rfl,rfl⟩:=und_struct hut
  rw[h8]at heqs
  simp only[eqsOf,Bool.and_eq_true,beq_iff_eq,List.all_eq_true,bne_iff_ne,Bool.not_eq_true']at heqs
  obtain⟨⟨⟨hnm,hof⟩,hst⟩,hgt⟩:=heqs
  have hfo:P.fieldsOf t=fa:=by simp[Program.fieldsOf,hd]
  have hrun:(Op.equalIn 10000 t (.agg us) (.agg vs)).run P w=.ok e w:=by
   rw[run_equalIn_struct w 9999 t us vs (by rw[hfo];exact hd) hst,hfo]
   refine leafEq_run hT 9998 us vs fa.toList 0 cs ds e (by rw[List.map_map]at hle;exact hle) (fun j f hf=> ?_) (fun j x' c h1 h2=>(hux j x' c h1 (by simpa using h2)).flat_SR) (fun j x' c h1 h2=>(hvx j x' c h1 (by simpa using h2)).flat_SR) (by omega) (by omega)
   refine⟨?_,hnm f (List.mem_of_getElem? hf)⟩
   have:(fa.toList.map (·.offset))[j]? =some f.offset:=by simp only[List.getElem?_map,hf,Option.map_some]
   rw[hof]at this
   have hj:j<fa.size:=by have:=(List.getElem?_eq_some_iff.1 hf).1;simpa using this
   rw[List.getElem?_range hj]at this
   injection this with this
   omega
  have hg:(eqGuard op t x y (a.eval x) (a.eval y)).run P w=.ok () w:=by rw[e1,e2];exact run_eqGuard_agg w op t x y us vs hgt
  split at hz
  ·obtain rfl:=ret_some hz
   refine key (.bool e) hg ?_ rfl
   rw[e1,e2,run_eql_struct,hrun]
   rfl
  ·obtain rfl:=ret_some hz
   refine key (.bool (!e)) hg ?_ rfl
   rw[e1,e2,run_neq_struct,hrun]
   rfl
  ·exact(fail_some hz).elim
 |_=>exact(fail_some hz).elim
theorem und_iface{d:TypeDesc}(h:utOf d=.iface): ∃ms,d=.interface ms:=by
 cases d<;>simp[utOf]at h
 exact⟨_,rfl⟩
theorem run_equalIn_nil{ms}(w:World)(d:Nat)(t:TypeId)(hd:P.underlying t=some (.interface ms)):(Op.equalIn (d+1) t .nilIface .nilIface).run P w=.ok true w:=by
 simp only[Op.equalIn,Sem.run_bind,run_underlying hd,Result.andThen_ok]
 rfl
theorem run_equalIn_ifc{ms}(w:World)(d:Nat)(t:TypeId)(tt:TypeId)(pp:Value)(hd:P.underlying t=some (.interface ms)):(Op.equalIn (d+1) t (.iface tt pp) .nilIface).run P w=.ok false w:=by
 simp only[Op.equalIn,Sem.run_bind,run_underlying hd,Result.andThen_ok]
 rfl
theorem did_nilI(hT:T.ok P)(h:RelC E st a w X loc ob){op:BinOp}{t ty:TypeId}{x y:Operand}(ho:o.op=.binOp op t x y ty)(hn:isNilI y=true)
  (hr:((opnd x).bind fun a=>(nilI (T.get t) op a).bind val).run st=some r):Did P E o st a w X r:=by
 obtain rfl:y=.const .nilIface:=by
  unfold isNilI at hn
  split at hn
  ·rfl
  ·cases hn
 obtain⟨u,hu,hr⟩:=bind_some hr
 have hu:=opnd_some h hu
 obtain⟨z,hz,hr⟩:=bind_some hr
 obtain rfl:=val_some hr
 have hyv:a.eval (.const .nilIface)=.nilIface:=rfl
 have key: ∀res,(eqGuard op t x (.const .nilIface) (a.eval x) .nilIface).run P w=.ok () w→(binOp op t (a.eval x) .nilIface).run P w=.ok res w→SR z res→Did P E o st a w X (z,[]):=by
  intro res h1 h2 h3
  refine Did.pure h (v:=res) ?_ (.sc h3 emp_none2)
  obtain⟨_,op,_,_,_,_⟩:=o
  subst ho
  simp only[execOp]
  refine run_v ?_
  rw[hyv]
  simp only[Sem.run_bind,h1,Result.andThen_ok,h2]
 have hg:(eqGuard op t x (.const .nilIface) (a.eval x) .nilIface).run P w=.ok () w:=by
  unfold eqGuard
  cases op<;>(try rfl)<;>(cases a.eval x<;>first|rfl|simp)
 unfold nilI at hz
 split at hz
 case h_2=>exact(fail_some hz).elim
 rename_i i hi
 split at hz
 case h_2=>exact(fail_some hz).elim
 rename_i hut
 obtain⟨d,hd,hut'⟩:=(hT.at hi).und
 obtain⟨ms,rfl⟩:=und_iface (hut'.symm.trans hut)
 split at hz
 case h_3=>exact(fail_some hz).elim
 ·have e1:a.eval x=.nilIface:=by
   cases hu with
   |sc hs _=>exact hs
  have heq:=run_equalIn_nil (P:=P) w 9999 t hd
  split at hz
  case h_3=>exact(fail_some hz).elim
  ·obtain rfl:=ret_some hz
   refine key (.bool true) hg ?_ rfl
   rw[e1]
   simp only[binOp,Op.equal,Op.maxDepth,Sem.run_bind,heq,Result.andThen_ok]
   rfl
  ·obtain rfl:=ret_some hz
   refine key (.bool false) hg ?_ rfl
   rw[e1]
   simp only[binOp,Op.equal,Op.maxDepth,Sem.run_bind,heq,Result.andThen_ok]
   rfl
 ·obtain⟨tt,pp,e1⟩: ∃tt pp,a.eval x=.iface tt pp:=by
   cases hu with
   |sc hs _=>exact hs
  have heq:=run_equalIn_ifc (P:=P) w 9999 t tt pp hd
  split at hz
  case h_3=>exact(fail_some hz).elim
  ·obtain rfl:=ret_some hz
   refine key (.bool false) hg ?_ rfl
   rw[e1]
   simp only[binOp,Op.equal,Op.maxDepth,Sem.run_bind,heq,Result.andThen_ok]
   rfl
  ·obtain rfl:=ret_some hz
   refine key (.bool true) hg ?_ rfl
   rw[e1]
   simp only[binOp,Op.equal,Op.maxDepth,Sem.run_bind,heq,Result.andThen_ok]
   rfl
end
end Go.Abs
