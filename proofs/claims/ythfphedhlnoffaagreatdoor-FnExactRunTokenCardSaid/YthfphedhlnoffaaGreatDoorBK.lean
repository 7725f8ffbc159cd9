import Derived.Test.YthfphedhlnoffaaGreatDoorBJ
/- Throws, by the reference; the contract. -/
set_option linter.unusedVariables false
set_option maxHeartbeats 4000000
set_option linter.unusedSimpArgs false
set_option maxRecDepth 100000
open Go Go.Abs Go.Proofs V1 H1 M2 N1 N2 P1 P5 P9 P11 P19 X1 X2 X3 X4 X5 X6 X7 X8 X10 X11 X12 X13 X14
namespace X15
def Lh(r:Mch × Bool):AV:=.tup [aR r.1,.bool r.2]
abbrev GK:List AV:=[.emp,.emp,.emp,.emp,.emp,.int .i64 0,.int .i64 0,.str [],.emp,.emp,.emp,.int .i64 0,.emp,.emp,.int .i64 0,.int .i64 0]
abbrev Fl(m:Mch):Ms:=[(1,.live ⟨false,0,gx m,[gx m]⟩),(2,.live ⟨false,0,GK,[GK]⟩)]
theorem Cx(m:Mch)(i:Int):Sh (.tup [.agg [fq m.ws,dL m.co,dL m.da.st,dL m.da.bk,dL m.da.ce,.int .i64 m.da.he,.int .i64 m.da.ba,.str m.da.ou,pE m.ho.gr,dL m.ho.st,dL m.ho.q,.int .i64 m.ho.tk,lC m.ho.ds,.emp,.int .i64 i,.int .i64 m.fu],.bool false]) (Lh ({m with ca:=[],ip:=i},false)):=
 Sh.tup ⟨Sh.agg ⟨Sh.refl _,Sh.refl _,Sh.refl _,Sh.refl _,Sh.refl _,Sh.refl _,Sh.refl _,Sh.refl _,Sh.refl _,Sh.refl _,Sh.refl _,Sh.refl _,Sh.refl _,Sh.emp_ro _,Sh.refl _,Sh.refl _,trivial⟩,Sh.refl _,trivial⟩
def rK(m:Mch)(t:Int):Bool:= !(decide (t= -101)||decide (eG m.ca m.ca.length<0))
theorem EC{m:Mch}{t:Int}(h:t= -101∨eG m.ca m.ca.length<0):((bP m t).1,rK m t)=({m with ca:=[],ip:=0},false):=by
 rw[tU h,rK]
 rcases h with h|h<;>simp[h]
theorem Im{m:Mch}{t:Int}(h: ¬(t= -101∨eG m.ca m.ca.length<0)):((bP m t).1,rK m t)=({m with ca:=m.ca.take (eG m.ca m.ca.length).toNat,ip:=(sD m).ip,da:={m.da with st:=mU m.da.st (sD m).dp++[t],bk:=m.da.bk.take (sD m).fl.toNat}},true):=by
 rw[sZ h,rK]
 simp only[not_or]at h
 simp[h]
def km(st:List Int)(d:Int)(j:Nat):List Int:=st.take d.toNat++List.replicate j 0
theorem gY(st:List Int)(d:Int)(j:Nat):(km st d j).length=min d.toNat st.length+j:=by unfold km;simp
theorem AH{st:List Int}{d:Int}{b:Int}(h:0≤d∧d≤b):am (st.map aj) 0 ((if d<((st.map aj).length:Int)then d else((st.map aj).length:Int)).toNat-0)=(km st d 0).map aj:=by
 unfold km am
 rw[List.length_map,List.drop_zero,Nat.sub_zero,List.replicate_zero,List.append_nil,List.map_take]
 split
 ·rfl
 ·rw[List.take_of_length_le (by rw[List.length_map];omega),List.take_of_length_le (by rw[List.length_map];omega)]
theorem Eo{st:List Int}{d:Int}{b:Int}(h:0≤d∧d≤b):(am (st.map aj) 0 ((if d<((st.map aj).length:Int)then d else((st.map aj).length:Int)).toNat-0)).length=(km st d 0).length:=by rw[AH h,List.length_map]
theorem GM(st:List Int)(d:Int)(j:Nat):am ((km st d j).map aj) 0 (km st d j).length++am [[AV.int .i64 0]] 0 1=(km st d (j+1)).map aj:=by
 rw[ak (rows:=(km st d j).map aj) (by rw[List.length_map])]
 unfold km
 rw[List.replicate_succ',←List.append_assoc,List.map_append (l₂:=[0])]
 rfl
theorem Fk(l:List Int)(t:Int):am (am (l.map aj) 0 l.length++am [[AV.int .i64 t]] 0 1) 0 (l.length+(am [[AV.int .i64 t]] 0 1).length)=(l++[t]).map aj:=by
 rw[ak (rows:=l.map aj) (by rw[List.length_map]),ak (by rw[List.length_append,List.length_map]),List.map_append]
 rfl
theorem ES{st:List Int}{d:Int}{j:Nat}(h:(km st d j).length=d.toNat):km st d j=mU st d:=by
 rw[gY]at h
 rw[km,mU,show j=d.toNat-st.length by omega]
theorem c108(m:Mch)(t:Int)(h:MI m):Con Tryz.prog 108 [aR m,.int .i64 t] (aa [aR m,.int .i64 t]) (Lh ((bP m t).1,rK m t)):=by
 have hl:=h.cl
 refine rn 82 Tryz.func108 [.cell 4 41,.tmp 5] (g:= ?_)
 conv=>whnf
 refine aO ?_
 rotate_left
 refine LoopG.auto (α:=Nat) bH dI [1,2,4,6] (fun i=>[(1,.int .i64 t),(2,.ptr 1 0 0),(4,.ptr 2 0 0),(6,.int .i64 i)]) (fun _=>Fl m) (fun i=>i≤m.ca.length∧eG m.ca m.ca.length=eG m.ca i) (fun i=>i) ?_ ?_
 ·conv=>whnf
  refine aO ?_
  rotate_left
  exact aE m.ca.length ⟨Nat.le_refl _,rfl⟩ (by simp) rfl
 ·rintro i ⟨h1,h2⟩- -
  by_cases h0:i=0
  ·subst h0
   rw[EC (.inr (by rw[h2];exact(by decide:(-1:Int)<0)))]
   conv=>whnf
   refine aO ?_
   rotate_left
   exact⟨Cx m 0⟩
  obtain⟨k,rfl⟩: ∃k,i=k+1:=⟨i-1,by omega⟩
  have hg:decide (((k+1:Nat):Int)>0)=true:=decide_eq_true (by omega)
  by_cases ht:t= -101
  ·subst ht
   rw[EC (.inl rfl)]
   have gC:(if decide (((k+1:Nat):Int)>0)=true then((-101:Int) != -101)else false)=false:=by rw[if_pos hg];rfl
   conv=>whnf
   refine aO ?_
   rotate_left
   exact⟨Cx m 0⟩
  have g1:(t != -101)=true:=bne_iff_ne.2 ht
  have gC:(if decide (((k+1:Nat):Int)>0)=true then(t != -101)else false)=true:=by rw[if_pos hg,g1]
  have w:IntKind.i64.wrap (((k+1:Nat):Int)-1)=(k:Int):=by rw[ai (by omega) (by omega)];omega
  have ra: ∀z,dn (m.ca.map bF) (IntKind.i64.wrap (((k+1:Nat):Int)-1)).toNat z=bF (m.ca.getD k default):=fun z=>by rw[w];exact aI bF _ _ _ default (by omega)
  by_cases hc:(m.ca.getD k default).ca=false
  ·rw[An hc]at h2
   have g2:(!(m.ca.getD k default).ca)=true:=by rw[hc];rfl
   conv=>whnf
   refine aO ?_
   rotate_left
   exact aE k ⟨⟨by omega,h2⟩,Nat.lt_succ_self k⟩ (by rw[w]) rfl
  rw[Bool.not_eq_false]at hc
  rw[BN hc]at h2
  have hb: ¬(t= -101∨eG m.ca m.ca.length<0):=by rw[h2];omega
  rw[Im hb]
  have e:sD m=m.ca.getD k default:=by rw[sD,h2];rfl
  have g2:(!(m.ca.getD k default).ca)=false:=by rw[hc];rfl
  have ha:=h.ci _ (Cp (nK _ _) (by rw[h2];omega))
  have hd:=ha.dp
  have hf:=ha.fl
  have hs:=h.da.st
  have hb2:=h.da.bk
  rw[←e]at ra g2
  rw[h2]
  generalize sD m=c at ra g2 hd hf
  conv=>whnf
  (refine bL (by(refine decide_eq_true ?_;(try simp only[List.length_map]);omega)) ?_;conv=>whnf);(iterate 5 ((first|apply ac rfl|refine ac (by refine aU rfl ?_;simp only[cB];omega) ?_|refine ac (by simp only[Bool.and_eq_true,decide_eq_true_eq,List.length_map];omega) ?_|apply bL rfl|refine bL (by assumption) ?_);conv=>whnf));(refine aH (by(((try simp only[Nat.zero_add,List.length_map]);exact ra _))) ?_;conv=>whnf);iterate 15 ((first|apply ac rfl|refine ac (by refine aU rfl ?_;simp only[cB];omega) ?_|refine ac (by simp only[Bool.and_eq_true,decide_eq_true_eq,List.length_map];omega) ?_|refine ac (by((first|(simp[w];omega)|(simp[ao,am];split<;>omega)|(simp;split<;>omega)|(simp[ao,am];omega)))) ?_|refine cg ?_|refine aJ (by assumption) ?_);conv=>whnf)
  rotate_left
  let tsF:Nat→Ts:=fun n=>[(1,.int .i64 t),(2,.ptr 1 0 0),(4,.ptr 2 0 0),(6,.int .i64 (k+1:Nat)),(7,.ptr 3 0 0),(8,.ref 4 0 n)]
  let msF:List (List AV)→Ms:=fun r=>Fl m++[(3,.live ⟨false,0,zC,[bF c]⟩),(4,.live ⟨true,1,zI,r⟩)]
  refine LoopG.auto (α:=Nat) bH dI [1,2,4,6,7,8] (fun j=>[(1,.int .i64 t),(2,.ptr 1 0 0),(4,.ptr 2 0 0),(6,.int .i64 (k+1:Nat)),(7,.ptr 3 0 0),(8,.ref 4 0 (km m.da.st c.dp j).length)]) (fun j=>Fl m++[(3,.live ⟨false,0,zC,[bF c]⟩),(4,.live ⟨true,1,zI,(km m.da.st c.dp j).map aj⟩)]) (fun j=>(km m.da.st c.dp j).length≤c.dp.toNat) (fun j=>64-j) ?_ ?_
  ·conv=>whnf
   refine aO ?_
   rotate_left
   exact aE 0 (by rw[gY];omega) (congrArg tsF (Eo hd)) (congrArg msF (AH hd))
  ·intro j hj _ _
   conv=>whnf
   (iterate 7 (first|(refine ac (by solve|simp only[bj]|fail) ?_;(conv=>whnf))|(apply ac rfl;(conv=>whnf))|(refine cm ?_ ?_<;>intro hb<;>(try simp only[eH]at hb)<;>conv=>whnf)));(apply ac (by((first|(simp[ao,am,w];done)|(simp[ao,am,w];omega))));conv=>whnf);(refine cg ?_;conv=>whnf);(apply ChkS.mk (by kernel_rfl);conv=>whnf)
   rotate_left
   (iterate 5 ((first|refine ac (by solve|simp only[bj]|fail) ?_|apply ac rfl);conv=>whnf));(apply ac (by((first|(simp[ao,am,w];done)|(simp[ao,am,w];omega))));conv=>whnf);(iterate 12 ((first|apply ac rfl|refine ac (by refine aU rfl ?_;simp only[cB];omega) ?_|refine ac (by simp only[Bool.and_eq_true,decide_eq_true_eq,List.length_map];omega) ?_|refine cg ?_);conv=>whnf));(apply ac (by((first|(simp[ao,am,w];done)|(simp[ao,am,w];omega))));conv=>whnf);(iterate 10 ((first|apply ac rfl|refine ac (by refine aU rfl ?_;simp only[cB];omega) ?_|refine ac (by simp only[Bool.and_eq_true,decide_eq_true_eq,List.length_map];omega) ?_|refine cg ?_);conv=>whnf));(apply ac (by((first|(simp[ao,am,w];done)|(simp[ao,am,w];omega))));conv=>whnf);iterate 35 ((first|refine ac (by solve|simp only[bj]|fail) ?_|apply ac rfl|refine af (ak (by solve|simp[bj]|fail)) ?_|apply af rfl|refine cg ?_);conv=>whnf)
   rotate_left
   ·refine aE (j+1) ⟨?_,by rw[gY]at hj;omega⟩ ?_ ?_
    ·rw[gY];rw[gY]at hj hb;omega
    ·exact congrArg tsF (by rw[gY,gY];rfl)
    ·exact congrArg msF (GM m.da.st c.dp j)
   ·have e1:km m.da.st c.dp j=mU m.da.st c.dp:=ES (by omega)
    exact⟨Sh.tup ⟨Sh.agg ⟨Sh.refl _,Sh.refl _,qJ (by simp only[e1];rw[Fk]),qJ (by simp[am,List.map_take]),Sh.refl _,Sh.refl _,Sh.refl _,Sh.refl _,Sh.refl _,Sh.refl _,Sh.refl _,Sh.refl _,Sh.refl _,qJ (by rw[w];simp[am,List.map_take]),Sh.refl _,Sh.refl _,trivial⟩,Sh.refl _,trivial⟩⟩
instance:CC 108:=⟨_,@c108⟩
end X15

/- What is caught ends, steps, runs; BeginToken, StepMachine, RunToken, by the reference; contracts. -/
open Go Go.Abs Go.Proofs V1 H1 M2 N1 N2 P1 P5 P9 P11 P19 X1 X2 X3 X4 X5 X6 X7 X8 X9 X10 X11 X12 X13 X14 X15
namespace X16
theorem Ix{m:Mch}{t:Int}(h:rK m t=true):(bP m t).2=0∧(bP m t).1.ca.length<m.ca.length:=by
 have h2: ¬(t= -101∨eG m.ca m.ca.length<0):=by
  unfold rK at h
  intro h3
  rcases h3 with h3|h3<;>simp[h3]at h
 have h3:=nK m.ca m.ca.length
 rw[sZ h2]
 refine⟨rfl,?_⟩
 simp only[List.length_take]
 omega
theorem IJ{m:Mch}{t:Int}(h:rK m t=false):(bP m t).2=t:=by
 have h2:t= -101∨eG m.ca m.ca.length<0:=by
  unfold rK at h
  rw[Bool.not_eq_false']at h
  simpa using h
 rw[tU h2]
theorem A5{m:Mch}(h0: ¬m.ca.length=0)(h1:(cp m).ca=true):bW m.ca.length m=eD (bn (dropC m) 0):=by
 unfold eD
 split
 ·rename_i h2;exact qh h0 h1 h2
 ·rename_i h2
  split
  ·rename_i h3;exact rH h0 h1 h2 h3
  ·rename_i h3;exact qx h0 h1 h2 h3
abbrev KX(z:Mch)(m:Mch):Ms:=[(1,.live ⟨false,0,gx z,[gx m]⟩),(2,.live ⟨false,0,GK,[GK]⟩)]
set_option maxHeartbeats 2000000 in
theorem c64(m:Mch)(t:Int)(h:MI m)(ht:cell t=true):Con Tryz.prog 64 [aR m,.int .i64 t] (aa [aR m,.int .i64 t]) (mV (eD (m,t))):=by
 generalize hR:eD (m,t)=R
 refine Con.evK [(1000054,[54])] 65 bH dI Tryz.func64 rfl rfl rfl rfl [.cell 4 41,.tmp 5] rfl ?_
 conv=>whnf
 refine aO ?_
 rotate_left
 refine LoopG.auto (α:=Mch × Int) bH dI [1,2,4] (fun a=>[(1,.int .i64 a.2),(2,.ptr 1 0 0),(4,.ptr 2 0 0)]) (fun a=>KX m a.1) (fun a=>MI a.1∧cell a.2=true∧eD a=R) (fun a=>a.1.ca.length) ?_ ?_
 ·conv=>whnf
  refine aO ?_
  rotate_left
  exact aE (m,t) ⟨h,ht,hR⟩ rfl rfl
 ·generalize m=z
  clear hR h ht t
  rintro ⟨m,t⟩ ⟨h,ht,h2⟩- -
  dsimp only at h ht h2⊢
  have hl:=h.cl
  by_cases t0:t=0
  ·subst t0
   rw[eD,if_pos rfl]at h2
   dsimp only at h2
   by_cases h0:m.ca.length=0
   ·rw[fK _ h0]at h2
    obtain rfl:=h2
    have g:((((m.ca.map bF).length:Nat):Int)==0)=true:=by rw[List.length_map,h0];rfl
    conv=>whnf
    exact go
   have ra:=eO hl h0
   have w:=fZ hl
   have g:((((m.ca.map bF).length:Nat):Int)==0)=false:=by rw[List.length_map];simpa using h0
   by_cases h1:(cp m).ca=false
   ·rw[ne _ h1]at h2
    obtain rfl:=h2
    have gC:(if false=true then true else !(cp m).ca)=true:=by rw[h1];rfl
    conv=>whnf
    exact go
   rw[Bool.not_eq_false]at h1
   have gC:(if false=true then true else !(cp m).ca)=false:=by rw[h1];rfl
   have eR:am (am (m.ca.map bF) 0 ((IntKind.i64.wrap (((m.ca.map bF).length:Int)-1)).toNat-0)) 0 (am (m.ca.map bF) 0 ((IntKind.i64.wrap (((m.ca.map bF).length:Int)-1)).toNat-0)).length=(dropC m).ca.map bF:=by
    rw[ak rfl,List.length_map,mI hl h0]
    simp[am,dropC,List.map_take]
   rw[A5 h0 h1]at h2
   have hD:=h.dropC h0
   have hd:=ig m h0
   have hP:=(jF hD (n:=0) rfl)
   have kp:Con Tryz.prog 107 [az m.da,.int .i64 0] (aa [az m.da,.int .i64 0]) (.tup [az (bn (dropC m) 0).1.da,.int .i64 (bn (dropC m) 0).2]):=c107 m.da 0 h.da.st
   have eP:(bn (dropC m) 0).1={dropC m with da:=(bn (dropC m) 0).1.da}:=rfl
   generalize bn (dropC m) 0=pr at kp hP h2 eP
   obtain⟨pm,pt⟩:=pr
   dsimp only at kp hP h2 eP
   generalize pm.da=pd at eP kp
   subst eP
   conv=>whnf
   (apply aJ rfl;conv=>whnf);(apply ac rfl;conv=>whnf);(refine aJ (by(refine decide_eq_false ?_;(try simp only[List.length_map]);omega)) ?_;conv=>whnf);(iterate 10 ((first|apply ac rfl|refine ac (by refine aU rfl ?_;simp only[cB];omega) ?_|refine ac (by simp only[Bool.and_eq_true,decide_eq_true_eq,List.length_map];omega) ?_|apply aJ rfl);conv=>whnf));(refine aH (by(((try simp only[Nat.zero_add,List.length_map]);exact ra _))) ?_;conv=>whnf);(iterate 6 ((first|apply ac rfl|refine ac (by refine aU rfl ?_;simp only[cB];omega) ?_|refine ac (by simp only[Bool.and_eq_true,decide_eq_true_eq,List.length_map];omega) ?_|apply aJ rfl|refine aJ (by assumption) ?_);conv=>whnf));(refine aH (by(((try simp only[Nat.zero_add,List.length_map]);exact ra _))) ?_;conv=>whnf);(iterate 8 ((first|apply ac rfl|refine ac (by refine aU rfl ?_;simp only[cB];omega) ?_|refine ac (by simp only[Bool.and_eq_true,decide_eq_true_eq,List.length_map];omega) ?_);conv=>whnf));(apply ac (by((first|(simp;omega)|(simp[ao,AV.plain,am,w];done)|(simp[ao,AV.plain,am,w];omega))));conv=>whnf);iterate 19 ((first|apply ac rfl|refine af (by(exact eR)) ?_|apply af rfl|refine cg ?_|refine aG (fun hf=> ?_)|refine ChkS.mk (by kernel_rfl) ?_|apply aB|refine ag (kp ..) ?_);conv=>whnf)
   rotate_left
   exact aE (_,pt) ⟨⟨hP.1,hP.2,h2⟩,by show(dropC m).ca.length<m.ca.length;omega⟩ rfl rfl
  ·rw[eD,if_neg (show ¬(m,t).2=0 from t0)]at h2
   have g0:(t != 0)=true:=bne_iff_ne.2 t0
   have kt:=c108 m t h
   have hT:=jc h ht
   have hf:=IJ (m:=m) (t:=t)
   have ht2:=Ix (m:=m) (t:=t)
   dsimp only at h2
   generalize bP m t=x at kt hT hf ht2 h2
   generalize rK m t=b at kt hf ht2
   obtain⟨m1,u⟩:=x
   dsimp only at kt hT hf ht2 h2
   cases b with
   |false=>
    obtain rfl:=hf rfl
    rw[if_neg t0]at h2
    obtain rfl:=h2
    conv=>whnf
    exact go
   |true=>
    obtain⟨rfl,hlt⟩:=ht2 rfl
    rw[if_pos rfl]at h2
    have h:MI m1:=hT.1
    have hl:=h.cl
    have kt:Con Tryz.prog 108 [aR m,.int .i64 t] (aa [aR m,.int .i64 t]) (.tup [aR m1,.bool true]):=kt
    by_cases h0:m1.ca.length=0
    ·rw[fK _ h0]at h2
     obtain rfl:=h2
     have g:((((m1.ca.map bF).length:Nat):Int)==0)=true:=by rw[List.length_map,h0];rfl
     conv=>whnf
     exact go
    have ra:=eO hl h0
    have w:=fZ hl
    have g:((((m1.ca.map bF).length:Nat):Int)==0)=false:=by rw[List.length_map];simpa using h0
    by_cases h1:(cp m1).ca=false
    ·rw[ne _ h1]at h2
     obtain rfl:=h2
     have gC:(if false=true then true else !(cp m1).ca)=true:=by rw[h1];rfl
     conv=>whnf
     exact go
    rw[Bool.not_eq_false]at h1
    have gC:(if false=true then true else !(cp m1).ca)=false:=by rw[h1];rfl
    have eR:am (am (m1.ca.map bF) 0 ((IntKind.i64.wrap (((m1.ca.map bF).length:Int)-1)).toNat-0)) 0 (am (m1.ca.map bF) 0 ((IntKind.i64.wrap (((m1.ca.map bF).length:Int)-1)).toNat-0)).length=(dropC m1).ca.map bF:=by
     rw[ak rfl,List.length_map,mI hl h0]
     simp[am,dropC,List.map_take]
    rw[A5 h0 h1]at h2
    have hD:=h.dropC h0
    have hd:=ig m1 h0
    have hP:=(jF hD (n:=0) rfl)
    have kp:Con Tryz.prog 107 [az m1.da,.int .i64 0] (aa [az m1.da,.int .i64 0]) (.tup [az (bn (dropC m1) 0).1.da,.int .i64 (bn (dropC m1) 0).2]):=c107 m1.da 0 h.da.st
    have eP:(bn (dropC m1) 0).1={dropC m1 with da:=(bn (dropC m1) 0).1.da}:=rfl
    generalize bn (dropC m1) 0=pr at kp hP h2 eP
    obtain⟨pm,pt⟩:=pr
    dsimp only at kp hP h2 eP
    generalize pm.da=pd at eP kp
    subst eP
    conv=>whnf
    (iterate 32 ((first|apply ac rfl|apply af rfl|apply aJ rfl|refine bL (by assumption) ?_|apply aB|refine ag (kt ..) ?_);conv=>whnf));(refine aJ (by(refine decide_eq_false ?_;(try simp only[List.length_map]);omega)) ?_;conv=>whnf);(iterate 10 ((first|apply ac rfl|refine ac (by refine aU rfl ?_;simp only[cB];omega) ?_|refine ac (by simp only[Bool.and_eq_true,decide_eq_true_eq,List.length_map];omega) ?_|apply aJ rfl);conv=>whnf));(refine aH (by(((try simp only[Nat.zero_add,List.length_map]);exact ra _))) ?_;conv=>whnf);(iterate 6 ((first|apply ac rfl|refine ac (by refine aU rfl ?_;simp only[cB];omega) ?_|refine ac (by simp only[Bool.and_eq_true,decide_eq_true_eq,List.length_map];omega) ?_|apply aJ rfl|refine aJ (by assumption) ?_);conv=>whnf));(refine aH (by(((try simp only[Nat.zero_add,List.length_map]);exact ra _))) ?_;conv=>whnf);(iterate 8 ((first|apply ac rfl|refine ac (by refine aU rfl ?_;simp only[cB];omega) ?_|refine ac (by simp only[Bool.and_eq_true,decide_eq_true_eq,List.length_map];omega) ?_);conv=>whnf));(apply ac (by((first|(simp;omega)|(simp[ao,AV.plain,am,w];done)|(simp[ao,AV.plain,am,w];omega))));conv=>whnf);iterate 19 ((first|apply ac rfl|refine af (by(exact eR)) ?_|apply af rfl|refine cg ?_|refine aG (fun hf=> ?_)|refine ChkS.mk (by kernel_rfl) ?_|apply aB|refine ag (kp ..) ?_);conv=>whnf)
    rotate_left
    exact aE (_,pt) ⟨⟨hP.1,hP.2,h2⟩,by show(dropC m1).ca.length<m.ca.length;omega⟩ rfl rfl
instance:CC 64:=⟨_,@c64⟩
end X16

/- BeginToken, StepMachine, RunToken, by the reference; contracts. -/
open Go Go.Abs Go.Proofs V1 H1 M2 N1 N2 P1 P5 P9 P11 P19 X1 X2 X3 X4 X5 X6 X7 X8 X9 X10 X11 X12 X13 X14 X15 X16
namespace X17
theorem c24(m:Mch)(n:Int)(h:MI m):Con Tryz.prog 24 [aR m,.int .i64 n] (aa [aR m,.int .i64 n]) (mV (dj TX false m n)):=by
 have k1:=xw m.fu.toNat m n h rfl
 have hx:=lI TX false m.fu.toNat m n h (by have:=h.fu;omega)
 unfold dj
 generalize dU TX false m.fu.toNat m n=x at k1 hx
 have k2:=c64 x.1 x.2 hx.1 hx.2
 generalize eD x=y at k2
 exact rn 19 Tryz.func24 [.cell 4 41,.tmp 5] (g:=go)
instance:CC 24:=⟨_,@c24⟩
theorem ER(m:Mch)(h:MI m)(hi:(m.co.length:Int)≤m.ip):Con Tryz.prog 49 [aR m] (aa [aR m]) (mV (dj TX false m 0)):=by
 have k0:=CK m hi
 have k1:=xw m.fu.toNat m 0 h rfl
 have hx:=lI TX false m.fu.toNat m 0 h (by have:=h.fu;omega)
 unfold dj
 generalize dU TX false m.fu.toNat m 0=x at k1 hx
 have k2:=c64 x.1 x.2 hx.1 hx.2
 generalize eD x=y at k2
 refine rn 28 Tryz.func49 [.cell 2 41,.tmp 3] (g:= ?_)
 conv=>whnf
 refine aO ?_
 (refine ag (k0 ..) ?_;conv=>whnf)
 exact go
theorem Gc(m:Mch)(h:MI m)(hi: ¬(m.co.length:Int)≤m.ip):Con Tryz.prog 49 [aR m] (aa [aR m]) (mV (dj TX false (nextM m) (m.co.getD m.ip.toNat 0))):=by
 have k0:=kU m h hi
 have hn:MI (nextM m):=h.nextM (by omega)
 generalize nextM m=q at k0 hn
 generalize m.co.getD m.ip.toNat 0=n at k0
 have k1:=xw q.fu.toNat q n hn rfl
 have hx:=lI TX false q.fu.toNat q n hn (by have:=hn.fu;omega)
 unfold dj
 generalize dU TX false q.fu.toNat q n=x at k1 hx
 have k2:=c64 x.1 x.2 hx.1 hx.2
 generalize eD x=y at k2
 refine rn 28 Tryz.func49 [.cell 2 41,.tmp 3] (g:= ?_)
 conv=>whnf
 refine aO ?_
 (refine ag (k0 ..) ?_;conv=>whnf)
 exact go
theorem c49(m:Mch)(h:MI m):Con Tryz.prog 49 [aR m] (aa [aR m]) (mV (dS TX false m)):=by
 unfold dS
 split
 ·exact ER m h (by assumption)
 ·exact Gc m h (by assumption)
instance:CC 49:=⟨_,@c49⟩
theorem vC(b:Bool)(m:Mch)(n:Int):(dj TX b m n).2=0∨(dj TX b m n).1.ca=[]:=AG _
theorem Cb(b:Bool)(m:Mch):(dS TX b m).2=0∨(dS TX b m).1.ca=[]:=by
 unfold dS
 split<;>exact vC ..
theorem c52(m:Mch)(n:Int)(h:MI m):Con Tryz.prog 52 [aR m,.int .i64 n] (aa [aR m,.int .i64 n]) (.tup [aR (mB TX false m n).1,.int .i64 (mB TX false m n).2.1,.int .i64 (mB TX false m n).2.2]):=by
 have ke:=c24 m n h
 have hx:=ix (txt:=TX) (b:=false) h n
 have hw:=tg (txt:=TX) (b:=false) h n
 have hn:=vC false m n
 have hf:=h.fu
 unfold mB
 generalize dj TX false m n=x at ke hx hw hn
 obtain⟨m1,t⟩:=x
 dsimp only at hx hw hn⊢
 generalize hR:iW TX false (iR m1) m1 t 1=R
 have h1:MI m1:=hx.1
 clear hx
 refine rn 38 Tryz.func52 [.cell 4 41,.tmp 5,.tmp 6] (g:= ?_)
 conv=>whnf
 iterate 31 ((first|apply ac rfl|apply af rfl|refine aG (fun hf=> ?_)|apply aB|refine ag (ke ..) ?_);conv=>whnf)
 rotate_left
 refine LoopG.auto (α:=Mch × Int × Int) bH dI [4,7,8,9] (fun a=>[(4,.ptr 1 0 0),(7,.ptr 2 0 0),(8,.int .i64 a.2.1),(9,.int .i64 a.2.2)]) (fun a=>[(1,.live ⟨false,0,GK,[GK]⟩),(2,.live ⟨false,0,GK,[gx a.1]⟩)]) (fun a=>MI a.1∧(a.2.1=0∨a.1.ca=[])∧(0≤a.2.2∧a.2.2+iR a.1≤5000)∧iW TX false (iR a.1) a.1 a.2.1 a.2.2=R) (fun a=>iR a.1) ?_ ?_
 ·conv=>whnf
  (apply ChkS.mk (by kernel_rfl);conv=>whnf)
  rotate_left
  exact aE (m1,t,1) ⟨h1,hn,⟨by dsimp only;omega,by dsimp only;omega⟩,hR⟩ rfl rfl
 ·clear hR ke hw hf h hn
  rintro ⟨m,t,s⟩ ⟨h,hn,hs,h2⟩- -
  dsimp only at h hn hs h2⊢
  by_cases h0:m.ca.length=0
  ·rw[rZ _ _ _ h0]at h2
   obtain rfl:=h2
   have g:decide ((((m.ca.map bF).length:Nat):Int)>0)=false:=by rw[List.length_map,h0];rfl
   have gC:(if true=true then decide ((((m.ca.map bF).length:Nat):Int)>0)else false)=false:=g
   conv=>whnf
   exact go
  obtain rfl:t=0:=hn.resolve_right fun e=>h0 (by rw[e];rfl)
  have g:decide ((((m.ca.map bF).length:Nat):Int)>0)=true:=by rw[List.length_map];exact decide_eq_true (by omega)
  have gC:(if true=true then decide ((((m.ca.map bF).length:Nat):Int)>0)else false)=true:=g
  have kn:=c49 m h
  have hn:=jG (txt:=TX) (b:=false) h
  have hw:=next_w (txt:=TX) (b:=false) h h0
  have hi:=Cb false m
  rw[EM h 0 s h0]at h2
  generalize dS TX false m=y at kn hn hw h2 hi
  obtain⟨m2,u⟩:=y
  have ws:IntKind.i64.wrap (s+1)=s+1:=ai (by omega) (by omega)
  conv=>whnf
  (iterate 5 ((first|apply ac rfl|apply bL rfl);conv=>whnf));(refine bL (by(refine decide_eq_true ?_;(try simp only[List.length_map]);omega)) ?_;conv=>whnf);iterate 30 ((first|apply ac rfl|apply af rfl|refine aG (fun hf=> ?_)|refine ChkS.mk (by kernel_rfl) ?_|apply aB|refine ag (kn ..) ?_);conv=>whnf)
  rotate_left
  exact aE (m2,u,IntKind.i64.wrap (s+1)) ⟨⟨hn.1,hi,by rw[ws];dsimp only at hw⊢;omega,by rw[ws];exact h2⟩,hw⟩ rfl rfl
instance:CC 52:=⟨_,@c52⟩
theorem ta{m:Mch}{n:Int}(h:cZ m=false):fy m n=1:=by rw[fy,if_pos h]
theorem tJ{m:Mch}{n:Int}(h:cZ m=true)(ht:ck m.ws n=false):fy m n=13:=by rw[fy,if_neg (by rw[h];decide),if_pos ht]
theorem uj{m:Mch}{n:Int}(h:cZ m=true)(ht:ck m.ws n=true)(h0: ¬m.ca.length=0):fy m n=11:=by rw[fy,if_neg (by rw[h];decide),if_neg (by rw[ht];decide),if_pos (by omega)]
theorem Bz{m:Mch}{n:Int}(h:cZ m=true)(ht:ck m.ws n=true)(h0:m.ca.length=0):fy m n=0:=by rw[fy,if_neg (by rw[h];decide),if_neg (by rw[ht];decide),if_neg (by omega)]
theorem wh: ∀(k:Nat)(m:Mch)(t s:Int),MI m→MI (iW TX false k m t s).1
 |0,m,t,s,h=>h
 |k+1,m,t,s,h=>by
  unfold iW
  split
  ·exact h
  ·exact wh k _ _ _ (jG h).1
theorem c7(m:Mch)(n:Int):Con Tryz.prog 7 [aR m,.int .i64 n] (aa [aR m,.int .i64 n]) (FX (oW false m n)):=by
 have k1:=c22 m
 by_cases h:cZ m=true
 rotate_left
 ·rw[Bool.not_eq_true]at h
  rw[h]at k1
  rw[oW,if_neg (by rw[ta h];decide),ta h]
  refine rn 33 Tryz.func7 [.cell 4 41,.tmp 5,.tmp 6] (g:= ?_)
  conv=>whnf
  refine aO ?_
  rotate_left
  exact⟨pD _ _⟩
 rw[h]at k1
 have hM:=((fW m).1 h).1
 have k2:=c23 m.ws n (bv hM.ws).2.2
 by_cases ht:ck m.ws n=true
 rotate_left
 ·rw[Bool.not_eq_true]at ht
  rw[ht]at k2
  rw[oW,if_neg (by rw[tJ h ht];decide),tJ h ht]
  refine rn 33 Tryz.func7 [.cell 4 41,.tmp 5,.tmp 6] (g:= ?_)
  conv=>whnf
  refine aO ?_
  rotate_left
  exact⟨pD _ _⟩
 rw[ht]at k2
 by_cases h0:m.ca.length=0
 rotate_left
 ·have g:decide ((((m.ca.map bF).length:Nat):Int)>0)=true:=by rw[List.length_map];exact decide_eq_true (by omega)
  rw[oW,if_neg (by rw[uj h ht h0];decide),uj h ht h0]
  refine rn 33 Tryz.func7 [.cell 4 41,.tmp 5,.tmp 6] (g:= ?_)
  conv=>whnf
  refine aO ?_
  rotate_left
  exact⟨pD _ _⟩
 have g:decide ((((m.ca.map bF).length:Nat):Int)>0)=false:=by rw[List.length_map,h0];rfl
 rw[oW,if_pos (Bz h ht h0)]
 have k3:=c24 m n hM
 have hx:=ix (txt:=TX) (b:=false) hM n
 have k4:=c25 _ (gF hx.1)
 generalize dj TX false m n=x at k3 k4
 exact rn 33 Tryz.func7 [.cell 4 41,.tmp 5,.tmp 6] (g:=go)
theorem c13(m:Mch):Con Tryz.prog 13 [aR m] (aa [aR m]) (FX (nX false m)):=by
 have k1:=c22 m
 by_cases h:cZ m=true
 rotate_left
 ·rw[Bool.not_eq_true]at h
  rw[EG h]
  rw[h]at k1
  refine rn 24 Tryz.func13 [.cell 2 41,.tmp 3,.tmp 4] (g:= ?_)
  conv=>whnf
  refine aO ?_
  rotate_left
  exact⟨pD _ _⟩
 rw[h]at k1
 have hM:=((fW m).1 h).1
 by_cases h0:m.ca.length=0
 ·rw[Ez h h0]
  have g:((((m.ca.map bF).length:Nat):Int)==0)=true:=by rw[List.length_map,h0];rfl
  refine rn 24 Tryz.func13 [.cell 2 41,.tmp 3,.tmp 4] (g:= ?_)
  conv=>whnf
  refine aO ?_
  rotate_left
  exact⟨pD _ _⟩
 ·rw[Es h h0]
  have g:((((m.ca.map bF).length:Nat):Int)==0)=false:=by rw[List.length_map];simpa using h0
  have k3:=c49 m hM
  have hx:=jG (txt:=TX) (b:=false) hM
  have k4:=c25 _ (gF hx.1)
  generalize dS TX false m=x at k3 k4
  exact rn 24 Tryz.func13 [.cell 2 41,.tmp 3,.tmp 4] (g:=go)
theorem c15(m:Mch)(n:Int):Con Tryz.prog 15 [aR m,.int .i64 n] (aa [aR m,.int .i64 n]) (Je (oA false m n)):=by
 have k1:=c22 m
 by_cases h:cZ m=true
 rotate_left
 ·rw[Bool.not_eq_true]at h
  rw[h]at k1
  rw[oA,if_neg (by rw[ta h];decide),ta h]
  refine rn 37 Tryz.func15 [.cell 4 41,.tmp 5,.tmp 6,.tmp 7] (g:= ?_)
  conv=>whnf
  refine aO ?_
  rotate_left
  exact⟨yB _ _ _⟩
 rw[h]at k1
 have hM:=((fW m).1 h).1
 have k2:=c23 m.ws n (bv hM.ws).2.2
 by_cases ht:ck m.ws n=true
 rotate_left
 ·rw[Bool.not_eq_true]at ht
  rw[ht]at k2
  rw[oA,if_neg (by rw[tJ h ht];decide),tJ h ht]
  refine rn 37 Tryz.func15 [.cell 4 41,.tmp 5,.tmp 6,.tmp 7] (g:= ?_)
  conv=>whnf
  refine aO ?_
  rotate_left
  exact⟨yB _ _ _⟩
 rw[ht]at k2
 by_cases h0:m.ca.length=0
 rotate_left
 ·have g:decide ((((m.ca.map bF).length:Nat):Int)>0)=true:=by rw[List.length_map];exact decide_eq_true (by omega)
  rw[oA,if_neg (by rw[uj h ht h0];decide),uj h ht h0]
  refine rn 37 Tryz.func15 [.cell 4 41,.tmp 5,.tmp 6,.tmp 7] (g:= ?_)
  conv=>whnf
  refine aO ?_
  rotate_left
  exact⟨yB _ _ _⟩
 have g:decide ((((m.ca.map bF).length:Nat):Int)>0)=false:=by rw[List.length_map,h0];rfl
 rw[oA,if_pos (Bz h ht h0)]
 have k3:=c52 m n hM
 have k4:=c25 (mB TX false m n).1 (gF (wh _ _ _ _ (ix hM n).1))
 generalize mB TX false m n=x at k3 k4
 exact rn 37 Tryz.func15 [.cell 4 41,.tmp 5,.tmp 6,.tmp 7] (g:=go)
end X17
