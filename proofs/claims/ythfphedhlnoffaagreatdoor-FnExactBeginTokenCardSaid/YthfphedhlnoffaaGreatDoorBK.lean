import Derived.Test.YthfphedhlnoffaaGreatDoorBJ
/- Throws, by the reference; the contract. -/
set_option linter.unusedVariables false
set_option maxHeartbeats 4000000
set_option linter.unusedSimpArgs false
set_option maxRecDepth 100000
open Go Go.Abs Go.Proofs V1 H1 M2 N1 N2 P1 P5 P9 P11 P19 X1 X2 X3 X4 X5 X6 X7 X8 X10 X11 X12 X13 X14
namespace X15
def Kt(r:Mch × Bool):AV:=.tup [aX r.1,.bool r.2]
abbrev H7:List AV:=[.emp,.emp,.emp,.emp,.emp,.int .i64 0,.int .i64 0,.str [],.emp,.emp,.emp,.int .i64 0,.emp,.emp,.int .i64 0,.int .i64 0]
abbrev Ef(m:Mch):Ms:=[(1,.live ⟨false,0,gZ m,[gZ m]⟩),(2,.live ⟨false,0,H7,[H7]⟩)]
theorem Bg(m:Mch)(i:Int):Sh (.tup [.agg [fb m.ws,dE m.co,dE m.da.st,dE m.da.bk,dE m.da.ce,.int .i64 m.da.he,.int .i64 m.da.ba,.str m.da.ou,pa m.ho.gr,dE m.ho.st,dE m.ho.q,.int .i64 m.ho.tk,ll m.ho.ds,.emp,.int .i64 i,.int .i64 m.fu],.bool false]) (Kt ({m with ca:=[],ip:=i},false)):=
 Sh.tup ⟨Sh.agg ⟨Sh.refl _,Sh.refl _,Sh.refl _,Sh.refl _,Sh.refl _,Sh.refl _,Sh.refl _,Sh.refl _,Sh.refl _,Sh.refl _,Sh.refl _,Sh.refl _,Sh.refl _,Sh.emp_ro _,Sh.refl _,Sh.refl _,trivial⟩,Sh.refl _,trivial⟩
def rj(m:Mch)(t:Int):Bool:= !(decide (t= -101)||decide (eu m.ca m.ca.length<0))
theorem DV{m:Mch}{t:Int}(h:t= -101∨eu m.ca m.ca.length<0):((bR m t).1,rj m t)=({m with ca:=[],ip:=0},false):=by
 rw[sT h,rj]
 rcases h with h|h<;>simp[h]
theorem Hj{m:Mch}{t:Int}(h: ¬(t= -101∨eu m.ca m.ca.length<0)):((bR m t).1,rj m t)=({m with ca:=m.ca.take (eu m.ca m.ca.length).toNat,ip:=(se m).ip,da:={m.da with st:=mJ m.da.st (se m).dp++[t],bk:=m.da.bk.take (se m).fl.toNat}},true):=by
 rw[tp h,rj]
 simp only[not_or]at h
 simp[h]
def kE(st:List Int)(d:Int)(j:Nat):List Int:=st.take d.toNat++List.replicate j 0
theorem gX(st:List Int)(d:Int)(j:Nat):(kE st d j).length=min d.toNat st.length+j:=by unfold kE;simp
theorem AG{st:List Int}{d:Int}{b:Int}(h:0≤d∧d≤b):am (st.map aj) 0 ((if d<((st.map aj).length:Int)then d else((st.map aj).length:Int)).toNat-0)=(kE st d 0).map aj:=by
 unfold kE am
 rw[List.length_map,List.drop_zero,Nat.sub_zero,List.replicate_zero,List.append_nil,List.map_take]
 split
 ·rfl
 ·rw[List.take_of_length_le (by rw[List.length_map];omega),List.take_of_length_le (by rw[List.length_map];omega)]
theorem Ci{st:List Int}{d:Int}{b:Int}(h:0≤d∧d≤b):(am (st.map aj) 0 ((if d<((st.map aj).length:Int)then d else((st.map aj).length:Int)).toNat-0)).length=(kE st d 0).length:=by rw[AG h,List.length_map]
theorem FK(st:List Int)(d:Int)(j:Nat):am ((kE st d j).map aj) 0 (kE st d j).length++am [[AV.int .i64 0]] 0 1=(kE st d (j+1)).map aj:=by
 rw[al (rows:=(kE st d j).map aj) (by rw[List.length_map])]
 unfold kE
 rw[List.replicate_succ',←List.append_assoc,List.map_append (l₂:=[0])]
 rfl
theorem DZ(l:List Int)(t:Int):am (am (l.map aj) 0 l.length++am [[AV.int .i64 t]] 0 1) 0 (l.length+(am [[AV.int .i64 t]] 0 1).length)=(l++[t]).map aj:=by
 rw[al (rows:=l.map aj) (by rw[List.length_map]),al (by rw[List.length_append,List.length_map]),List.map_append]
 rfl
theorem Er{st:List Int}{d:Int}{j:Nat}(h:(kE st d j).length=d.toNat):kE st d j=mJ st d:=by
 rw[gX]at h
 rw[kE,mJ,show j=d.toNat-st.length by omega]
theorem c108(m:Mch)(t:Int)(h:MI m):Con Tryz.prog 108 [aX m,.int .i64 t] (aa [aX m,.int .i64 t]) (Kt ((bR m t).1,rj m t)):=by
 have hl:=h.cl
 refine rn 82 Tryz.func108 [.cell 4 41,.tmp 5] (g:= ?_)
 conv=>whnf
 refine aP ?_
 rotate_left
 refine LoopG.auto (α:=Nat) bI dN [1,2,4,6] (fun i=>[(1,.int .i64 t),(2,.ptr 1 0 0),(4,.ptr 2 0 0),(6,.int .i64 i)]) (fun _=>Ef m) (fun i=>i≤m.ca.length∧eu m.ca m.ca.length=eu m.ca i) (fun i=>i) ?_ ?_
 ·conv=>whnf
  refine aP ?_
  rotate_left
  exact aE m.ca.length ⟨Nat.le_refl _,rfl⟩ (by simp) rfl
 ·rintro i ⟨h1,h2⟩- -
  by_cases h0:i=0
  ·subst h0
   rw[DV (.inr (by rw[h2];exact(by decide:(-1:Int)<0)))]
   conv=>whnf
   refine aP ?_
   rotate_left
   exact⟨Bg m 0⟩
  obtain⟨k,rfl⟩: ∃k,i=k+1:=⟨i-1,by omega⟩
  have hg:decide (((k+1:Nat):Int)>0)=true:=decide_eq_true (by omega)
  by_cases ht:t= -101
  ·subst ht
   rw[DV (.inl rfl)]
   have gC:(if decide (((k+1:Nat):Int)>0)=true then((-101:Int) != -101)else false)=false:=by rw[if_pos hg];rfl
   conv=>whnf
   refine aP ?_
   rotate_left
   exact⟨Bg m 0⟩
  have g1:(t != -101)=true:=bne_iff_ne.2 ht
  have gC:(if decide (((k+1:Nat):Int)>0)=true then(t != -101)else false)=true:=by rw[if_pos hg,g1]
  have w:IntKind.i64.wrap (((k+1:Nat):Int)-1)=(k:Int):=by rw[ai (by omega) (by omega)];omega
  have ra: ∀z,dm (m.ca.map bK) (IntKind.i64.wrap (((k+1:Nat):Int)-1)).toNat z=bK (m.ca.getD k default):=fun z=>by rw[w];exact aF bK _ _ _ default (by omega)
  by_cases hc:(m.ca.getD k default).ca=false
  ·rw[zo hc]at h2
   have g2:(!(m.ca.getD k default).ca)=true:=by rw[hc];rfl
   conv=>whnf
   refine aP ?_
   rotate_left
   exact aE k ⟨⟨by omega,h2⟩,Nat.lt_succ_self k⟩ (by rw[w]) rfl
  rw[Bool.not_eq_false]at hc
  rw[Ac hc]at h2
  have hb: ¬(t= -101∨eu m.ca m.ca.length<0):=by rw[h2];omega
  rw[Hj hb]
  have e:se m=m.ca.getD k default:=by rw[se,h2];rfl
  have g2:(!(m.ca.getD k default).ca)=false:=by rw[hc];rfl
  have ha:=h.ci _ (zV (mK _ _) (by rw[h2];omega))
  have hd:=ha.dp
  have hf:=ha.fl
  have hs:=h.da.st
  have hb2:=h.da.bk
  rw[←e]at ra g2
  rw[h2]
  generalize se m=c at ra g2 hd hf
  conv=>whnf
  (refine bH (by(refine decide_eq_true ?_;(try simp only[List.length_map]);omega)) ?_;conv=>whnf);(iterate 5 ((first|apply ac rfl|refine ac (by refine aO rfl ?_;simp only[cR];omega) ?_|refine ac (by simp only[Bool.and_eq_true,decide_eq_true_eq,List.length_map];omega) ?_|apply bH rfl|refine bH (by assumption) ?_);conv=>whnf));(refine aD (by(((try simp only[Nat.zero_add,List.length_map]);exact ra _))) ?_;conv=>whnf);iterate 15 ((first|apply ac rfl|refine ac (by refine aO rfl ?_;simp only[cR];omega) ?_|refine ac (by simp only[Bool.and_eq_true,decide_eq_true_eq,List.length_map];omega) ?_|refine ac (by((first|(simp[w];omega)|(simp[ao,am];split<;>omega)|(simp;split<;>omega)|(simp[ao,am];omega)))) ?_|refine bW ?_|refine aK (by assumption) ?_);conv=>whnf)
  rotate_left
  let tsF:Nat→Ts:=fun n=>[(1,.int .i64 t),(2,.ptr 1 0 0),(4,.ptr 2 0 0),(6,.int .i64 (k+1:Nat)),(7,.ptr 3 0 0),(8,.ref 4 0 n)]
  let msF:List (List AV)→Ms:=fun r=>Ef m++[(3,.live ⟨false,0,zC,[bK c]⟩),(4,.live ⟨true,1,zI,r⟩)]
  refine LoopG.auto (α:=Nat) bI dN [1,2,4,6,7,8] (fun j=>[(1,.int .i64 t),(2,.ptr 1 0 0),(4,.ptr 2 0 0),(6,.int .i64 (k+1:Nat)),(7,.ptr 3 0 0),(8,.ref 4 0 (kE m.da.st c.dp j).length)]) (fun j=>Ef m++[(3,.live ⟨false,0,zC,[bK c]⟩),(4,.live ⟨true,1,zI,(kE m.da.st c.dp j).map aj⟩)]) (fun j=>(kE m.da.st c.dp j).length≤c.dp.toNat) (fun j=>64-j) ?_ ?_
  ·conv=>whnf
   refine aP ?_
   rotate_left
   exact aE 0 (by rw[gX];omega) (congrArg tsF (Ci hd)) (congrArg msF (AG hd))
  ·intro j hj _ _
   conv=>whnf
   (iterate 7 (first|(refine ac (by solve|simp only[bc]|fail) ?_;(conv=>whnf))|(apply ac rfl;(conv=>whnf))|(refine ck ?_ ?_<;>intro hb<;>(try simp only[ew]at hb)<;>conv=>whnf)));(apply ac (by((first|(simp[ao,am,w];done)|(simp[ao,am,w];omega))));conv=>whnf);(refine bW ?_;conv=>whnf);(apply ChkS.mk (by kernel_rfl);conv=>whnf)
   rotate_left
   (iterate 5 ((first|refine ac (by solve|simp only[bc]|fail) ?_|apply ac rfl);conv=>whnf));(apply ac (by((first|(simp[ao,am,w];done)|(simp[ao,am,w];omega))));conv=>whnf);(iterate 12 ((first|apply ac rfl|refine ac (by refine aO rfl ?_;simp only[cR];omega) ?_|refine ac (by simp only[Bool.and_eq_true,decide_eq_true_eq,List.length_map];omega) ?_|refine bW ?_);conv=>whnf));(apply ac (by((first|(simp[ao,am,w];done)|(simp[ao,am,w];omega))));conv=>whnf);(iterate 10 ((first|apply ac rfl|refine ac (by refine aO rfl ?_;simp only[cR];omega) ?_|refine ac (by simp only[Bool.and_eq_true,decide_eq_true_eq,List.length_map];omega) ?_|refine bW ?_);conv=>whnf));(apply ac (by((first|(simp[ao,am,w];done)|(simp[ao,am,w];omega))));conv=>whnf);iterate 35 ((first|refine ac (by solve|simp only[bc]|fail) ?_|apply ac rfl|refine ag (al (by solve|simp[bc]|fail)) ?_|apply ag rfl|refine bW ?_);conv=>whnf)
   rotate_left
   ·refine aE (j+1) ⟨?_,by rw[gX]at hj;omega⟩ ?_ ?_
    ·rw[gX];rw[gX]at hj hb;omega
    ·exact congrArg tsF (by rw[gX,gX];rfl)
    ·exact congrArg msF (FK m.da.st c.dp j)
   ·have e1:kE m.da.st c.dp j=mJ m.da.st c.dp:=Er (by omega)
    exact⟨Sh.tup ⟨Sh.agg ⟨Sh.refl _,Sh.refl _,qE (by simp only[e1];rw[DZ]),qE (by simp[am,List.map_take]),Sh.refl _,Sh.refl _,Sh.refl _,Sh.refl _,Sh.refl _,Sh.refl _,Sh.refl _,Sh.refl _,Sh.refl _,qE (by rw[w];simp[am,List.map_take]),Sh.refl _,Sh.refl _,trivial⟩,Sh.refl _,trivial⟩⟩
instance:CC 108:=⟨_,@c108⟩
end X15

/- What is caught ends, steps, runs; BeginToken, StepMachine, RunToken, by the reference; contracts. -/
open Go Go.Abs Go.Proofs V1 H1 M2 N1 N2 P1 P5 P9 P11 P19 X1 X2 X3 X4 X5 X6 X7 X8 X9 X10 X11 X12 X13 X14 X15
namespace X16
theorem GE{m:Mch}{t:Int}(h:rj m t=true):(bR m t).2=0∧(bR m t).1.ca.length<m.ca.length:=by
 have h2: ¬(t= -101∨eu m.ca m.ca.length<0):=by
  unfold rj at h
  intro h3
  rcases h3 with h3|h3<;>simp[h3]at h
 have h3:=mK m.ca m.ca.length
 rw[tp h2]
 refine⟨rfl,?_⟩
 simp only[List.length_take]
 omega
theorem GR{m:Mch}{t:Int}(h:rj m t=false):(bR m t).2=t:=by
 have h2:t= -101∨eu m.ca m.ca.length<0:=by
  unfold rj at h
  rw[Bool.not_eq_false']at h
  simpa using h
 rw[sT h2]
theorem BJ{m:Mch}(h0: ¬m.ca.length=0)(h1:(cj m).ca=true):cd m.ca.length m=fE (bi (dropC m) 0):=by
 unfold fE
 split
 ·rename_i h2;exact qG h0 h1 h2
 ·rename_i h2
  split
  ·rename_i h3;exact pF h0 h1 h2 h3
  ·rename_i h3;exact ql h0 h1 h2 h3
abbrev I7(z:Mch)(m:Mch):Ms:=[(1,.live ⟨false,0,gZ z,[gZ m]⟩),(2,.live ⟨false,0,H7,[H7]⟩)]
set_option maxHeartbeats 2000000 in
theorem c64(m:Mch)(t:Int)(h:MI m)(ht:cell t=true):Con Tryz.prog 64 [aX m,.int .i64 t] (aa [aX m,.int .i64 t]) (mV (fE (m,t))):=by
 generalize hR:fE (m,t)=R
 refine Con.evK [(1000054,[54])] 65 bI dN Tryz.func64 rfl rfl rfl rfl [.cell 4 41,.tmp 5] rfl ?_
 conv=>whnf
 refine aP ?_
 rotate_left
 refine LoopG.auto (α:=Mch × Int) bI dN [1,2,4] (fun a=>[(1,.int .i64 a.2),(2,.ptr 1 0 0),(4,.ptr 2 0 0)]) (fun a=>I7 m a.1) (fun a=>MI a.1∧cell a.2=true∧fE a=R) (fun a=>a.1.ca.length) ?_ ?_
 ·conv=>whnf
  refine aP ?_
  rotate_left
  exact aE (m,t) ⟨h,ht,hR⟩ rfl rfl
 ·generalize m=z
  clear hR h ht t
  rintro ⟨m,t⟩ ⟨h,ht,h2⟩- -
  dsimp only at h ht h2⊢
  have hl:=h.cl
  by_cases t0:t=0
  ·subst t0
   rw[fE,if_pos rfl]at h2
   dsimp only at h2
   by_cases h0:m.ca.length=0
   ·rw[fD _ h0]at h2
    obtain rfl:=h2
    have g:((((m.ca.map bK).length:Nat):Int)==0)=true:=by rw[List.length_map,h0];rfl
    conv=>whnf
    exact go
   have ra:=eG hl h0
   have w:=fT hl
   have g:((((m.ca.map bK).length:Nat):Int)==0)=false:=by rw[List.length_map];simpa using h0
   by_cases h1:(cj m).ca=false
   ·rw[mT _ h1]at h2
    obtain rfl:=h2
    have gC:(if false=true then true else !(cj m).ca)=true:=by rw[h1];rfl
    conv=>whnf
    exact go
   rw[Bool.not_eq_false]at h1
   have gC:(if false=true then true else !(cj m).ca)=false:=by rw[h1];rfl
   have eR:am (am (m.ca.map bK) 0 ((IntKind.i64.wrap (((m.ca.map bK).length:Int)-1)).toNat-0)) 0 (am (m.ca.map bK) 0 ((IntKind.i64.wrap (((m.ca.map bK).length:Int)-1)).toNat-0)).length=(dropC m).ca.map bK:=by
    rw[al rfl,List.length_map,mg hl h0]
    simp[am,dropC,List.map_take]
   rw[BJ h0 h1]at h2
   have hD:=h.dropC h0
   have hd:=hE m h0
   have hP:=(jk hD (n:=0) rfl)
   have kp:Con Tryz.prog 107 [az m.da,.int .i64 0] (aa [az m.da,.int .i64 0]) (.tup [az (bi (dropC m) 0).1.da,.int .i64 (bi (dropC m) 0).2]):=c107 m.da 0 h.da.st
   have eP:(bi (dropC m) 0).1={dropC m with da:=(bi (dropC m) 0).1.da}:=rfl
   generalize bi (dropC m) 0=pr at kp hP h2 eP
   obtain⟨pm,pt⟩:=pr
   dsimp only at kp hP h2 eP
   generalize pm.da=pd at eP kp
   subst eP
   conv=>whnf
   (apply aK rfl;conv=>whnf);(apply ac rfl;conv=>whnf);(refine aK (by(refine decide_eq_false ?_;(try simp only[List.length_map]);omega)) ?_;conv=>whnf);(iterate 10 ((first|apply ac rfl|refine ac (by refine aO rfl ?_;simp only[cR];omega) ?_|refine ac (by simp only[Bool.and_eq_true,decide_eq_true_eq,List.length_map];omega) ?_|apply aK rfl);conv=>whnf));(refine aD (by(((try simp only[Nat.zero_add,List.length_map]);exact ra _))) ?_;conv=>whnf);(iterate 6 ((first|apply ac rfl|refine ac (by refine aO rfl ?_;simp only[cR];omega) ?_|refine ac (by simp only[Bool.and_eq_true,decide_eq_true_eq,List.length_map];omega) ?_|apply aK rfl|refine aK (by assumption) ?_);conv=>whnf));(refine aD (by(((try simp only[Nat.zero_add,List.length_map]);exact ra _))) ?_;conv=>whnf);(iterate 8 ((first|apply ac rfl|refine ac (by refine aO rfl ?_;simp only[cR];omega) ?_|refine ac (by simp only[Bool.and_eq_true,decide_eq_true_eq,List.length_map];omega) ?_);conv=>whnf));(apply ac (by((first|(simp;omega)|(simp[ao,AV.plain,am,w];done)|(simp[ao,AV.plain,am,w];omega))));conv=>whnf);iterate 19 ((first|apply ac rfl|refine ag (by(exact eR)) ?_|apply ag rfl|refine bW ?_|refine aG (fun hf=> ?_)|refine ChkS.mk (by kernel_rfl) ?_|apply aH|refine ah (kp ..) ?_);conv=>whnf)
   rotate_left
   exact aE (_,pt) ⟨⟨hP.1,hP.2,h2⟩,by show(dropC m).ca.length<m.ca.length;omega⟩ rfl rfl
  ·rw[fE,if_neg (show ¬(m,t).2=0 from t0)]at h2
   have g0:(t != 0)=true:=bne_iff_ne.2 t0
   have kt:=c108 m t h
   have hT:=jh h ht
   have hf:=GR (m:=m) (t:=t)
   have ht2:=GE (m:=m) (t:=t)
   dsimp only at h2
   generalize bR m t=x at kt hT hf ht2 h2
   generalize rj m t=b at kt hf ht2
   obtain⟨m1,u⟩:=x
   dsimp only at kt hT hf ht2 h2
   cases b with
   |false=>
    obtain rfl:=hf rfl
    rw[if_neg t0]at h2
    obtain rfl:=h2
    conv=>whnf
    exact go
   |true=>
    obtain⟨rfl,hlt⟩:=ht2 rfl
    rw[if_pos rfl]at h2
    have h:MI m1:=hT.1
    have hl:=h.cl
    have kt:Con Tryz.prog 108 [aX m,.int .i64 t] (aa [aX m,.int .i64 t]) (.tup [aX m1,.bool true]):=kt
    by_cases h0:m1.ca.length=0
    ·rw[fD _ h0]at h2
     obtain rfl:=h2
     have g:((((m1.ca.map bK).length:Nat):Int)==0)=true:=by rw[List.length_map,h0];rfl
     conv=>whnf
     exact go
    have ra:=eG hl h0
    have w:=fT hl
    have g:((((m1.ca.map bK).length:Nat):Int)==0)=false:=by rw[List.length_map];simpa using h0
    by_cases h1:(cj m1).ca=false
    ·rw[mT _ h1]at h2
     obtain rfl:=h2
     have gC:(if false=true then true else !(cj m1).ca)=true:=by rw[h1];rfl
     conv=>whnf
     exact go
    rw[Bool.not_eq_false]at h1
    have gC:(if false=true then true else !(cj m1).ca)=false:=by rw[h1];rfl
    have eR:am (am (m1.ca.map bK) 0 ((IntKind.i64.wrap (((m1.ca.map bK).length:Int)-1)).toNat-0)) 0 (am (m1.ca.map bK) 0 ((IntKind.i64.wrap (((m1.ca.map bK).length:Int)-1)).toNat-0)).length=(dropC m1).ca.map bK:=by
     rw[al rfl,List.length_map,mg hl h0]
     simp[am,dropC,List.map_take]
    rw[BJ h0 h1]at h2
    have hD:=h.dropC h0
    have hd:=hE m1 h0
    have hP:=(jk hD (n:=0) rfl)
    have kp:Con Tryz.prog 107 [az m1.da,.int .i64 0] (aa [az m1.da,.int .i64 0]) (.tup [az (bi (dropC m1) 0).1.da,.int .i64 (bi (dropC m1) 0).2]):=c107 m1.da 0 h.da.st
    have eP:(bi (dropC m1) 0).1={dropC m1 with da:=(bi (dropC m1) 0).1.da}:=rfl
    generalize bi (dropC m1) 0=pr at kp hP h2 eP
    obtain⟨pm,pt⟩:=pr
    dsimp only at kp hP h2 eP
    generalize pm.da=pd at eP kp
    subst eP
    conv=>whnf
    (iterate 32 ((first|apply ac rfl|apply ag rfl|apply aK rfl|refine bH (by assumption) ?_|apply aH|refine ah (kt ..) ?_);conv=>whnf));(refine aK (by(refine decide_eq_false ?_;(try simp only[List.length_map]);omega)) ?_;conv=>whnf);(iterate 10 ((first|apply ac rfl|refine ac (by refine aO rfl ?_;simp only[cR];omega) ?_|refine ac (by simp only[Bool.and_eq_true,decide_eq_true_eq,List.length_map];omega) ?_|apply aK rfl);conv=>whnf));(refine aD (by(((try simp only[Nat.zero_add,List.length_map]);exact ra _))) ?_;conv=>whnf);(iterate 6 ((first|apply ac rfl|refine ac (by refine aO rfl ?_;simp only[cR];omega) ?_|refine ac (by simp only[Bool.and_eq_true,decide_eq_true_eq,List.length_map];omega) ?_|apply aK rfl|refine aK (by assumption) ?_);conv=>whnf));(refine aD (by(((try simp only[Nat.zero_add,List.length_map]);exact ra _))) ?_;conv=>whnf);(iterate 8 ((first|apply ac rfl|refine ac (by refine aO rfl ?_;simp only[cR];omega) ?_|refine ac (by simp only[Bool.and_eq_true,decide_eq_true_eq,List.length_map];omega) ?_);conv=>whnf));(apply ac (by((first|(simp;omega)|(simp[ao,AV.plain,am,w];done)|(simp[ao,AV.plain,am,w];omega))));conv=>whnf);iterate 19 ((first|apply ac rfl|refine ag (by(exact eR)) ?_|apply ag rfl|refine bW ?_|refine aG (fun hf=> ?_)|refine ChkS.mk (by kernel_rfl) ?_|apply aH|refine ah (kp ..) ?_);conv=>whnf)
    rotate_left
    exact aE (_,pt) ⟨⟨hP.1,hP.2,h2⟩,by show(dropC m1).ca.length<m.ca.length;omega⟩ rfl rfl
instance:CC 64:=⟨_,@c64⟩
end X16

/- BeginToken, StepMachine, RunToken, by the reference; contracts. -/
open Go Go.Abs Go.Proofs V1 H1 M2 N1 N2 P1 P5 P9 P11 P19 X1 X2 X3 X4 X5 X6 X7 X8 X9 X10 X11 X12 X13 X14 X15 X16
namespace X17
theorem c24(m:Mch)(n:Int)(h:MI m):Con Tryz.prog 24 [aX m,.int .i64 n] (aa [aX m,.int .i64 n]) (mV (fG TX false m n)):=by
 have k1:=DK m.fu.toNat m n h rfl
 have hx:=pb TX false m.fu.toNat m n h (by have:=h.fu;omega)
 unfold fG
 generalize dX TX false m.fu.toNat m n=x at k1 hx
 have k2:=c64 x.1 x.2 hx.1 hx.2
 generalize fE x=y at k2
 exact rn 19 Tryz.func24 [.cell 4 41,.tmp 5] (g:=go)
instance:CC 24:=⟨_,@c24⟩
theorem zm{m:Mch}{n:Int}(h:dK m=false):gk m n=1:=by rw[gk,if_pos h]
theorem zR{m:Mch}{n:Int}(h:dK m=true)(ht:cg m.ws n=false):gk m n=13:=by rw[gk,if_neg (by rw[h];decide),if_pos ht]
theorem An{m:Mch}{n:Int}(h:dK m=true)(ht:cg m.ws n=true)(h0: ¬m.ca.length=0):gk m n=11:=by rw[gk,if_neg (by rw[h];decide),if_neg (by rw[ht];decide),if_pos (by omega)]
theorem Em{m:Mch}{n:Int}(h:dK m=true)(ht:cg m.ws n=true)(h0:m.ca.length=0):gk m n=0:=by rw[gk,if_neg (by rw[h];decide),if_neg (by rw[ht];decide),if_neg (by omega)]
theorem c7(m:Mch)(n:Int):Con Tryz.prog 7 [aX m,.int .i64 n] (aa [aX m,.int .i64 n]) (Ij (ol false m n)):=by
 have k1:=c22 m
 by_cases h:dK m=true
 rotate_left
 ·rw[Bool.not_eq_true]at h
  rw[h]at k1
  rw[ol,if_neg (by rw[zm h];decide),zm h]
  refine rn 33 Tryz.func7 [.cell 4 41,.tmp 5,.tmp 6] (g:= ?_)
  conv=>whnf
  refine aP ?_
  rotate_left
  exact⟨wV _ _⟩
 rw[h]at k1
 have hM:=((od m).1 h).1
 have k2:=c23 m.ws n (bu hM.ws).2.2
 by_cases ht:cg m.ws n=true
 rotate_left
 ·rw[Bool.not_eq_true]at ht
  rw[ht]at k2
  rw[ol,if_neg (by rw[zR h ht];decide),zR h ht]
  refine rn 33 Tryz.func7 [.cell 4 41,.tmp 5,.tmp 6] (g:= ?_)
  conv=>whnf
  refine aP ?_
  rotate_left
  exact⟨wV _ _⟩
 rw[ht]at k2
 by_cases h0:m.ca.length=0
 rotate_left
 ·have g:decide ((((m.ca.map bK).length:Nat):Int)>0)=true:=by rw[List.length_map];exact decide_eq_true (by omega)
  rw[ol,if_neg (by rw[An h ht h0];decide),An h ht h0]
  refine rn 33 Tryz.func7 [.cell 4 41,.tmp 5,.tmp 6] (g:= ?_)
  conv=>whnf
  refine aP ?_
  rotate_left
  exact⟨wV _ _⟩
 have g:decide ((((m.ca.map bK).length:Nat):Int)>0)=false:=by rw[List.length_map,h0];rfl
 rw[ol,if_pos (Em h ht h0)]
 have k3:=c24 m n hM
 have hx:=xD (txt:=TX) (b:=false) hM n
 have k4:=c25 _ (tu hx.1)
 generalize fG TX false m n=x at k3 k4
 exact rn 33 Tryz.func7 [.cell 4 41,.tmp 5,.tmp 6] (g:=go)
end X17
