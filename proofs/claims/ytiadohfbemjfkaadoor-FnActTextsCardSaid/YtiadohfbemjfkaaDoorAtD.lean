import Derived.Test.YtiadohfbemjfkaaDoorAtC
import Derived.Test.YtiadohfbemjfkaaDoorAtA
/- The reference's source of data, 4: stretches of definitions. -/
set_option linter.unusedVariables false
set_option linter.unusedSimpArgs false
set_option maxRecDepth 100000
open Go Go.Abs Go.Proofs V1 W1 W2 W3
namespace W4
structure Ts where
 a:Int
 m:Int
 t:List UInt8
def InC(d:List UInt8)(dep a m a' m':Int)(t:List UInt8):Prop:=Con Tryd.prog 52 [srcO d a m,.int .i64 dep] [srcO d a' m',.undef] (.str t)
def fourW:List (List UInt8):=[[115,113],[100,117,112],[120],[43]]
inductive Rn(d:List UInt8)(dep:Int)(s s':Ts):Prop where
 |z (h:dep=0) (x:List UInt8) (k:PlC d s.a s.m s'.a s'.m x) (l:x.length≤7) (e:s'.t=s.t++(x++[32]))
 |p (h:dep≠0) (a1 m1:Int) (x:List UInt8) (c:ChC d 4 s.a s.m a1 m1 false) (k:PlC d a1 m1 s'.a s'.m x) (l:x.length≤7) (e:s'.t=s.t++(x++[32]))
 |k0 (h:dep≠0) (a1 m1 a2 m2:Int) (c:ChC d 4 s.a s.m a1 m1 true) (n:NxC d 6 a1 m1 a2 m2 0) (b:List UInt8) (k:InC d (dep-1) a2 m2 s'.a s'.m b) (l:b.length≤2000) (e:s'.t=s.t++([105,102,32]++b++[116,104,101,110,32]))
 |k1 (h:dep≠0) (a1 m1 a2 m2:Int) (c:ChC d 4 s.a s.m a1 m1 true) (n:NxC d 6 a1 m1 a2 m2 1) (a3 m3:Int) (b1 b2:List UInt8) (k:InC d (dep-1) a2 m2 a3 m3 b1) (k':InC d (dep-1) a3 m3 s'.a s'.m b2) (l:b1.length≤2000) (l':b2.length≤2000) (e:s'.t=s.t++([105,102,32]++b1++[101,108,115,101,32]++b2++[116,104,101,110,32]))
 |k2 (h:dep≠0) (a1 m1 a2 m2:Int) (c:ChC d 4 s.a s.m a1 m1 true) (n:NxC d 6 a1 m1 a2 m2 2) (q:a2=s'.a∧m2=s'.m) (e:s'.t=s.t++[51,32,98,101,103,105,110,32,49,45,32,100,117,112,32,48,61,32,117,110,116,105,108,32,100,114,111,112,32])
 |k3 (h:dep≠0) (a1 m1 a2 m2:Int) (c:ChC d 4 s.a s.m a1 m1 true) (n:NxC d 6 a1 m1 a2 m2 3) (b:List UInt8) (k:InC d (dep-1) a2 m2 s'.a s'.m b) (l:b.length≤2000) (e:s'.t=s.t++([51,32,48,32,100,111,32,105,32]++b++[108,111,111,112,32]))
 |k4 (h:dep≠0) (a1 m1 a2 m2:Int) (c:ChC d 4 s.a s.m a1 m1 true) (n:NxC d 6 a1 m1 a2 m2 4) (q:a2=s'.a∧m2=s'.m) (e:s'.t=s.t++[98,101,103,105,110,32,100,117,112,32,119,104,105,108,101,32,49,45,32,114,101,112,101,97,116,32])
 |k5 (h:dep≠0) (a1 m1 a2 m2:Int) (c:ChC d 4 s.a s.m a1 m1 true) (n:NxC d 6 a1 m1 a2 m2 5) (x:List UInt8) (k:PkC d fourW a2 m2 s'.a s'.m x) (l:x.length≤3) (e:s'.t=s.t++([91,39,93,32]++x++[32,99,97,116,99,104,32]))
theorem four_len: ∀x∈fourW,x.length≤3:=by decide
def Inner(d:List UInt8)(dep:Int)(Bd S lim:Int):Prop:= ∀(a m L:Int),SrcOk a m L→L≤lim→ ∃b a' m',InC d dep a m a' m' b∧(b.length:Int)≤Bd∧SrcOk a' m' (L+S)
theorem rn_ex{d:List UInt8}{dep Bd S lim:Int}(hB:0≤Bd∧Bd≤2000)(hS:0≤S)(hlim:lim≤9000000000)(hi:dep=0∨Inner d (dep-1) Bd S (lim+6+S))(s:Ts){L:Int}(h:SrcOk s.a s.m L)(hL:L≤lim):
  ∃s',Rn d dep s s'∧(s'.t.length:Int)≤s.t.length+(2*Bd+30)∧SrcOk s'.a s'.m (L+(9+2*S)):=by
 by_cases h0:dep=0
 ·obtain⟨x,a',m',k,l,h'⟩:=pl d h (by omega)
  exact⟨⟨a',m',s.t++(x++[32])⟩,.z h0 x k l rfl,by simp;omega,sle h' (by omega)⟩
 ·have hi:=hi.resolve_left h0
  obtain⟨b,a1,m1,c,h1⟩:=ch d 4 h (by omega)
  cases b with
  |false=>
   obtain⟨x,a',m',k,l,h'⟩:=pl d h1 (by omega)
   exact⟨⟨a',m',s.t++(x++[32])⟩,.p h0 a1 m1 x c k l rfl,by simp;omega,sle h' (by omega)⟩
  |true=>
   obtain⟨v,a2,m2,n,v0,v1,h2⟩:=nx d 6 h1 (by omega)
   have hv:v=0∨v=1∨v=2∨v=3∨v=4∨v=5:=by omega
   rcases hv with rfl|rfl|rfl|rfl|rfl|rfl
   ·obtain⟨b,a',m',k,l,h'⟩:=hi a2 m2 _ h2 (by omega)
    exact⟨⟨a',m',_⟩,.k0 h0 a1 m1 a2 m2 c n b k (by omega) rfl,by simp;omega,sle h' (by omega)⟩
   ·obtain⟨b1,a3,m3,k,l,h3⟩:=hi a2 m2 _ h2 (by omega)
    obtain⟨b2,a',m',k',l',h'⟩:=hi a3 m3 _ h3 (by omega)
    exact⟨⟨a',m',_⟩,.k1 h0 a1 m1 a2 m2 c n a3 m3 b1 b2 k k' (by omega) (by omega) rfl,by simp;omega,sle h' (by omega)⟩
   ·exact⟨⟨a2,m2,_⟩,.k2 h0 a1 m1 a2 m2 c n ⟨rfl,rfl⟩ rfl,by simp;omega,sle h2 (by omega)⟩
   ·obtain⟨b,a',m',k,l,h'⟩:=hi a2 m2 _ h2 (by omega)
    exact⟨⟨a',m',_⟩,.k3 h0 a1 m1 a2 m2 c n b k (by omega) rfl,by simp;omega,sle h' (by omega)⟩
   ·exact⟨⟨a2,m2,_⟩,.k4 h0 a1 m1 a2 m2 c n ⟨rfl,rfl⟩ rfl,by simp;omega,sle h2 (by omega)⟩
   ·obtain⟨x,a',m',k,hx,h'⟩:=pk d fourW (by decide) h2 (by omega)
    have l:=four_len x hx
    exact⟨⟨a',m',_⟩,.k5 h0 a1 m1 a2 m2 c n x k l rfl,by simp;omega,sle h' (by omega)⟩
theorem run_ex{d:List UInt8}{dep Bd S lim:Int}(hB:0≤Bd∧Bd≤2000)(hS:0≤S)(hlim:lim≤9000000000)(hi:dep=0∨Inner d (dep-1) Bd S (lim+6+S)):
  ∀(r:Nat)(s:Ts){L:Int},SrcOk s.a s.m L→L+r*(9+2*S)≤lim→ ∃f:Nat→Ts,f 0=s∧(∀i,i<r→Rn d dep (f i) (f (i+1)))∧(∀i,i≤r→((f i).t.length:Int)≤s.t.length+i*(2*Bd+30))∧SrcOk (f r).a (f r).m (L+r*(9+2*S))
 |0,s,L,h,hl=>⟨fun _=>s,rfl,fun i hi=>by omega,fun i hi=>(by obtain rfl:i=0:=(by omega);simp),sle h (by simp)⟩
 |r+1,s,L,h,hl=>by
  have e1:((r+1:Nat):Int)*(9+2*S)=r*(9+2*S)+(9+2*S):=by rw[Int.natCast_add,Int.add_mul];simp
  have hr0:0≤(r:Int)*(9+2*S):=Int.mul_nonneg (by omega) (by omega)
  rw[e1]at hl⊢
  obtain⟨s1,k1,l1,h1⟩:=rn_ex hB hS hlim hi s h (by omega)
  obtain⟨f,q0,q1,q2,q3⟩:=run_ex hB hS hlim hi r s1 h1 (by omega)
  refine⟨fun i=>match i with|0=>s|i+1=>f i,rfl,fun i hi=> ?_,fun i hi=> ?_,sle q3 (by omega)⟩
  ·match i with
   |0=>simp only;rw[q0];exact k1
   |i+1=>exact q1 i (by omega)
  ·match i with
   |0=>simp
   |i+1=>
    have:=q2 i (by omega)
    have e2:((i+1:Nat):Int)*(2*Bd+30)=i*(2*Bd+30)+(2*Bd+30):=by rw[Int.natCast_add,Int.add_mul];simp
    simp only
    rw[e2]
    omega
theorem in_walk(d:List UInt8)(dep a m a0 m0:Int)(hd:0≤dep∧dep≤2)(v:Int)(n:Nat)(hv:0≤v∧v≤3)(hn:(n:Int)=1+v)(k0:NxC d 4 a m a0 m0 v)(f:Nat→Ts)(f0:f 0=⟨a0,m0,[]⟩)(hr: ∀i,i<n→Rn d dep (f i) (f (i+1)))(hl: ∀i,i≤n→((f i).t.length:Int)≤100000):InC d dep a m (f n).a (f n).m (f n).t:=by
 unfold NxC at k0
 unfold InC
 have hw:IntKind.i64.wrap (1+v)=(n:Int):=by rw[wrap64 (by omega) (by omega)];omega
 refine Con.evPK [(1000076,[76])] 82 [500000] rfl T_ok mix Tryd.func52 rfl rfl rfl rfl [.tmp 4] rfl ?_
 conv=>whnf
 (iterate 3 ((first|apply rq_s rfl|refine handp_s 35 [some 3,none] ?_);conv=>whnf));(focus (apply callpe_s (f:=35);(· repeat' (first|(refine sub_all ?_;simp[List.length_map];done)|exact sub_map _ _ _ _|apply cons_eq|apply obj_eq|apply agg_eq|apply own_eq|apply ro_eq|apply rp_eq|apply fnc_eq|rfl));refine callp_s (f:=35) rfl (k0 ..) ?_;conv=>whnf));(refine fac_s (fun hf=> ?_);conv=>whnf)
 rotate_left
 refine LoopG.auto (α:=Nat) T_ok mix [0,1,5,6] (fun j=>[(0,.ptr 500000 0 0),(1,.int .i64 dep),(5,.str (f j).t),(6,.int .i64 ((n:Int)-j))]) (fun j=>[(500000,.live ⟨false,0,[.undef,.undef,.undef],[srcC d (f j).a (f j).m]⟩)]) (fun j=>j≤n) (fun j=>n-j) ?_ ?_
 ·conv=>whnf
  (apply ChkS.mk (by kernel_rfl);conv=>whnf)
  rotate_left
  exact head_s 0 (by omega) (by rw[f0,hw];simp) (by rw[f0];rfl)
 ·intro j hj _ _
  have hlj:=hl j hj
  by_cases hjn:j=n
  ·subst hjn
   have hb0:decide ((j:Int)-j>0)=false:=by simp
   conv=>whnf
   iterate 6 (first|(apply rq_s rfl;(conv=>whnf))|(apply rows_s rfl;(conv=>whnf))|(focus (apply br_f (by solve|simp|fail);(conv=>whnf)))|(refine aftp_s (by rfl) ?_;(conv=>whnf))|(exact True.intro))
  ·have hlt:j<n:=by omega
   have hb0:decide ((n:Int)-j>0)=true:=by simp;omega
   have hi1:IntKind.i64.wrap ((n:Int)-j-1)=(n:Int)-((j+1:Nat):Int):=by rw[wrap64 (by omega) (by omega)];omega
   have hd1:IntKind.i64.wrap (dep-1)=dep-1:=wrap64 (by omega) (by omega)
   rcases hr j hlt with⟨h,x,k,l,e⟩|⟨h,a1,m1,x,c,k,l,e⟩|⟨h,a1,m1,a2,m2,c,nn,b,k,l,e⟩|⟨h,a1,m1,a2,m2,c,nn,a3,m3,b1,b2,k,k',l,l',e⟩|⟨h,a1,m1,a2,m2,c,nn,q,e⟩|⟨h,a1,m1,a2,m2,c,nn,b,k,l,e⟩|⟨h,a1,m1,a2,m2,c,nn,q,e⟩|⟨h,a1,m1,a2,m2,c,nn,x,k,l,e⟩
   ·have g1:(dep==0)=true:=beq_iff_eq.2 h
    unfold PlC at k
    conv=>whnf
    (iterate 8 ((first|apply rq_s rfl|apply br_t rfl|refine br_t (by assumption) ?_|refine handp_s 61 [some 3] ?_);conv=>whnf));(focus (apply callpe_s (f:=61);(· repeat' (first|(refine sub_all ?_;simp[List.length_map];done)|exact sub_map _ _ _ _|apply cons_eq|apply obj_eq|apply agg_eq|apply own_eq|apply ro_eq|apply rp_eq|apply fnc_eq|rfl));refine callp_s (f:=61) rfl (k ..) ?_;conv=>whnf));(iterate 2 (apply rq_s (by(((first|(simp[maxStr];done)|(simp[maxStr];omega)))));conv=>whnf));(refine fac_s (fun hf=> ?_);conv=>whnf);(apply ChkS.mk (by kernel_rfl);conv=>whnf)
    rotate_left
    exact head_s (j+1) ⟨by omega,by omega⟩ (by simp only[e,hi1]) rfl
   ·have g1:(dep==0)=false:=beq_eq_false_iff_ne.2 h
    unfold ChC at c
    unfold PlC at k
    conv=>whnf
    (iterate 6 ((first|apply rq_s rfl|apply br_f rfl|refine br_t (by assumption) ?_|refine br_f (by assumption) ?_|refine handp_s 60 [some 3,none] ?_);conv=>whnf));(focus (apply callpe_s (f:=60);(· repeat' (first|(refine sub_all ?_;simp[List.length_map];done)|exact sub_map _ _ _ _|apply cons_eq|apply obj_eq|apply agg_eq|apply own_eq|apply ro_eq|apply rp_eq|apply fnc_eq|rfl));refine callp_s (f:=60) rfl (c ..) ?_;conv=>whnf));(iterate 4 ((first|apply rq_s rfl|apply br_t rfl|apply br_f rfl|refine handp_s 61 [some 3] ?_);conv=>whnf));(focus (apply callpe_s (f:=61);(· repeat' (first|(refine sub_all ?_;simp[List.length_map];done)|exact sub_map _ _ _ _|apply cons_eq|apply obj_eq|apply agg_eq|apply own_eq|apply ro_eq|apply rp_eq|apply fnc_eq|rfl));refine callp_s (f:=61) rfl (k ..) ?_;conv=>whnf));(iterate 2 (apply rq_s (by(((first|(simp[maxStr];done)|(simp[maxStr];omega)))));conv=>whnf));(refine fac_s (fun hf=> ?_);conv=>whnf);(apply ChkS.mk (by kernel_rfl);conv=>whnf)
    rotate_left
    exact head_s (j+1) ⟨by omega,by omega⟩ (by simp only[e,hi1]) rfl
   ·have g1:(dep==0)=false:=beq_eq_false_iff_ne.2 h
    unfold ChC at c
    unfold NxC at nn
    unfold InC at k
    rw[←hd1]at k
    conv=>whnf
    (iterate 6 ((first|apply rq_s rfl|apply br_f rfl|refine br_t (by assumption) ?_|refine br_f (by assumption) ?_|refine handp_s 60 [some 3,none] ?_);conv=>whnf));(focus (apply callpe_s (f:=60);(· repeat' (first|(refine sub_all ?_;simp[List.length_map];done)|exact sub_map _ _ _ _|apply cons_eq|apply obj_eq|apply agg_eq|apply own_eq|apply ro_eq|apply rp_eq|apply fnc_eq|rfl));refine callp_s (f:=60) rfl (c ..) ?_;conv=>whnf));(iterate 5 ((first|apply rq_s rfl|apply br_f rfl|refine handp_s 35 [some 3,none] ?_);conv=>whnf));(focus (apply callpe_s (f:=35);(· repeat' (first|(refine sub_all ?_;simp[List.length_map];done)|exact sub_map _ _ _ _|apply cons_eq|apply obj_eq|apply agg_eq|apply own_eq|apply ro_eq|apply rp_eq|apply fnc_eq|rfl));refine callp_s (f:=35) rfl (nn ..) ?_;conv=>whnf));(iterate 5 ((first|apply rq_s rfl|refine fac_s (fun hf=> ?_)|apply br_t rfl|refine handp_s 52 [some 3,none] ?_);conv=>whnf));(focus (apply callpe_s (f:=52);(· repeat' (first|(refine sub_all ?_;simp[List.length_map];done)|exact sub_map _ _ _ _|apply cons_eq|apply obj_eq|apply agg_eq|apply own_eq|apply ro_eq|apply rp_eq|apply fnc_eq|rfl));refine callp_s (f:=52) rfl (k ..) ?_;conv=>whnf));(iterate 3 (apply rq_s (by(((first|(simp[maxStr];done)|(simp[maxStr];omega)))));conv=>whnf));(refine fac_s (fun hf=> ?_);conv=>whnf);(apply ChkS.mk (by kernel_rfl);conv=>whnf)
    rotate_left
    exact head_s (j+1) ⟨by omega,by omega⟩ (by simp only[e,hi1]) rfl
   ·have g1:(dep==0)=false:=beq_eq_false_iff_ne.2 h
    unfold ChC at c
    unfold NxC at nn
    unfold InC at k
    unfold InC at k'
    rw[←hd1]at k k'
    conv=>whnf
    (iterate 6 ((first|apply rq_s rfl|apply br_f rfl|refine br_t (by assumption) ?_|refine br_f (by assumption) ?_|refine handp_s 60 [some 3,none] ?_);conv=>whnf));(focus (apply callpe_s (f:=60);(· repeat' (first|(refine sub_all ?_;simp[List.length_map];done)|exact sub_map _ _ _ _|apply cons_eq|apply obj_eq|apply agg_eq|apply own_eq|apply ro_eq|apply rp_eq|apply fnc_eq|rfl));refine callp_s (f:=60) rfl (c ..) ?_;conv=>whnf));(iterate 5 ((first|apply rq_s rfl|apply br_f rfl|refine handp_s 35 [some 3,none] ?_);conv=>whnf));(focus (apply callpe_s (f:=35);(· repeat' (first|(refine sub_all ?_;simp[List.length_map];done)|exact sub_map _ _ _ _|apply cons_eq|apply obj_eq|apply agg_eq|apply own_eq|apply ro_eq|apply rp_eq|apply fnc_eq|rfl));refine callp_s (f:=35) rfl (nn ..) ?_;conv=>whnf));(iterate 6 ((first|apply rq_s rfl|refine fac_s (fun hf=> ?_)|apply br_t rfl|apply br_f rfl|refine handp_s 52 [some 3,none] ?_);conv=>whnf));(focus (apply callpe_s (f:=52);(· repeat' (first|(refine sub_all ?_;simp[List.length_map];done)|exact sub_map _ _ _ _|apply cons_eq|apply obj_eq|apply agg_eq|apply own_eq|apply ro_eq|apply rp_eq|apply fnc_eq|rfl));refine callp_s (f:=52) rfl (k ..) ?_;conv=>whnf));(iterate 2 (apply rq_s (by(((first|(simp[maxStr];done)|(simp[maxStr];omega)))));conv=>whnf));(iterate 3 ((first|apply rq_s rfl|refine handp_s 52 [some 3,none] ?_);conv=>whnf));(focus (apply callpe_s (f:=52);(· repeat' (first|(refine sub_all ?_;simp[List.length_map];done)|exact sub_map _ _ _ _|apply cons_eq|apply obj_eq|apply agg_eq|apply own_eq|apply ro_eq|apply rp_eq|apply fnc_eq|rfl));refine callp_s (f:=52) rfl (k' ..) ?_;conv=>whnf));(iterate 3 (apply rq_s (by(((first|(simp[maxStr];done)|(simp[maxStr];omega)))));conv=>whnf));iterate 3 ((first|refine fac_s (fun hf=> ?_)|refine ChkS.mk (by kernel_rfl) ?_);conv=>whnf)
    rotate_left
    exact head_s (j+1) ⟨by omega,by omega⟩ (by simp only[e,hi1]) rfl
   ·have g1:(dep==0)=false:=beq_eq_false_iff_ne.2 h
    unfold ChC at c
    unfold NxC at nn
    conv=>whnf
    (iterate 6 ((first|apply rq_s rfl|apply br_f rfl|refine br_t (by assumption) ?_|refine br_f (by assumption) ?_|refine handp_s 60 [some 3,none] ?_);conv=>whnf));(focus (apply callpe_s (f:=60);(· repeat' (first|(refine sub_all ?_;simp[List.length_map];done)|exact sub_map _ _ _ _|apply cons_eq|apply obj_eq|apply agg_eq|apply own_eq|apply ro_eq|apply rp_eq|apply fnc_eq|rfl));refine callp_s (f:=60) rfl (c ..) ?_;conv=>whnf));(iterate 5 ((first|apply rq_s rfl|apply br_f rfl|refine handp_s 35 [some 3,none] ?_);conv=>whnf));(focus (apply callpe_s (f:=35);(· repeat' (first|(refine sub_all ?_;simp[List.length_map];done)|exact sub_map _ _ _ _|apply cons_eq|apply obj_eq|apply agg_eq|apply own_eq|apply ro_eq|apply rp_eq|apply fnc_eq|rfl));refine callp_s (f:=35) rfl (nn ..) ?_;conv=>whnf));(iterate 4 ((first|refine fac_s (fun hf=> ?_)|apply br_t rfl|apply br_f rfl);conv=>whnf));(apply rq_s (by(((first|(simp[maxStr];done)|(simp[maxStr];omega)))));conv=>whnf);(apply ChkS.mk (by kernel_rfl);conv=>whnf)
    rotate_left
    obtain⟨q1,q2⟩:=q
    exact head_s (j+1) ⟨by omega,by omega⟩ (by simp only[e,hi1]) (by rw[←q1,←q2];rfl)
   ·have g1:(dep==0)=false:=beq_eq_false_iff_ne.2 h
    unfold ChC at c
    unfold NxC at nn
    unfold InC at k
    rw[←hd1]at k
    conv=>whnf
    (iterate 6 ((first|apply rq_s rfl|apply br_f rfl|refine br_t (by assumption) ?_|refine br_f (by assumption) ?_|refine handp_s 60 [some 3,none] ?_);conv=>whnf));(focus (apply callpe_s (f:=60);(· repeat' (first|(refine sub_all ?_;simp[List.length_map];done)|exact sub_map _ _ _ _|apply cons_eq|apply obj_eq|apply agg_eq|apply own_eq|apply ro_eq|apply rp_eq|apply fnc_eq|rfl));refine callp_s (f:=60) rfl (c ..) ?_;conv=>whnf));(iterate 5 ((first|apply rq_s rfl|apply br_f rfl|refine handp_s 35 [some 3,none] ?_);conv=>whnf));(focus (apply callpe_s (f:=35);(· repeat' (first|(refine sub_all ?_;simp[List.length_map];done)|exact sub_map _ _ _ _|apply cons_eq|apply obj_eq|apply agg_eq|apply own_eq|apply ro_eq|apply rp_eq|apply fnc_eq|rfl));refine callp_s (f:=35) rfl (nn ..) ?_;conv=>whnf));(iterate 8 ((first|apply rq_s rfl|refine fac_s (fun hf=> ?_)|apply br_t rfl|apply br_f rfl|refine handp_s 52 [some 3,none] ?_);conv=>whnf));(focus (apply callpe_s (f:=52);(· repeat' (first|(refine sub_all ?_;simp[List.length_map];done)|exact sub_map _ _ _ _|apply cons_eq|apply obj_eq|apply agg_eq|apply own_eq|apply ro_eq|apply rp_eq|apply fnc_eq|rfl));refine callp_s (f:=52) rfl (k ..) ?_;conv=>whnf));(iterate 3 (apply rq_s (by(((first|(simp[maxStr];done)|(simp[maxStr];omega)))));conv=>whnf));(refine fac_s (fun hf=> ?_);conv=>whnf);(apply ChkS.mk (by kernel_rfl);conv=>whnf)
    rotate_left
    exact head_s (j+1) ⟨by omega,by omega⟩ (by simp only[e,hi1]) rfl
   ·have g1:(dep==0)=false:=beq_eq_false_iff_ne.2 h
    unfold ChC at c
    unfold NxC at nn
    conv=>whnf
    (iterate 6 ((first|apply rq_s rfl|apply br_f rfl|refine br_t (by assumption) ?_|refine br_f (by assumption) ?_|refine handp_s 60 [some 3,none] ?_);conv=>whnf));(focus (apply callpe_s (f:=60);(· repeat' (first|(refine sub_all ?_;simp[List.length_map];done)|exact sub_map _ _ _ _|apply cons_eq|apply obj_eq|apply agg_eq|apply own_eq|apply ro_eq|apply rp_eq|apply fnc_eq|rfl));refine callp_s (f:=60) rfl (c ..) ?_;conv=>whnf));(iterate 5 ((first|apply rq_s rfl|apply br_f rfl|refine handp_s 35 [some 3,none] ?_);conv=>whnf));(focus (apply callpe_s (f:=35);(· repeat' (first|(refine sub_all ?_;simp[List.length_map];done)|exact sub_map _ _ _ _|apply cons_eq|apply obj_eq|apply agg_eq|apply own_eq|apply ro_eq|apply rp_eq|apply fnc_eq|rfl));refine callp_s (f:=35) rfl (nn ..) ?_;conv=>whnf));(iterate 6 ((first|refine fac_s (fun hf=> ?_)|apply br_t rfl|apply br_f rfl);conv=>whnf));(apply rq_s (by(((first|(simp[maxStr];done)|(simp[maxStr];omega)))));conv=>whnf);(apply ChkS.mk (by kernel_rfl);conv=>whnf)
    rotate_left
    obtain⟨q1,q2⟩:=q
    exact head_s (j+1) ⟨by omega,by omega⟩ (by simp only[e,hi1]) (by rw[←q1,←q2];rfl)
   ·have g1:(dep==0)=false:=beq_eq_false_iff_ne.2 h
    unfold ChC at c
    unfold NxC at nn
    unfold PkC at k
    unfold fourW roS at k
    simp only[List.map_cons,List.map_nil]at k
    conv=>whnf
    (iterate 6 ((first|apply rq_s rfl|apply br_f rfl|refine br_t (by assumption) ?_|refine br_f (by assumption) ?_|refine handp_s 60 [some 3,none] ?_);conv=>whnf));(focus (apply callpe_s (f:=60);(· repeat' (first|(refine sub_all ?_;simp[List.length_map];done)|exact sub_map _ _ _ _|apply cons_eq|apply obj_eq|apply agg_eq|apply own_eq|apply ro_eq|apply rp_eq|apply fnc_eq|rfl));refine callp_s (f:=60) rfl (c ..) ?_;conv=>whnf));(iterate 5 ((first|apply rq_s rfl|apply br_f rfl|refine handp_s 35 [some 3,none] ?_);conv=>whnf));(focus (apply callpe_s (f:=35);(· repeat' (first|(refine sub_all ?_;simp[List.length_map];done)|exact sub_map _ _ _ _|apply cons_eq|apply obj_eq|apply agg_eq|apply own_eq|apply ro_eq|apply rp_eq|apply fnc_eq|rfl));refine callp_s (f:=35) rfl (nn ..) ?_;conv=>whnf));(iterate 8 ((first|apply rq_s rfl|refine fac_s (fun hf=> ?_)|apply br_t rfl|apply br_f rfl);conv=>whnf));(refine rows_s (by((refine sub_all ?_;simp[List.length_map];done))) ?_;conv=>whnf);(iterate 3 ((first|apply rq_s rfl|refine handp_s 36 [some 3,none] ?_);conv=>whnf));(focus (apply callpe_s (f:=36);(· repeat' (first|(refine sub_all ?_;simp[List.length_map];done)|exact sub_map _ _ _ _|apply cons_eq|apply obj_eq|apply agg_eq|apply own_eq|apply ro_eq|apply rp_eq|apply fnc_eq|rfl));refine callp_s (f:=36) rfl (k ..) ?_;conv=>whnf));(iterate 3 (apply rq_s (by(((first|(simp[maxStr];done)|(simp[maxStr];omega)))));conv=>whnf));(refine fac_s (fun hf=> ?_);conv=>whnf);(apply ChkS.mk (by kernel_rfl);conv=>whnf)
    rotate_left
    exact head_s (j+1) ⟨by omega,by omega⟩ (by simp only[e,hi1]) rfl
end W4

/- The reference's source of data, 5: lines, actions. -/
open Go Go.Abs Go.Proofs V1 W1 W2 W3 W4
namespace W5
theorem inner_of{d:List UInt8}{dep Bd S lim:Int}(hd:0≤dep∧dep≤2)(hB:0≤Bd∧Bd≤2000)(hS:0≤S∧S≤10000)(hlim:lim≤8000000000)(hi:dep=0∨Inner d (dep-1) Bd S (lim+100000+6+S)):Inner d dep (4*(2*Bd+30)) (3+4*(9+2*S)) lim:=by
 intro a m L h hL
 obtain⟨v,a0,m0,k0,v0,v1,h0⟩:=nx d 4 h (by omega)
 have hv:v≤3:=by omega
 have hn:(((1+v).toNat:Nat):Int)=1+v:=by omega
 have hr0:(((1+v).toNat:Nat):Int)*(9+2*S)≤4*(9+2*S):=Int.mul_le_mul_of_nonneg_right (by omega) (by omega)
 obtain⟨f,f0,hr,hl,hs⟩:=run_ex (lim:=lim+100000) hB hS.1 (by omega) hi (1+v).toNat ⟨a0,m0,[]⟩ h0 (by omega)
 have hl4: ∀i,i≤(1+v).toNat→((f i).t.length:Int)≤4*(2*Bd+30):=fun i hi=>by
  have h1:=hl i hi
  have h2:(i:Int)*(2*Bd+30)≤4*(2*Bd+30):=Int.mul_le_mul_of_nonneg_right (by omega) (by omega)
  have h3:(([]:List UInt8).length:Int)=0:=rfl
  simp only at h1
  rw[h3]at h1
  omega
 exact⟨_,_,_,in_walk d dep a m a0 m0 hd v (1+v).toNat ⟨v0,hv⟩ hn k0 f f0 hr (fun i hi=>by have:=hl4 i hi;omega),hl4 _ (Nat.le_refl _),sle hs (by omega)⟩
theorem in0(d:List UInt8):Inner d 0 120 39 7000000000:=inner_of (Bd:=0) (S:=0) (by omega) (by omega) (by omega) (by omega) (.inl rfl)
theorem inner_le{d:List UInt8}{dep Bd S lim lim':Int}(h:Inner d dep Bd S lim)(hl:lim'≤lim):Inner d dep Bd S lim':=fun a m L k hL=>h a m L k (by omega)
theorem in1(d:List UInt8):Inner d 1 1080 351 6000000000:=inner_of (Bd:=120) (S:=39) (by omega) (by omega) (by omega) (by omega) (.inr (inner_le (in0 d) (by omega)))
theorem in2(d:List UInt8):Inner d 2 8760 2847 5000000000:=inner_of (Bd:=1080) (S:=351) (by omega) (by omega) (by omega) (by omega) (.inr (inner_le (in1 d) (by omega)))
theorem ce(d:List UInt8){a m L:Int}(h:SrcOk a m L)(hl:L≤10000000000): ∃v a' m',Con Tryd.prog 37 [srcO d a m] [srcO d a' m'] (.int .i64 v)∧cell v=true∧SrcOk a' m' (L+20):=by
 obtain⟨v,a',m',h1,h2,h3,h4⟩:=cell_ex d a m (sle h hl)
 exact⟨v,a',m',h1,h2,sle h4 (by have:=h.2;omega)⟩
def nameW:List (List UInt8):=[[115,113],[120],[105,110,99],[100,117,112]]
def varW:List (List UInt8):=[[118],[119],[120]]
def oddW:List (List UInt8):=[[55,32,99,111,110,115,116,97,110,116,32,99],[39,32,115,113,32,99,97,116,99,104,32,46],[39,32,120,32,101,120,101,99,117,116,101],[49,32,50,32,43,32,46],[58,32,114,101,99,32,100,117,112,32,105,102,32,49,45,32,114,101,99,117,114,115,101,32,116,104,101,110,32,59],[53,32,114,101,99,32,46],[58,32,111,112,101,110,32,49,32,50],[51,32,59],[40,32,114,101,109,97,114,107,32,41,32,49,32,92,32,50,32,51],[40,32,111,112,101,110],[122,97,112],[58,32,105,102,32,49,32,59],[39,32,105,102],[58,32,97,32,58,32,98,32,59],[108,111,111,112],[118,97,114,105,97,98,108,101],[104,101,120,32,102,102,32,46,32,100,101,99,105,109,97,108]]
theorem name_len: ∀x∈nameW,x.length≤3:=by decide
theorem var_len: ∀x∈varW,x.length≤1:=by decide
theorem odd_len: ∀x∈oddW,x.length≤40:=by decide
def FlC(d:List UInt8)(a m a' m':Int)(t:List UInt8):Prop:=Con Tryd.prog 38 [srcO d a m] [srcO d a' m'] (.str t)
theorem fl(d:List UInt8){a m L:Int}(h:SrcOk a m L)(hl:L≤4000000000): ∃t a' m',FlC d a m a' m' t∧t.length≤400∧SrcOk a' m' (L+3000):=by
 obtain⟨v,a0,m0,k0,v0,v1,h0⟩:=nx d 9 h (by omega)
 unfold NxC at k0
 have hv:v=0∨v=1∨v=2∨v=3∨v=4∨v=5∨v=6∨v=7∨v=8:=by omega
 by_cases h01:v=0∨v=1
 ·obtain⟨x,a1,m1,k1,hx,h1⟩:=pk d nameW (by decide) h0 (by omega)
  have lx:=name_len x hx
  unfold PkC nameW roS at k1
  simp only[List.map_cons,List.map_nil]at k1
  obtain⟨b,a2,m2,k2,lb,h2⟩:=in2 d a1 m1 _ h1 (by omega)
  unfold InC at k2
  by_cases hbig:((([58,32]++x++[32]).length:Nat):Int)+((b.length:Nat):Int)≥400
  ·obtain⟨c,a3,m3,k3,lc,h3⟩:=in0 d a2 m2 _ h2 (by omega)
   unfold InC at k3
   have g:decide (IntKind.i64.wrap (((([58,32]++x++[32]).length:Nat):Int)+((b.length:Nat):Int))≥400)=true:=by rw[wrap64 (by omega) (by simp;omega)];exact decide_eq_true hbig
   refine⟨[58,32]++x++[32]++c++[59],a3,m3,?_,by simp;omega,sle h3 (by omega)⟩
   unfold FlC
   rcases h01 with rfl|rfl<;>
   (refine Con.evPK [(1000011,[11]),(1000032,[32]),(1000039,[39])] 43 [500000] rfl T_ok mix Tryd.func38 rfl rfl rfl rfl [.tmp 2] rfl ?_
    conv=>whnf
    (iterate 3 ((first|apply rq_s rfl|refine handp_s 35 [some 3,none] ?_);conv=>whnf));(focus (apply callpe_s (f:=35);(· repeat' (first|(refine sub_all ?_;simp[List.length_map];done)|exact sub_map _ _ _ _|apply cons_eq|apply obj_eq|apply agg_eq|apply own_eq|apply ro_eq|apply rp_eq|apply fnc_eq|rfl));refine callp_s (f:=35) rfl (k0 ..) ?_;conv=>whnf));(refine fac_s (fun hf=> ?_);conv=>whnf)
    first
     |(iterate 3 ((first|apply rq_s rfl|apply br_t rfl);conv=>whnf)
       (refine rows_s (by((refine sub_all ?_;simp[List.length_map];done))) ?_;conv=>whnf);(iterate 3 ((first|apply rq_s rfl|refine handp_s 36 [some 3,none] ?_);conv=>whnf));(focus (apply callpe_s (f:=36);(· repeat' (first|(refine sub_all ?_;simp[List.length_map];done)|exact sub_map _ _ _ _|apply cons_eq|apply obj_eq|apply agg_eq|apply own_eq|apply ro_eq|apply rp_eq|apply fnc_eq|rfl));refine callp_s (f:=36) rfl (k1 ..) ?_;conv=>whnf));(iterate 2 (apply rq_s (by(((first|(simp[maxStr];done)|(simp[maxStr];omega)))));conv=>whnf));(iterate 4 ((first|apply rq_s rfl|refine fac_s (fun hf=> ?_)|refine handp_s 52 [some 3,none] ?_);conv=>whnf));(focus (apply callpe_s (f:=52);(· repeat' (first|(refine sub_all ?_;simp[List.length_map];done)|exact sub_map _ _ _ _|apply cons_eq|apply obj_eq|apply agg_eq|apply own_eq|apply ro_eq|apply rp_eq|apply fnc_eq|rfl));refine callp_s (f:=52) rfl (k2 ..) ?_;conv=>whnf));(iterate 5 ((first|apply rq_s rfl|refine fac_s (fun hf=> ?_)|refine br_t (by assumption) ?_|refine handp_s 52 [some 3,none] ?_);conv=>whnf));(focus (apply callpe_s (f:=52);(· repeat' (first|(refine sub_all ?_;simp[List.length_map];done)|exact sub_map _ _ _ _|apply cons_eq|apply obj_eq|apply agg_eq|apply own_eq|apply ro_eq|apply rp_eq|apply fnc_eq|rfl));refine callp_s (f:=52) rfl (k3 ..) ?_;conv=>whnf));(refine fac_s (fun hf=> ?_);conv=>whnf);iterate 2 (apply rq_s (by(((first|(simp[maxStr];done)|(simp[maxStr];omega)))));conv=>whnf)
       iterate 5 (first|(apply rq_s rfl;(conv=>whnf))|(apply rows_s rfl;(conv=>whnf))|(refine aftp_s (by rfl) ?_;(conv=>whnf))|(exact True.intro)))
     |(iterate 3 ((first|apply rq_s rfl|apply br_t rfl|apply br_f rfl);conv=>whnf)
       (refine rows_s (by((refine sub_all ?_;simp[List.length_map];done))) ?_;conv=>whnf);(iterate 3 ((first|apply rq_s rfl|refine handp_s 36 [some 3,none] ?_);conv=>whnf));(focus (apply callpe_s (f:=36);(· repeat' (first|(refine sub_all ?_;simp[List.length_map];done)|exact sub_map _ _ _ _|apply cons_eq|apply obj_eq|apply agg_eq|apply own_eq|apply ro_eq|apply rp_eq|apply fnc_eq|rfl));refine callp_s (f:=36) rfl (k1 ..) ?_;conv=>whnf));(iterate 2 (apply rq_s (by(((first|(simp[maxStr];done)|(simp[maxStr];omega)))));conv=>whnf));(iterate 4 ((first|apply rq_s rfl|refine fac_s (fun hf=> ?_)|refine handp_s 52 [some 3,none] ?_);conv=>whnf));(focus (apply callpe_s (f:=52);(· repeat' (first|(refine sub_all ?_;simp[List.length_map];done)|exact sub_map _ _ _ _|apply cons_eq|apply obj_eq|apply agg_eq|apply own_eq|apply ro_eq|apply rp_eq|apply fnc_eq|rfl));refine callp_s (f:=52) rfl (k2 ..) ?_;conv=>whnf));(iterate 5 ((first|apply rq_s rfl|refine fac_s (fun hf=> ?_)|refine br_t (by assumption) ?_|refine handp_s 52 [some 3,none] ?_);conv=>whnf));(focus (apply callpe_s (f:=52);(· repeat' (first|(refine sub_all ?_;simp[List.length_map];done)|exact sub_map _ _ _ _|apply cons_eq|apply obj_eq|apply agg_eq|apply own_eq|apply ro_eq|apply rp_eq|apply fnc_eq|rfl));refine callp_s (f:=52) rfl (k3 ..) ?_;conv=>whnf));(refine fac_s (fun hf=> ?_);conv=>whnf);iterate 2 (apply rq_s (by(((first|(simp[maxStr];done)|(simp[maxStr];omega)))));conv=>whnf)
       iterate 5 (first|(apply rq_s rfl;(conv=>whnf))|(apply rows_s rfl;(conv=>whnf))|(refine aftp_s (by rfl) ?_;(conv=>whnf))|(exact True.intro))))
  ·have g:decide (IntKind.i64.wrap (((([58,32]++x++[32]).length:Nat):Int)+((b.length:Nat):Int))≥400)=false:=by rw[wrap64 (by omega) (by simp;omega)];exact decide_eq_false hbig
   have lbx:([58,32]++x++[32]++b++[59]).length≤400:=by simp at hbig⊢;omega
   refine⟨[58,32]++x++[32]++b++[59],a2,m2,?_,lbx,sle h2 (by omega)⟩
   unfold FlC
   rcases h01 with rfl|rfl<;>
   (refine Con.evPK [(1000011,[11]),(1000032,[32]),(1000039,[39])] 43 [500000] rfl T_ok mix Tryd.func38 rfl rfl rfl rfl [.tmp 2] rfl ?_
    conv=>whnf
    (iterate 3 ((first|apply rq_s rfl|refine handp_s 35 [some 3,none] ?_);conv=>whnf));(focus (apply callpe_s (f:=35);(· repeat' (first|(refine sub_all ?_;simp[List.length_map];done)|exact sub_map _ _ _ _|apply cons_eq|apply obj_eq|apply agg_eq|apply own_eq|apply ro_eq|apply rp_eq|apply fnc_eq|rfl));refine callp_s (f:=35) rfl (k0 ..) ?_;conv=>whnf));(refine fac_s (fun hf=> ?_);conv=>whnf)
    first
     |(iterate 3 ((first|apply rq_s rfl|apply br_t rfl);conv=>whnf)
       (refine rows_s (by((refine sub_all ?_;simp[List.length_map];done))) ?_;conv=>whnf);(iterate 3 ((first|apply rq_s rfl|refine handp_s 36 [some 3,none] ?_);conv=>whnf));(focus (apply callpe_s (f:=36);(· repeat' (first|(refine sub_all ?_;simp[List.length_map];done)|exact sub_map _ _ _ _|apply cons_eq|apply obj_eq|apply agg_eq|apply own_eq|apply ro_eq|apply rp_eq|apply fnc_eq|rfl));refine callp_s (f:=36) rfl (k1 ..) ?_;conv=>whnf));(iterate 2 (apply rq_s (by(((first|(simp[maxStr];done)|(simp[maxStr];omega)))));conv=>whnf));(iterate 4 ((first|apply rq_s rfl|refine fac_s (fun hf=> ?_)|refine handp_s 52 [some 3,none] ?_);conv=>whnf));(focus (apply callpe_s (f:=52);(· repeat' (first|(refine sub_all ?_;simp[List.length_map];done)|exact sub_map _ _ _ _|apply cons_eq|apply obj_eq|apply agg_eq|apply own_eq|apply ro_eq|apply rp_eq|apply fnc_eq|rfl));refine callp_s (f:=52) rfl (k2 ..) ?_;conv=>whnf));(iterate 2 ((first|refine fac_s (fun hf=> ?_)|refine br_f (by assumption) ?_);conv=>whnf));iterate 2 (apply rq_s (by(((first|(simp[maxStr];done)|(simp[maxStr];omega)))));conv=>whnf)
       iterate 5 (first|(apply rq_s rfl;(conv=>whnf))|(apply rows_s rfl;(conv=>whnf))|(refine aftp_s (by rfl) ?_;(conv=>whnf))|(exact True.intro)))
     |(iterate 3 ((first|apply rq_s rfl|apply br_t rfl|apply br_f rfl);conv=>whnf)
       (refine rows_s (by((refine sub_all ?_;simp[List.length_map];done))) ?_;conv=>whnf);(iterate 3 ((first|apply rq_s rfl|refine handp_s 36 [some 3,none] ?_);conv=>whnf));(focus (apply callpe_s (f:=36);(· repeat' (first|(refine sub_all ?_;simp[List.length_map];done)|exact sub_map _ _ _ _|apply cons_eq|apply obj_eq|apply agg_eq|apply own_eq|apply ro_eq|apply rp_eq|apply fnc_eq|rfl));refine callp_s (f:=36) rfl (k1 ..) ?_;conv=>whnf));(iterate 2 (apply rq_s (by(((first|(simp[maxStr];done)|(simp[maxStr];omega)))));conv=>whnf));(iterate 4 ((first|apply rq_s rfl|refine fac_s (fun hf=> ?_)|refine handp_s 52 [some 3,none] ?_);conv=>whnf));(focus (apply callpe_s (f:=52);(· repeat' (first|(refine sub_all ?_;simp[List.length_map];done)|exact sub_map _ _ _ _|apply cons_eq|apply obj_eq|apply agg_eq|apply own_eq|apply ro_eq|apply rp_eq|apply fnc_eq|rfl));refine callp_s (f:=52) rfl (k2 ..) ?_;conv=>whnf));(iterate 2 ((first|refine fac_s (fun hf=> ?_)|refine br_f (by assumption) ?_);conv=>whnf));iterate 2 (apply rq_s (by(((first|(simp[maxStr];done)|(simp[maxStr];omega)))));conv=>whnf)
       iterate 5 (first|(apply rq_s rfl;(conv=>whnf))|(apply rows_s rfl;(conv=>whnf))|(refine aftp_s (by rfl) ?_;(conv=>whnf))|(exact True.intro))))
 by_cases h2v:v=2
 ·subst h2v
  obtain⟨x,a1,m1,k1,hx,h1⟩:=pk d varW (by decide) h0 (by omega)
  have lx:=var_len x hx
  unfold PkC varW roS at k1
  simp only[List.map_cons,List.map_nil]at k1
  refine⟨[118,97,114,105,97,98,108,101,32]++x++[32,53,32,118,32,33],a1,m1,?_,by simp;omega,sle h1 (by omega)⟩
  unfold FlC
  refine Con.evPK [(1000011,[11]),(1000032,[32]),(1000039,[39])] 43 [500000] rfl T_ok mix Tryd.func38 rfl rfl rfl rfl [.tmp 2] rfl ?_
  conv=>whnf
  (iterate 3 ((first|apply rq_s rfl|refine handp_s 35 [some 3,none] ?_);conv=>whnf));(focus (apply callpe_s (f:=35);(· repeat' (first|(refine sub_all ?_;simp[List.length_map];done)|exact sub_map _ _ _ _|apply cons_eq|apply obj_eq|apply agg_eq|apply own_eq|apply ro_eq|apply rp_eq|apply fnc_eq|rfl));refine callp_s (f:=35) rfl (k0 ..) ?_;conv=>whnf));(iterate 5 ((first|apply rq_s rfl|refine fac_s (fun hf=> ?_)|apply br_t rfl|apply br_f rfl);conv=>whnf));(refine rows_s (by((refine sub_all ?_;simp[List.length_map];done))) ?_;conv=>whnf);(iterate 3 ((first|apply rq_s rfl|refine handp_s 36 [some 3,none] ?_);conv=>whnf));(focus (apply callpe_s (f:=36);(· repeat' (first|(refine sub_all ?_;simp[List.length_map];done)|exact sub_map _ _ _ _|apply cons_eq|apply obj_eq|apply agg_eq|apply own_eq|apply ro_eq|apply rp_eq|apply fnc_eq|rfl));refine callp_s (f:=36) rfl (k1 ..) ?_;conv=>whnf));(iterate 2 (apply rq_s (by(((first|(simp[maxStr];done)|(simp[maxStr];omega)))));conv=>whnf));iterate 6 (first|(apply rq_s rfl;(conv=>whnf))|(apply rows_s rfl;(conv=>whnf))|(refine fac_s (fun hf=> ?_);(conv=>whnf))|(refine aftp_s (by rfl) ?_;(conv=>whnf))|(exact True.intro))
 by_cases h3v:v=3
 ·subst h3v
  obtain⟨x,a1,m1,k1,hx,h1⟩:=pk d oddW (by decide) h0 (by omega)
  have lx:=odd_len x hx
  unfold PkC oddW roS at k1
  simp only[List.map_cons,List.map_nil]at k1
  refine⟨x,a1,m1,?_,by omega,sle h1 (by omega)⟩
  unfold FlC
  refine Con.evPK [(1000011,[11]),(1000032,[32]),(1000039,[39])] 43 [500000] rfl T_ok mix Tryd.func38 rfl rfl rfl rfl [.tmp 2] rfl ?_
  conv=>whnf
  (iterate 3 ((first|apply rq_s rfl|refine handp_s 35 [some 3,none] ?_);conv=>whnf));(focus (apply callpe_s (f:=35);(· repeat' (first|(refine sub_all ?_;simp[List.length_map];done)|exact sub_map _ _ _ _|apply cons_eq|apply obj_eq|apply agg_eq|apply own_eq|apply ro_eq|apply rp_eq|apply fnc_eq|rfl));refine callp_s (f:=35) rfl (k0 ..) ?_;conv=>whnf));(iterate 6 ((first|apply rq_s rfl|refine fac_s (fun hf=> ?_)|apply br_t rfl|apply br_f rfl);conv=>whnf));(refine rows_s (by((refine sub_all ?_;simp[List.length_map];done))) ?_;conv=>whnf);(iterate 3 ((first|apply rq_s rfl|refine handp_s 36 [some 3,none] ?_);conv=>whnf));(focus (apply callpe_s (f:=36);(· repeat' (first|(refine sub_all ?_;simp[List.length_map];done)|exact sub_map _ _ _ _|apply cons_eq|apply obj_eq|apply agg_eq|apply own_eq|apply ro_eq|apply rp_eq|apply fnc_eq|rfl));refine callp_s (f:=36) rfl (k1 ..) ?_;conv=>whnf));iterate 6 (first|(apply rq_s rfl;(conv=>whnf))|(apply rows_s rfl;(conv=>whnf))|(refine fac_s (fun hf=> ?_);(conv=>whnf))|(refine aftp_s (by rfl) ?_;(conv=>whnf))|(exact True.intro))
 ·obtain⟨b,a2,m2,k2,lb,h2⟩:=in0 d a0 m0 _ h0 (by omega)
  unfold InC at k2
  refine⟨b,a2,m2,?_,by omega,sle h2 (by omega)⟩
  unfold FlC
  have g0:(v==0)=false:=beq_eq_false_iff_ne.2 (by omega)
  have g1:(v==1)=false:=beq_eq_false_iff_ne.2 (by omega)
  have g2:(v==2)=false:=beq_eq_false_iff_ne.2 h2v
  have g3:(v==3)=false:=beq_eq_false_iff_ne.2 h3v
  refine Con.evPK [(1000011,[11]),(1000032,[32]),(1000039,[39])] 43 [500000] rfl T_ok mix Tryd.func38 rfl rfl rfl rfl [.tmp 2] rfl ?_
  conv=>whnf
  (iterate 3 ((first|apply rq_s rfl|refine handp_s 35 [some 3,none] ?_);conv=>whnf));(focus (apply callpe_s (f:=35);(· repeat' (first|(refine sub_all ?_;simp[List.length_map];done)|exact sub_map _ _ _ _|apply cons_eq|apply obj_eq|apply agg_eq|apply own_eq|apply ro_eq|apply rp_eq|apply fnc_eq|rfl));refine callp_s (f:=35) rfl (k0 ..) ?_;conv=>whnf));(iterate 8 ((first|apply rq_s rfl|refine fac_s (fun hf=> ?_)|refine br_f (by assumption) ?_|refine handp_s 52 [some 3,none] ?_);conv=>whnf));(focus (apply callpe_s (f:=52);(· repeat' (first|(refine sub_all ?_;simp[List.length_map];done)|exact sub_map _ _ _ _|apply cons_eq|apply obj_eq|apply agg_eq|apply own_eq|apply ro_eq|apply rp_eq|apply fnc_eq|rfl));refine callp_s (f:=52) rfl (k2 ..) ?_;conv=>whnf));iterate 6 (first|(apply rq_s rfl;(conv=>whnf))|(apply rows_s rfl;(conv=>whnf))|(refine fac_s (fun hf=> ?_);(conv=>whnf))|(refine aftp_s (by rfl) ?_;(conv=>whnf))|(exact True.intro))
end W5

/- The reference's source of data, 6: actions and their lines. -/
open Go Go.Abs Go.Proofs V1 U2 U3 W1 W2 W3 W4 W5
namespace W6
def AcC(d:List UInt8)(a m a' m':Int)(x:Doing):Prop:=Con Tryd.prog 17 [srcO d a m] [srcO d a' m'] (actV x)
theorem act_ex(d:List UInt8){a m L:Int}(h:SrcOk a m L)(hl:L≤3000000000): ∃x a' m',AcC d a m a' m' x∧actOK x=true∧SrcOk a' m' (L+4000):=by
 obtain⟨v,a0,m0,k0,v0,v1,h0⟩:=nx d 11 h (by omega)
 unfold NxC at k0
 have hv:v=0∨v=1∨v=2∨v=3∨v=4∨v=5∨v=6∨v=7∨v=8∨v=9∨v=10:=by omega
 by_cases h01:v=0∨v=1
 ·obtain⟨n,a1,m1,k1,n0,n1,h1⟩:=nx d 4 h0 (by omega)
  unfold NxC at k1
  rcases h01 with rfl|rfl
  ·refine⟨⟨1,n,[]⟩,a1,m1,?_,by simp[actOK,inR];omega,sle h1 (by omega)⟩
   unfold AcC
   refine Con.evP 39 [500000] rfl T_ok mix Tryd.func17 rfl rfl rfl rfl [.cell 2 23] rfl ?_
   conv=>whnf
   (iterate 4 ((first|apply rq_s rfl|refine handp_s 35 [some 3,none] ?_);conv=>whnf));(focus (apply callpe_s (f:=35);(· repeat' (first|(refine sub_all ?_;simp[List.length_map];done)|exact sub_map _ _ _ _|apply cons_eq|apply obj_eq|apply agg_eq|apply own_eq|apply ro_eq|apply rp_eq|apply fnc_eq|rfl));refine callp_s (f:=35) rfl (k0 ..) ?_;conv=>whnf));(iterate 12 ((first|refine rq_s (by solve|simp only[lnm]|fail) ?_|apply rq_s rfl|refine row_s (by(rfl)) ?_|refine fac_s (fun hf=> ?_)|apply br_t rfl|refine handp_s 35 [some 3,none] ?_);conv=>whnf));(focus (apply callpe_s (f:=35);(· repeat' (first|(refine sub_all ?_;simp[List.length_map];done)|exact sub_map _ _ _ _|apply cons_eq|apply obj_eq|apply agg_eq|apply own_eq|apply ro_eq|apply rp_eq|apply fnc_eq|rfl));refine callp_s (f:=35) rfl (k1 ..) ?_;conv=>whnf));iterate 10 (first|(apply rq_s rfl;(conv=>whnf))|(apply rows_s rfl;(conv=>whnf))|(refine fac_s (fun hf=> ?_);(conv=>whnf))|(refine aftp_s (by rfl) ?_;(conv=>whnf))|(exact True.intro))
  ·refine⟨⟨2,n,[]⟩,a1,m1,?_,by simp[actOK,inR];omega,sle h1 (by omega)⟩
   unfold AcC
   refine Con.evP 39 [500000] rfl T_ok mix Tryd.func17 rfl rfl rfl rfl [.cell 2 23] rfl ?_
   conv=>whnf
   (iterate 4 ((first|apply rq_s rfl|refine handp_s 35 [some 3,none] ?_);conv=>whnf));(focus (apply callpe_s (f:=35);(· repeat' (first|(refine sub_all ?_;simp[List.length_map];done)|exact sub_map _ _ _ _|apply cons_eq|apply obj_eq|apply agg_eq|apply own_eq|apply ro_eq|apply rp_eq|apply fnc_eq|rfl));refine callp_s (f:=35) rfl (k0 ..) ?_;conv=>whnf));(iterate 12 ((first|refine rq_s (by solve|simp only[lnm]|fail) ?_|apply rq_s rfl|refine row_s (by(rfl)) ?_|refine fac_s (fun hf=> ?_)|apply br_t rfl|apply br_f rfl|refine handp_s 35 [some 3,none] ?_);conv=>whnf));(focus (apply callpe_s (f:=35);(· repeat' (first|(refine sub_all ?_;simp[List.length_map];done)|exact sub_map _ _ _ _|apply cons_eq|apply obj_eq|apply agg_eq|apply own_eq|apply ro_eq|apply rp_eq|apply fnc_eq|rfl));refine callp_s (f:=35) rfl (k1 ..) ?_;conv=>whnf));iterate 10 (first|(apply rq_s rfl;(conv=>whnf))|(apply rows_s rfl;(conv=>whnf))|(refine fac_s (fun hf=> ?_);(conv=>whnf))|(refine aftp_s (by rfl) ?_;(conv=>whnf))|(exact True.intro))
 by_cases h2v:v=2
 ·subst h2v
  obtain⟨n,a1,m1,k1,n0,n1,h1⟩:=nx d 300 h0 (by omega)
  unfold NxC at k1
  have e1:IntKind.i64.wrap (1+n)=1+n:=wrap64 (by omega) (by omega)
  refine⟨⟨3,1+n,[]⟩,a1,m1,?_,by simp[actOK,inR];omega,sle h1 (by omega)⟩
  unfold AcC
  refine Con.evP 39 [500000] rfl T_ok mix Tryd.func17 rfl rfl rfl rfl [.cell 2 23] rfl ?_
  conv=>whnf
  (iterate 4 ((first|apply rq_s rfl|refine handp_s 35 [some 3,none] ?_);conv=>whnf));(focus (apply callpe_s (f:=35);(· repeat' (first|(refine sub_all ?_;simp[List.length_map];done)|exact sub_map _ _ _ _|apply cons_eq|apply obj_eq|apply agg_eq|apply own_eq|apply ro_eq|apply rp_eq|apply fnc_eq|rfl));refine callp_s (f:=35) rfl (k0 ..) ?_;conv=>whnf));(iterate 13 ((first|refine rq_s (by solve|simp only[lnm]|fail) ?_|apply rq_s rfl|refine row_s (by(rfl)) ?_|refine fac_s (fun hf=> ?_)|apply br_t rfl|apply br_f rfl|refine handp_s 35 [some 3,none] ?_);conv=>whnf));(focus (apply callpe_s (f:=35);(· repeat' (first|(refine sub_all ?_;simp[List.length_map];done)|exact sub_map _ _ _ _|apply cons_eq|apply obj_eq|apply agg_eq|apply own_eq|apply ro_eq|apply rp_eq|apply fnc_eq|rfl));refine callp_s (f:=35) rfl (k1 ..) ?_;conv=>whnf));iterate 10 (first|(apply rq_s rfl;(conv=>whnf))|(apply rows_s rfl;(conv=>whnf))|(refine fac_s (fun hf=> ?_);(conv=>whnf))|(refine aftp_s (by rfl) ?_;(conv=>whnf))|(refine aftp_s (by((rw[e1];rfl))) ?_;(conv=>whnf))|(exact True.intro))
 by_cases h3v:v=3
 ·subst h3v
  obtain⟨n,a1,m1,k1,hc,h1⟩:=ce d h0 (by omega)
  refine⟨⟨4,n,[]⟩,a1,m1,?_,by simp[actOK,hc],sle h1 (by omega)⟩
  unfold AcC
  refine Con.evP 39 [500000] rfl T_ok mix Tryd.func17 rfl rfl rfl rfl [.cell 2 23] rfl ?_
  conv=>whnf
  (iterate 4 ((first|apply rq_s rfl|refine handp_s 35 [some 3,none] ?_);conv=>whnf));(focus (apply callpe_s (f:=35);(· repeat' (first|(refine sub_all ?_;simp[List.length_map];done)|exact sub_map _ _ _ _|apply cons_eq|apply obj_eq|apply agg_eq|apply own_eq|apply ro_eq|apply rp_eq|apply fnc_eq|rfl));refine callp_s (f:=35) rfl (k0 ..) ?_;conv=>whnf));(iterate 13 ((first|refine rq_s (by solve|simp only[lnm]|fail) ?_|apply rq_s rfl|refine row_s (by(rfl)) ?_|refine fac_s (fun hf=> ?_)|apply br_t rfl|apply br_f rfl|refine handp_s 37 [some 3] ?_);conv=>whnf));(focus (apply callpe_s (f:=37);(· repeat' (first|(refine sub_all ?_;simp[List.length_map];done)|exact sub_map _ _ _ _|apply cons_eq|apply obj_eq|apply agg_eq|apply own_eq|apply ro_eq|apply rp_eq|apply fnc_eq|rfl));refine callp_s (f:=37) rfl (k1 ..) ?_;conv=>whnf));iterate 10 (first|(apply rq_s rfl;(conv=>whnf))|(apply rows_s rfl;(conv=>whnf))|(refine fac_s (fun hf=> ?_);(conv=>whnf))|(refine aftp_s (by rfl) ?_;(conv=>whnf))|(exact True.intro))
 by_cases h4v:v=4
 ·subst h4v
  obtain⟨n,a1,m1,k1,n0,n1,h1⟩:=nx d 50 h0 (by omega)
  unfold NxC at k1
  have e1:IntKind.i64.wrap (1+n)=1+n:=wrap64 (by omega) (by omega)
  refine⟨⟨5,1+n,[]⟩,a1,m1,?_,by simp[actOK,inR];omega,sle h1 (by omega)⟩
  unfold AcC
  refine Con.evP 39 [500000] rfl T_ok mix Tryd.func17 rfl rfl rfl rfl [.cell 2 23] rfl ?_
  conv=>whnf
  (iterate 4 ((first|apply rq_s rfl|refine handp_s 35 [some 3,none] ?_);conv=>whnf));(focus (apply callpe_s (f:=35);(· repeat' (first|(refine sub_all ?_;simp[List.length_map];done)|exact sub_map _ _ _ _|apply cons_eq|apply obj_eq|apply agg_eq|apply own_eq|apply ro_eq|apply rp_eq|apply fnc_eq|rfl));refine callp_s (f:=35) rfl (k0 ..) ?_;conv=>whnf));(iterate 15 ((first|refine rq_s (by solve|simp only[lnm]|fail) ?_|apply rq_s rfl|refine row_s (by(rfl)) ?_|refine fac_s (fun hf=> ?_)|apply br_t rfl|apply br_f rfl|refine handp_s 35 [some 3,none] ?_);conv=>whnf));(focus (apply callpe_s (f:=35);(· repeat' (first|(refine sub_all ?_;simp[List.length_map];done)|exact sub_map _ _ _ _|apply cons_eq|apply obj_eq|apply agg_eq|apply own_eq|apply ro_eq|apply rp_eq|apply fnc_eq|rfl));refine callp_s (f:=35) rfl (k1 ..) ?_;conv=>whnf));iterate 10 (first|(apply rq_s rfl;(conv=>whnf))|(apply rows_s rfl;(conv=>whnf))|(refine fac_s (fun hf=> ?_);(conv=>whnf))|(refine aftp_s (by rfl) ?_;(conv=>whnf))|(refine aftp_s (by((rw[e1];rfl))) ?_;(conv=>whnf))|(exact True.intro))
 ·obtain⟨t,a1,m1,k1,lt,h1⟩:=fl d h0 (by omega)
  unfold FlC at k1
  have hv':v=5∨v=6∨v=7∨v=8∨v=9∨v=10:=by omega
  refine⟨⟨6,0,t⟩,a1,m1,?_,by simp[actOK];omega,sle h1 (by omega)⟩
  unfold AcC
  rcases hv' with rfl|rfl|rfl|rfl|rfl|rfl<;>
  (refine Con.evP 39 [500000] rfl T_ok mix Tryd.func17 rfl rfl rfl rfl [.cell 2 23] rfl ?_
   conv=>whnf
   (iterate 4 ((first|apply rq_s rfl|refine handp_s 35 [some 3,none] ?_);conv=>whnf));(focus (apply callpe_s (f:=35);(· repeat' (first|(refine sub_all ?_;simp[List.length_map];done)|exact sub_map _ _ _ _|apply cons_eq|apply obj_eq|apply agg_eq|apply own_eq|apply ro_eq|apply rp_eq|apply fnc_eq|rfl));refine callp_s (f:=35) rfl (k0 ..) ?_;conv=>whnf));(iterate 14 ((first|refine rq_s (by solve|simp only[lnm]|fail) ?_|apply rq_s rfl|refine row_s (by(rfl)) ?_|refine fac_s (fun hf=> ?_)|apply br_f rfl|refine handp_s 38 [some 3] ?_);conv=>whnf));(focus (apply callpe_s (f:=38);(· repeat' (first|(refine sub_all ?_;simp[List.length_map];done)|exact sub_map _ _ _ _|apply cons_eq|apply obj_eq|apply agg_eq|apply own_eq|apply ro_eq|apply rp_eq|apply fnc_eq|rfl));refine callp_s (f:=38) rfl (k1 ..) ?_;conv=>whnf))
   iterate 10 (first|(apply rq_s rfl;(conv=>whnf))|(apply rows_s rfl;(conv=>whnf))|(refine fac_s (fun hf=> ?_);(conv=>whnf))|(refine aftp_s (by rfl) ?_;(conv=>whnf))|(exact True.intro)))
def lineW:List (List UInt8):=[[],[101,118,97,108],[101,118,97,108,32],[103,114,97,110,116],[103,114,97,110,116,32,97,108,108],[114,101,102,117,101,108,32,48],[114,101,102,117,101,108,32,52,48,48,49],[116,105,99,107,32,48,49],[97,110,115,119,101,114,32,50,49,52,55,52,56,51,54,52,56],[103,111,32,49],[114,101,118,111,107,101,32,114,101,97,100,32,110,111,119]]
theorem line_len: ∀x∈lineW,x.length≤40:=by decide
def AlC(d:List UInt8)(a m a' m':Int)(t:List UInt8):Prop:=Con Tryd.prog 16 [srcO d a m] [srcO d a' m'] (.str t)
theorem actT_len{x:Doing}(h:actOK x=true):(actT x).length≤450:=by
 rcases act_cases h with⟨k,n,hk,hn,rfl⟩|⟨k,n,hk,hn,rfl⟩|⟨l,hl,rfl⟩
 ·rcases hk with rfl|rfl<;>rcases hn with rfl|rfl|rfl|rfl<;>decide
 ·have hil:=itoa_len (n:=n) (by omega) (by omega)
  rcases hk with rfl|rfl|rfl<;>simp[actT,actW]<;>omega
 ·simp[actT];omega
theorem al(d:List UInt8){a m L:Int}(h:SrcOk a m L)(hl:L≤2000000000): ∃t a' m',AlC d a m a' m' t∧t.length≤1000:=by
 obtain⟨x,a0,m0,k0,hx,h0⟩:=act_ex d h (by omega)
 have lx:=actT_len hx
 have kt:=c22 x hx
 unfold AcC at k0
 unfold actV actR at k0 kt
 obtain⟨v,a1,m1,k1,v0,v1,h1⟩:=nx d 10 h0 (by omega)
 unfold NxC at k1
 by_cases h0v:v=0
 ·subst h0v
  refine⟨[32,32]++actT x++[32],a1,m1,?_,by simp;omega⟩
  unfold AlC
  refine Con.evPK [(1000021,[21])] 24 [500000] rfl T_ok mix Tryd.func16 rfl rfl rfl rfl [.tmp 2] rfl ?_
  conv=>whnf
  (refine handp_s 17 [some 3] ?_;conv=>whnf);(apply rq_s rfl;conv=>whnf);(focus (apply callpe_s (f:=17);(· repeat' (first|(refine sub_all ?_;simp[List.length_map];done)|exact sub_map _ _ _ _|apply cons_eq|apply obj_eq|apply agg_eq|apply own_eq|apply ro_eq|apply rp_eq|apply fnc_eq|rfl));refine callp_s (f:=17) rfl (k0 ..) ?_;conv=>whnf));(iterate 12 ((first|apply rq_s rfl|refine fac_s (fun hf=> ?_)|refine handp_s 35 [some 3,none] ?_|apply lend_s|refine call_s (kt ..) ?_);conv=>whnf));(focus (apply callpe_s (f:=35);(· repeat' (first|(refine sub_all ?_;simp[List.length_map];done)|exact sub_map _ _ _ _|apply cons_eq|apply obj_eq|apply agg_eq|apply own_eq|apply ro_eq|apply rp_eq|apply fnc_eq|rfl));refine callp_s (f:=35) rfl (k1 ..) ?_;conv=>whnf));(refine fac_s (fun hf=> ?_);conv=>whnf);(apply br_t rfl;conv=>whnf);(iterate 2 (apply rq_s (by(((first|(simp[maxStr];done)|(simp[maxStr];omega)))));conv=>whnf));iterate 5 (first|(apply rq_s rfl;(conv=>whnf))|(apply rows_s rfl;(conv=>whnf))|(refine aftp_s (by rfl) ?_;(conv=>whnf))|(exact True.intro))
 by_cases h1v:v=1
 ·subst h1v
  refine⟨actT x++[32,49],a1,m1,?_,by simp;omega⟩
  unfold AlC
  refine Con.evPK [(1000021,[21])] 24 [500000] rfl T_ok mix Tryd.func16 rfl rfl rfl rfl [.tmp 2] rfl ?_
  conv=>whnf
  (refine handp_s 17 [some 3] ?_;conv=>whnf);(apply rq_s rfl;conv=>whnf);(focus (apply callpe_s (f:=17);(· repeat' (first|(refine sub_all ?_;simp[List.length_map];done)|exact sub_map _ _ _ _|apply cons_eq|apply obj_eq|apply agg_eq|apply own_eq|apply ro_eq|apply rp_eq|apply fnc_eq|rfl));refine callp_s (f:=17) rfl (k0 ..) ?_;conv=>whnf));(iterate 12 ((first|apply rq_s rfl|refine fac_s (fun hf=> ?_)|refine handp_s 35 [some 3,none] ?_|apply lend_s|refine call_s (kt ..) ?_);conv=>whnf));(focus (apply callpe_s (f:=35);(· repeat' (first|(refine sub_all ?_;simp[List.length_map];done)|exact sub_map _ _ _ _|apply cons_eq|apply obj_eq|apply agg_eq|apply own_eq|apply ro_eq|apply rp_eq|apply fnc_eq|rfl));refine callp_s (f:=35) rfl (k1 ..) ?_;conv=>whnf));(iterate 3 ((first|refine fac_s (fun hf=> ?_)|apply br_t rfl|apply br_f rfl);conv=>whnf));(apply rq_s (by(((first|(simp[maxStr];done)|(simp[maxStr];omega)))));conv=>whnf);iterate 5 (first|(apply rq_s rfl;(conv=>whnf))|(apply rows_s rfl;(conv=>whnf))|(refine aftp_s (by rfl) ?_;(conv=>whnf))|(exact True.intro))
 by_cases h2v:v=2
 ·subst h2v
  obtain⟨y,a2,m2,k2,hy,h2⟩:=pk d lineW (by decide) h1 (by omega)
  have ly:=line_len y hy
  unfold PkC lineW roS at k2
  simp only[List.map_cons,List.map_nil]at k2
  refine⟨y,a2,m2,?_,by omega⟩
  unfold AlC
  refine Con.evPK [(1000021,[21])] 24 [500000] rfl T_ok mix Tryd.func16 rfl rfl rfl rfl [.tmp 2] rfl ?_
  conv=>whnf
  (refine handp_s 17 [some 3] ?_;conv=>whnf);(apply rq_s rfl;conv=>whnf);(focus (apply callpe_s (f:=17);(· repeat' (first|(refine sub_all ?_;simp[List.length_map];done)|exact sub_map _ _ _ _|apply cons_eq|apply obj_eq|apply agg_eq|apply own_eq|apply ro_eq|apply rp_eq|apply fnc_eq|rfl));refine callp_s (f:=17) rfl (k0 ..) ?_;conv=>whnf));(iterate 12 ((first|apply rq_s rfl|refine fac_s (fun hf=> ?_)|refine handp_s 35 [some 3,none] ?_|apply lend_s|refine call_s (kt ..) ?_);conv=>whnf));(focus (apply callpe_s (f:=35);(· repeat' (first|(refine sub_all ?_;simp[List.length_map];done)|exact sub_map _ _ _ _|apply cons_eq|apply obj_eq|apply agg_eq|apply own_eq|apply ro_eq|apply rp_eq|apply fnc_eq|rfl));refine callp_s (f:=35) rfl (k1 ..) ?_;conv=>whnf));(iterate 5 ((first|apply rq_s rfl|refine fac_s (fun hf=> ?_)|apply br_t rfl|apply br_f rfl);conv=>whnf));(refine rows_s (by((refine sub_all ?_;simp[List.length_map];done))) ?_;conv=>whnf);(iterate 3 ((first|apply rq_s rfl|refine handp_s 36 [some 3,none] ?_);conv=>whnf));(focus (apply callpe_s (f:=36);(· repeat' (first|(refine sub_all ?_;simp[List.length_map];done)|exact sub_map _ _ _ _|apply cons_eq|apply obj_eq|apply agg_eq|apply own_eq|apply ro_eq|apply rp_eq|apply fnc_eq|rfl));refine callp_s (f:=36) rfl (k2 ..) ?_;conv=>whnf));iterate 6 (first|(apply rq_s rfl;(conv=>whnf))|(apply rows_s rfl;(conv=>whnf))|(refine fac_s (fun hf=> ?_);(conv=>whnf))|(refine aftp_s (by rfl) ?_;(conv=>whnf))|(exact True.intro))
 ·refine⟨actT x,a1,m1,?_,by omega⟩
  unfold AlC
  have g0:(v==0)=false:=beq_eq_false_iff_ne.2 h0v
  have g1:(v==1)=false:=beq_eq_false_iff_ne.2 h1v
  have g2:(v==2)=false:=beq_eq_false_iff_ne.2 h2v
  refine Con.evPK [(1000021,[21])] 24 [500000] rfl T_ok mix Tryd.func16 rfl rfl rfl rfl [.tmp 2] rfl ?_
  conv=>whnf
  (refine handp_s 17 [some 3] ?_;conv=>whnf);(apply rq_s rfl;conv=>whnf);(focus (apply callpe_s (f:=17);(· repeat' (first|(refine sub_all ?_;simp[List.length_map];done)|exact sub_map _ _ _ _|apply cons_eq|apply obj_eq|apply agg_eq|apply own_eq|apply ro_eq|apply rp_eq|apply fnc_eq|rfl));refine callp_s (f:=17) rfl (k0 ..) ?_;conv=>whnf));(iterate 12 ((first|apply rq_s rfl|refine fac_s (fun hf=> ?_)|refine handp_s 35 [some 3,none] ?_|apply lend_s|refine call_s (kt ..) ?_);conv=>whnf));(focus (apply callpe_s (f:=35);(· repeat' (first|(refine sub_all ?_;simp[List.length_map];done)|exact sub_map _ _ _ _|apply cons_eq|apply obj_eq|apply agg_eq|apply own_eq|apply ro_eq|apply rp_eq|apply fnc_eq|rfl));refine callp_s (f:=35) rfl (k1 ..) ?_;conv=>whnf));iterate 9 (first|(apply rq_s rfl;(conv=>whnf))|(apply rows_s rfl;(conv=>whnf))|(refine fac_s (fun hf=> ?_);(conv=>whnf))|(refine br_f (by assumption) ?_;(conv=>whnf))|(refine aftp_s (by rfl) ?_;(conv=>whnf))|(exact True.intro))
theorem src_ok(d:List UInt8):SrcOk 0 ((d.length:Int).tmod 1000) 0:=by
 have h1:0≤(d.length:Int).tmod 1000:=Int.tmod_nonneg _ (by omega)
 have h2:(d.length:Int).tmod 1000<1000:=Int.tmod_lt_of_pos _ (by omega)
 exact⟨by omega,by omega,h1,by omega⟩
theorem actDrawn(d:List UInt8): ∃x,Con Tryd.prog 9 [roU d] (undefs [roU d]) (actV x)∧actOK x=true:=by
 obtain⟨x,a1,m1,k1,hx,_⟩:=act_ex d (src_ok d) (by omega)
 unfold AcC at k1
 refine⟨x,?_,hx⟩
 refine Con.ev 6 T_ok mix Tryd.func9 rfl rfl rfl rfl [.cell 2 23] rfl ?_
 conv=>whnf
 (iterate 6 ((first|apply rq_s rfl|apply rows_s rfl|refine handp_s 17 [some 3] ?_|apply lend_s|refine call_s (c15 ..) ?_);conv=>whnf));(focus (apply callpe_s (f:=17);(· repeat' (first|(refine sub_all ?_;simp[List.length_map];done)|exact sub_map _ _ _ _|apply cons_eq|apply obj_eq|apply agg_eq|apply own_eq|apply ro_eq|apply rp_eq|apply fnc_eq|rfl));refine callp_s (f:=17) rfl (k1 ..) ?_;conv=>whnf));(iterate 7 ((first|apply rq_s rfl|refine fac_s (fun hf=> ?_));conv=>whnf));(refine sh_s ?_;(rfl))
theorem actLine(d:List UInt8): ∃t,Con Tryd.prog 8 [roU d] (undefs [roU d]) (.str t):=by
 obtain⟨t,a1,m1,k1,_⟩:=al d (src_ok d) (by omega)
 unfold AlC at k1
 refine⟨t,?_⟩
 refine Con.ev 6 T_ok mix Tryd.func8 rfl rfl rfl rfl [.tmp 2] rfl ?_
 conv=>whnf
 (iterate 6 ((first|apply rq_s rfl|apply rows_s rfl|refine handp_s 16 [some 3] ?_|apply lend_s|refine call_s (c15 ..) ?_);conv=>whnf));(focus (apply callpe_s (f:=16);(· repeat' (first|(refine sub_all ?_;simp[List.length_map];done)|exact sub_map _ _ _ _|apply cons_eq|apply obj_eq|apply agg_eq|apply own_eq|apply ro_eq|apply rp_eq|apply fnc_eq|rfl));refine callp_s (f:=16) rfl (k1 ..) ?_;conv=>whnf));(refine fac_s (fun hf=> ?_);conv=>whnf);(apply rq_s rfl;conv=>whnf);(refine sh_s ?_;(rfl))
end W6
