import Derived.Test.YthfphedhlnoffaaGreatDoorBC
/- Cells laid on a stack, and prims that move them, by the reference; contracts. -/
set_option linter.unusedVariables false
set_option maxHeartbeats 4000000
set_option linter.unusedSimpArgs false
set_option maxRecDepth 100000
open Go Go.Abs Go.Proofs V1 H1 F1 F2 T1 T2 T3 P1 P2 P3 P4 P5 P6 P7 P8 P9 P10
namespace P11
theorem oy{d:Dat}{t:Nat}{l:List Int}(e:d.st.length-t+l.length>32):bt d t l=(d,-3):=by rw[bt,if_pos e]
theorem gq{d:Dat}{t:Nat}{l:List Int}(e: ¬d.st.length-t+l.length>32):bt d t l=({d with st:=d.st.take (d.st.length-t)++l},0):=by rw[bt,if_neg e]
theorem wO{α:Type}{n:Nat}(hn:n≤1){z:List AV}{f:α→List AV}{xs ys:List α}(e:xs=ys):Sh (.own n z (xs.map f)) (.ro z (ys.map f)):=e▸Sh.own_ro hn _ _
theorem put(d:Dat)(t:Int)(l:List Int)(h:d.st.length≤32)(h0:0≤t)(ht:t≤d.st.length)(hl:l.length≤4):Con Tryz.prog 147 [az d,.int .i64 t,dL l] (aa [az d,.int .i64 t,dL l]) (.tup [az (bt d t.toNat l).1,.int .i64 (bt d t.toNat l).2]):=by
 have w1:IntKind.i64.wrap ((d.st.length:Int)-t)=((d.st.length-t.toNat:Nat):Int):=by rw[ai (by omega) (by omega)];omega
 have w2:IntKind.i64.wrap (((d.st.length-t.toNat:Nat):Int)+l.length)=((d.st.length-t.toNat+l.length:Nat):Int):=by rw[ai (by omega) (by omega)];omega
 refine rn 30 Tryz.func147 [.cell 6 35,.tmp 7] (g:= ?_)
 conv=>whnf
 iterate 14 (first|(apply ac rfl;(conv=>whnf))|(apply af rfl;(conv=>whnf))|(refine cm ?_ ?_<;>intro hb<;>(try simp only[eH]at hb)<;>conv=>whnf))
 rotate_left
 (iterate 7 ((first|apply ac rfl|refine ac (by refine aU rfl ?_;simp only[cB];omega) ?_|refine ac (by simp only[Bool.and_eq_true,decide_eq_true_eq,List.length_map];omega) ?_);conv=>whnf));(apply ac (by((first|(simp[w1,w2,ao,AV.plain,am];done)|(simp[w1,w2,ao,AV.plain,am];omega))));conv=>whnf);(iterate 4 ((first|refine ac (by solve|simp only[bj]|fail) ?_|apply ac rfl|refine cg ?_);conv=>whnf));(apply ac (by((first|(simp[w1,w2,ao,AV.plain,am];done)|(simp[w1,w2,ao,AV.plain,am];omega))));conv=>whnf);iterate 14 ((first|refine ac (by solve|simp only[bj]|fail) ?_|apply ac rfl|apply af rfl|refine cg ?_);conv=>whnf)
 rotate_left
 all_goals rw[w1,w2]at hb
 ·exact⟨by rw[oy (by omega)];exact Sh.refl _⟩
 ·rw[gq (by omega)]
  refine⟨Sh.tup ⟨Sh.agg ⟨?_,Sh.refl _,Sh.refl _,Sh.refl _,Sh.refl _,Sh.refl _,trivial⟩,Sh.refl _,trivial⟩⟩
  refine Sh.trans ?_ (Sh.own_ro (lvl:=1) (by omega) _ _)
  refine mv ?_
  simp[am,w1,List.take_of_length_le]
theorem nn(d:Dat)(t:Int)(h:d.st.length≤32)(h0:0≤t)(ht:t≤d.st.length):Con Tryz.prog 147 [az d,.int .i64 t,AV.emp] (aa [az d,.int .i64 t,AV.emp]) (.tup [az (bt d t.toNat []).1,.int .i64 (bt d t.toNat []).2]):=by
 have w1:IntKind.i64.wrap ((d.st.length:Int)-t)=((d.st.length-t.toNat:Nat):Int):=by rw[ai (by omega) (by omega)];omega
 have w2:IntKind.i64.wrap (((d.st.length-t.toNat:Nat):Int)+((0:Nat):Int))=((d.st.length-t.toNat:Nat):Int):=by rw[ai (by omega) (by omega)];omega
 refine rn 30 Tryz.func147 [.cell 6 35,.tmp 7] (g:= ?_)
 conv=>whnf
 iterate 14 (first|(apply ac rfl;(conv=>whnf))|(apply af rfl;(conv=>whnf))|(refine cm ?_ ?_<;>intro hb<;>(try simp only[eH]at hb)<;>conv=>whnf))
 rotate_left
 (iterate 7 ((first|apply ac rfl|refine ac (by refine aU rfl ?_;simp only[cB];omega) ?_|refine ac (by simp only[Bool.and_eq_true,decide_eq_true_eq,List.length_map];omega) ?_);conv=>whnf));(apply ac (by((first|(simp[w1,w2,ao,AV.plain,am];done)|(simp[w1,w2,ao,AV.plain,am];omega))));conv=>whnf);(iterate 3 ((first|refine ac (by solve|simp only[bj]|fail) ?_|apply ac rfl|refine cg ?_);conv=>whnf));(apply ac (by((first|(simp[w1,w2,ao,AV.plain,am];done)|(simp[w1,w2,ao,AV.plain,am];omega))));conv=>whnf);iterate 14 ((first|refine ac (by solve|simp only[bj]|fail) ?_|apply ac rfl|apply af rfl|refine cg ?_);conv=>whnf)
 rotate_left
 all_goals rw[w1,w2]at hb
 ·exact⟨by rw[oy (by simp;omega)];exact Sh.refl _⟩
 ·rw[gq (by simp;omega)]
  refine⟨Sh.tup ⟨Sh.agg ⟨?_,Sh.refl _,Sh.refl _,Sh.refl _,Sh.refl _,Sh.refl _,trivial⟩,Sh.refl _,trivial⟩⟩
  refine Sh.trans ?_ (Sh.own_ro (lvl:=1) (by omega) _ _)
  refine mv ?_
  simp[am,w1,List.take_of_length_le]
def tV(x:Dat × Int):AV:=.tup [az x.1,.int .i64 x.2]
def cn(d:Dat)(x:Dat × Int):Dat × Int:=if x.2=0 then x else(d,x.2)
theorem CN(d:Dat)(t:Nat)(l:List Int)(h:d.st.length≤32)(ht:t≤d.st.length):bt d t l=cn d (eK d (d.st.take (d.st.length-t)) l):=by
 have e:(d.st.take (d.st.length-t)).length=d.st.length-t:=by simp
 unfold bt eK cn
 rw[e]
 by_cases h1:32<d.st.length-t+l.length
 ·rw[if_pos h1,if_pos h1];rfl
 ·rw[if_neg h1,if_neg h1];rfl
theorem Ln(d:Dat)(a b c:Int)(h:d.st.length≤32)(ht:1≤d.st.length):Con Tryz.prog 136 [az d,.int .i64 1,.int .i64 a,.int .i64 b,.int .i64 c] (aa [az d,.int .i64 1,.int .i64 a,.int .i64 b,.int .i64 c]) (tV (bt d 1 [c,c])):=by
 have k1:=put d 1 [c,c] h (by omega) (by omega) (by simp)
 exact rn 112 Tryz.func136 [.cell 10 35,.tmp 11] (g:=go)
theorem LI(d:Dat)(a b c:Int)(h:d.st.length≤32)(ht:1≤d.st.length):Con Tryz.prog 136 [az d,.int .i64 2,.int .i64 a,.int .i64 b,.int .i64 c] (aa [az d,.int .i64 2,.int .i64 a,.int .i64 b,.int .i64 c]) (tV (bt d 1 [])):=by
 have k1:=nn d 1 h (by omega) (by omega)
 exact rn 112 Tryz.func136 [.cell 10 35,.tmp 11] (g:=go)
theorem Lu(d:Dat)(a b c:Int)(h:d.st.length≤32)(ht:2≤d.st.length):Con Tryz.prog 136 [az d,.int .i64 3,.int .i64 a,.int .i64 b,.int .i64 c] (aa [az d,.int .i64 3,.int .i64 a,.int .i64 b,.int .i64 c]) (tV (bt d 2 [c,b])):=by
 have k1:=put d 2 [c,b] h (by omega) (by omega) (by simp)
 exact rn 112 Tryz.func136 [.cell 10 35,.tmp 11] (g:=go)
theorem Lq(d:Dat)(a b c:Int)(h:d.st.length≤32)(ht:2≤d.st.length):Con Tryz.prog 136 [az d,.int .i64 4,.int .i64 a,.int .i64 b,.int .i64 c] (aa [az d,.int .i64 4,.int .i64 a,.int .i64 b,.int .i64 c]) (tV (bt d 2 [b,c,b])):=by
 have k1:=put d 2 [b,c,b] h (by omega) (by omega) (by simp)
 exact rn 112 Tryz.func136 [.cell 10 35,.tmp 11] (g:=go)
theorem Ly(d:Dat)(a b c:Int)(h:d.st.length≤32)(ht:3≤d.st.length):Con Tryz.prog 136 [az d,.int .i64 5,.int .i64 a,.int .i64 b,.int .i64 c] (aa [az d,.int .i64 5,.int .i64 a,.int .i64 b,.int .i64 c]) (tV (bt d 3 [b,c,a])):=by
 have k1:=put d 3 [b,c,a] h (by omega) (by omega) (by simp)
 exact rn 112 Tryz.func136 [.cell 10 35,.tmp 11] (g:=go)
theorem LM(d:Dat)(a b c:Int)(h:d.st.length≤32)(ht:2≤d.st.length):Con Tryz.prog 136 [az d,.int .i64 6,.int .i64 a,.int .i64 b,.int .i64 c] (aa [az d,.int .i64 6,.int .i64 a,.int .i64 b,.int .i64 c]) (tV (bt d 2 [c])):=by
 have k1:=put d 2 [c] h (by omega) (by omega) (by simp)
 exact rn 112 Tryz.func136 [.cell 10 35,.tmp 11] (g:=go)
theorem LG(d:Dat)(a b c:Int)(h:d.st.length≤32)(ht:2≤d.st.length):Con Tryz.prog 136 [az d,.int .i64 7,.int .i64 a,.int .i64 b,.int .i64 c] (aa [az d,.int .i64 7,.int .i64 a,.int .i64 b,.int .i64 c]) (tV (bt d 2 [c,b,c])):=by
 have k1:=put d 2 [c,b,c] h (by omega) (by omega) (by simp)
 exact rn 112 Tryz.func136 [.cell 10 35,.tmp 11] (g:=go)
theorem Lo(d:Dat)(a b c:Int)(h:d.st.length≤32)(ht:2≤d.st.length):Con Tryz.prog 136 [az d,.int .i64 9,.int .i64 a,.int .i64 b,.int .i64 c] (aa [az d,.int .i64 9,.int .i64 a,.int .i64 b,.int .i64 c]) (tV (bt d 2 [b,c,b,c])):=by
 have k1:=put d 2 [b,c,b,c] h (by omega) (by omega) (by simp)
 exact rn 112 Tryz.func136 [.cell 10 35,.tmp 11] (g:=go)
theorem Ki(d:Dat)(a b c:Int)(h:d.st.length≤32)(ht:2≤d.st.length):Con Tryz.prog 136 [az d,.int .i64 10,.int .i64 a,.int .i64 b,.int .i64 c] (aa [az d,.int .i64 10,.int .i64 a,.int .i64 b,.int .i64 c]) (tV (bt d 2 [])):=by
 have k1:=nn d 2 h (by omega) (by omega)
 exact rn 112 Tryz.func136 [.cell 10 35,.tmp 11] (g:=go)
theorem mv8z(d:Dat)(a b c:Int)(h:d.st.length≤32)(ht:1≤d.st.length)(h0:c=0):Con Tryz.prog 136 [az d,.int .i64 8,.int .i64 a,.int .i64 b,.int .i64 c] (aa [az d,.int .i64 8,.int .i64 a,.int .i64 b,.int .i64 c]) (tV ((d,0))):=by
 have g5:(c==0)=true:=by simp[h0]
 exact rn 112 Tryz.func136 [.cell 10 35,.tmp 11] (g:=go)
theorem J0(d:Dat)(a b c:Int)(h:d.st.length≤32)(ht:1≤d.st.length)(h0: ¬c=0):Con Tryz.prog 136 [az d,.int .i64 8,.int .i64 a,.int .i64 b,.int .i64 c] (aa [az d,.int .i64 8,.int .i64 a,.int .i64 b,.int .i64 c]) (tV (bt d 1 [c,c])):=by
 have k1:=put d 1 [c,c] h (by omega) (by omega) (by simp)
 have g5:(c==0)=false:=by simp[h0]
 exact rn 112 Tryz.func136 [.cell 10 35,.tmp 11] (g:=go)
theorem J1(d:Dat)(a b c:Int)(h:d.st.length≤32)(ht:0≤d.st.length):Con Tryz.prog 136 [az d,.int .i64 11,.int .i64 a,.int .i64 b,.int .i64 c] (aa [az d,.int .i64 11,.int .i64 a,.int .i64 b,.int .i64 c]) (tV (bt d 0 [(d.st.length:Int)])):=by
 have k1:=put d 0 [(d.st.length:Int)] h (by omega) (by omega) (by simp)
 rw[show[(d.st.length:Int)]=[(((d.st.map aj).length:Nat):Int)] by rw[List.length_map]]at k1⊢
 exact rn 112 Tryz.func136 [.cell 10 35,.tmp 11] (g:=go)
end P11

/- Prims of the other stack, by the reference; contracts. -/
open Go Go.Abs Go.Proofs V1 H1 F1 F2 T1 T2 T3 P1 P2 P3 P4 P5 P6 P7 P8 P9 P10 P11
namespace P12
theorem Bn{P:Program}{f:FuncId}{xs bs:List AV}{K:AV→Prop}(h:xs=bs)(k:CallG P f bs K):CallG P f xs K:=h▸k
theorem Hs(d:Dat)(fl c:Int)(h:d.st.length≤32)(ht:1≤d.st.length)(hb:d.bk.length≤32)(h0:d.bk.length=32):Con Tryz.prog 137 [az d,.int .i64 12,.int .i64 fl,.int .i64 c] (aa [az d,.int .i64 12,.int .i64 fl,.int .i64 c]) (tV (d,-5)):=by
 have g5:((((d.bk.map aj).length:Nat):Int)==32)=true:=by rw[List.length_map,h0];rfl
 exact rn 81 Tryz.func137 [.cell 8 35,.tmp 9] (g:=go)
theorem HG(d:Dat)(fl c:Int)(h:d.st.length≤32)(ht:1≤d.st.length)(hb:d.bk.length≤32)(h0: ¬d.bk.length=32):Con Tryz.prog 137 [az d,.int .i64 12,.int .i64 fl,.int .i64 c] (aa [az d,.int .i64 12,.int .i64 fl,.int .i64 c]) (tV (bt {d with bk:=d.bk++[c]} 1 [])):=by
 have g5:((((d.bk.map aj).length:Nat):Int)==32)=false:=by rw[List.length_map];simp;omega
 have k1:=nn {d with bk:=d.bk++[c]} 1 h (by omega) (by simp only;omega)
 refine rn 81 Tryz.func137 [.cell 8 35,.tmp 9] (g:= ?_)
 conv=>whnf
 refine aO ?_
 rotate_left
 refine Bn (bs:=[az {d with bk:=d.bk++[c]},.int .i64 1,AV.emp]) ?_ ?_
 ·refine congrArg (fun x=>[AV.agg [dL d.st,AV.ro zI x,dL d.ce,.int .i64 d.he,.int .i64 d.ba,.str d.ou],.int .i64 1,AV.emp]) ?_
  simp[am,List.take_of_length_le,aj]
 exact go
theorem K7(d:Dat)(fl c:Int)(h:d.st.length≤32)(hb:d.bk.length≤32)(hf:0≤fl∧fl≤d.bk.length)(hk:2≤(d.bk.length:Int)-fl):Con Tryz.prog 137 [az d,.int .i64 52,.int .i64 fl,.int .i64 c] (aa [az d,.int .i64 52,.int .i64 fl,.int .i64 c]) (tV ({d with bk:=d.bk.take (d.bk.length-2)},0)):=by
 have wf:IntKind.i64.wrap ((((d.bk.map aj).length:Nat):Int)-fl)=(d.bk.length:Int)-fl:=by rw[List.length_map];exact ai (by omega) (by omega)
 have w2:IntKind.i64.wrap ((((d.bk.map aj).length:Nat):Int)-2)=((d.bk.length-2:Nat):Int):=by rw[List.length_map,ai (by omega) (by omega)];omega
 have g1:decide (IntKind.i64.wrap ((((d.bk.map aj).length:Nat):Int)-fl)<2)=false:=by rw[wf];exact decide_eq_false (by omega)
 refine rn 81 Tryz.func137 [.cell 8 35,.tmp 9] (g:= ?_)
 conv=>whnf
 iterate 28 ((first|refine ac (by solve|simp only[bj]|fail) ?_|apply ac rfl|refine ac (by((first|(rw[w2];exact decide_eq_true (by omega))|(rw[w2,List.length_map];exact decide_eq_true (by omega))|(simp[w2,ao,AV.plain,am];omega)))) ?_|refine af (ak (by solve|simp[bj]|fail)) ?_|apply af rfl|refine cg ?_|apply bL rfl|apply aJ rfl|refine aJ (by assumption) ?_);conv=>whnf)
 rotate_left
 refine⟨Sh.tup ⟨Sh.agg ⟨Sh.refl _,?_,Sh.refl _,Sh.refl _,Sh.refl _,Sh.refl _,trivial⟩,Sh.refl _,trivial⟩⟩
 refine Sh.trans ?_ (Sh.own_ro (lvl:=1) (by omega) _ _)
 refine mv ?_
 rw[List.length_map]at w2;simp[am,w2]
theorem Lt(p:Nat)(d:Dat)(fl c:Int)(hp:p=13∨p=14∨p=51∨p=52)(hb:d.bk.length≤32)(hf:0≤fl∧fl≤d.bk.length)(hk:(d.bk.length:Int)-fl<dZ p):Con Tryz.prog 137 [az d,.int .i64 p,.int .i64 fl,.int .i64 c] (aa [az d,.int .i64 p,.int .i64 fl,.int .i64 c]) (tV (d,-6)):=by
 have wf:IntKind.i64.wrap ((((d.bk.map aj).length:Nat):Int)-fl)=(d.bk.length:Int)-fl:=by rw[List.length_map];exact ai (by omega) (by omega)
 have g1:decide (IntKind.i64.wrap ((((d.bk.map aj).length:Nat):Int)-fl)<((dZ p:Nat):Int))=true:=by rw[wf];exact decide_eq_true hk
 rcases hp with rfl|rfl|rfl|rfl
 ·have g1:decide (IntKind.i64.wrap ((((d.bk.map aj).length:Nat):Int)-fl)<1)=true:=g1
  exact rn 81 Tryz.func137 [.cell 8 35,.tmp 9] (g:=go)
 ·have g1:decide (IntKind.i64.wrap ((((d.bk.map aj).length:Nat):Int)-fl)<1)=true:=g1
  exact rn 81 Tryz.func137 [.cell 8 35,.tmp 9] (g:=go)
 ·have g1:decide (IntKind.i64.wrap ((((d.bk.map aj).length:Nat):Int)-fl)<1)=true:=g1
  exact rn 81 Tryz.func137 [.cell 8 35,.tmp 9] (g:=go)
 ·have g1:decide (IntKind.i64.wrap ((((d.bk.map aj).length:Nat):Int)-fl)<2)=true:=g1
  exact rn 81 Tryz.func137 [.cell 8 35,.tmp 9] (g:=go)
theorem JT(d:Dat)(fl c:Int)(h:d.st.length≤32)(hb:d.bk.length≤32)(hf:0≤fl∧fl≤d.bk.length)(hk:1≤(d.bk.length:Int)-fl):Con Tryz.prog 137 [az d,.int .i64 14,.int .i64 fl,.int .i64 c] (aa [az d,.int .i64 14,.int .i64 fl,.int .i64 c]) (tV (bt d 0 [d.bk.getD (d.bk.length-1) 0])):=by
 have wf:IntKind.i64.wrap ((((d.bk.map aj).length:Nat):Int)-fl)=(d.bk.length:Int)-fl:=by rw[List.length_map];exact ai (by omega) (by omega)
 have g1:decide (IntKind.i64.wrap ((((d.bk.map aj).length:Nat):Int)-fl)<1)=false:=by rw[wf];exact decide_eq_false (by omega)
 have wl2:IntKind.i64.wrap ((((d.bk.map aj).length:Nat):Int)-1)=((d.bk.length-1:Nat):Int):=by rw[List.length_map,ai (by omega) (by omega)];omega
 have wl:(IntKind.i64.wrap ((((d.bk.map aj).length:Nat):Int)-1)).toNat=d.bk.length-1:=by rw[wl2];omega
 have k1:=put d 0 [d.bk.getD (d.bk.length-1) 0] h (by omega) (by omega) (by simp)
 refine rn 81 Tryz.func137 [.cell 8 35,.tmp 9] (g:= ?_)
 conv=>whnf
 repeat' (first|(refine ac (by((first|(rw[wl2];exact decide_eq_true (by omega))|(refine aU rfl ?_;rw[wl2,List.length_map];exact decide_eq_true (by omega))|(simp[wl2];omega)))) ?_;conv=>whnf)|(refine aH (by(rewrite[wl];exact aI aj _ _ _ 0 (by omega))) ?_;conv=>whnf)|(focus (refine aA ?_;(rfl)))|refine bN ?_|refine im ?_)
theorem Kc(d:Dat)(fl c:Int)(h:d.st.length≤32)(hb:d.bk.length≤32)(hf:0≤fl∧fl≤d.bk.length)(hk:1≤(d.bk.length:Int)-fl):Con Tryz.prog 137 [az d,.int .i64 51,.int .i64 fl,.int .i64 c] (aa [az d,.int .i64 51,.int .i64 fl,.int .i64 c]) (tV (bt d 0 [d.bk.getD (d.bk.length-1) 0])):=by
 have wf:IntKind.i64.wrap ((((d.bk.map aj).length:Nat):Int)-fl)=(d.bk.length:Int)-fl:=by rw[List.length_map];exact ai (by omega) (by omega)
 have g1:decide (IntKind.i64.wrap ((((d.bk.map aj).length:Nat):Int)-fl)<1)=false:=by rw[wf];exact decide_eq_false (by omega)
 have wl2:IntKind.i64.wrap ((((d.bk.map aj).length:Nat):Int)-1)=((d.bk.length-1:Nat):Int):=by rw[List.length_map,ai (by omega) (by omega)];omega
 have wl:(IntKind.i64.wrap ((((d.bk.map aj).length:Nat):Int)-1)).toNat=d.bk.length-1:=by rw[wl2];omega
 have k1:=put d 0 [d.bk.getD (d.bk.length-1) 0] h (by omega) (by omega) (by simp)
 refine rn 81 Tryz.func137 [.cell 8 35,.tmp 9] (g:= ?_)
 conv=>whnf
 repeat' (first|(refine ac (by((first|(rw[wl2];exact decide_eq_true (by omega))|(refine aU rfl ?_;rw[wl2,List.length_map];exact decide_eq_true (by omega))|(simp[wl2];omega)))) ?_;conv=>whnf)|(refine aH (by(rewrite[wl];exact aI aj _ _ _ 0 (by omega))) ?_;conv=>whnf)|(focus (refine aA ?_;(rfl)))|refine bN ?_|refine im ?_)
theorem It(d:Dat)(fl c:Int)(h:d.st.length≤32)(hb:d.bk.length≤32)(hf:0≤fl∧fl≤d.bk.length)(hk:1≤(d.bk.length:Int)-fl)(h0:d.st.length=32):Con Tryz.prog 137 [az d,.int .i64 13,.int .i64 fl,.int .i64 c] (aa [az d,.int .i64 13,.int .i64 fl,.int .i64 c]) (tV (d,-3)):=by
 have wf:IntKind.i64.wrap ((((d.bk.map aj).length:Nat):Int)-fl)=(d.bk.length:Int)-fl:=by rw[List.length_map];exact ai (by omega) (by omega)
 have g1:decide (IntKind.i64.wrap ((((d.bk.map aj).length:Nat):Int)-fl)<1)=false:=by rw[wf];exact decide_eq_false (by omega)
 have wl2:IntKind.i64.wrap ((((d.bk.map aj).length:Nat):Int)-1)=((d.bk.length-1:Nat):Int):=by rw[List.length_map,ai (by omega) (by omega)];omega
 have wl:(IntKind.i64.wrap ((((d.bk.map aj).length:Nat):Int)-1)).toNat=d.bk.length-1:=by rw[wl2];omega
 have k1:=put d 0 [d.bk.getD (d.bk.length-1) 0] h (by omega) (by omega) (by simp)
 rw[show bt d (0:Int).toNat [d.bk.getD (d.bk.length-1) 0]=(d,-3)from oy (by simp;omega)]at k1
 refine rn 81 Tryz.func137 [.cell 8 35,.tmp 9] (g:= ?_)
 conv=>whnf
 repeat' (first|(refine ac (by((first|(rw[wl2];exact decide_eq_true (by omega))|(refine aU rfl ?_;rw[wl2,List.length_map];exact decide_eq_true (by omega))|(simp[wl2];omega)))) ?_;conv=>whnf)|(refine aH (by(rewrite[wl];exact aI aj _ _ _ 0 (by omega))) ?_;conv=>whnf)|(focus (refine aA ?_;(rfl)))|refine bN ?_|refine im ?_)
theorem IZ(d:Dat)(fl c:Int)(h:d.st.length≤32)(hb:d.bk.length≤32)(hf:0≤fl∧fl≤d.bk.length)(hk:1≤(d.bk.length:Int)-fl)(h0: ¬d.st.length=32):Con Tryz.prog 137 [az d,.int .i64 13,.int .i64 fl,.int .i64 c] (aa [az d,.int .i64 13,.int .i64 fl,.int .i64 c]) (tV ({d with st:=d.st++[d.bk.getD (d.bk.length-1) 0],bk:=d.bk.take (d.bk.length-1)},0)):=by
 have wf:IntKind.i64.wrap ((((d.bk.map aj).length:Nat):Int)-fl)=(d.bk.length:Int)-fl:=by rw[List.length_map];exact ai (by omega) (by omega)
 have g1:decide (IntKind.i64.wrap ((((d.bk.map aj).length:Nat):Int)-fl)<1)=false:=by rw[wf];exact decide_eq_false (by omega)
 have wl2:IntKind.i64.wrap ((((d.bk.map aj).length:Nat):Int)-1)=((d.bk.length-1:Nat):Int):=by rw[List.length_map,ai (by omega) (by omega)];omega
 have wl:(IntKind.i64.wrap ((((d.bk.map aj).length:Nat):Int)-1)).toNat=d.bk.length-1:=by rw[wl2];omega
 have k1:=put d 0 [d.bk.getD (d.bk.length-1) 0] h (by omega) (by omega) (by simp)
 rw[show bt d (0:Int).toNat [d.bk.getD (d.bk.length-1) 0]=({d with st:=d.st++[d.bk.getD (d.bk.length-1) 0]},0)from(gq (by simp;omega)).trans (by simp[List.take_of_length_le])]at k1
 refine rn 81 Tryz.func137 [.cell 8 35,.tmp 9] (g:= ?_)
 conv=>whnf
 (iterate 6 ((first|apply ac rfl|apply aJ rfl|refine aJ (by assumption) ?_);conv=>whnf));iterate 61 ((first|refine ac (by solve|simp only[bj]|fail) ?_|apply ac rfl|refine ac (by((first|(rw[wl2];exact decide_eq_true (by omega))|(refine aU rfl ?_;rw[wl2,List.length_map];exact decide_eq_true (by omega))|(rw[wl2];exact decide_eq_true (by omega))|(rw[wl2,List.length_map];exact decide_eq_true (by omega))|(simp[wl2,ao,AV.plain,am];omega)))) ?_|refine aH (by(rewrite[wl];exact aI aj _ _ _ 0 (by omega))) ?_|refine af (ak (by solve|simp[bj]|fail)) ?_|apply af rfl|refine cg ?_|refine aG (fun hf=> ?_)|refine ChkS.mk (by kernel_rfl) ?_|apply bL rfl|refine ag (k1 ..) ?_);conv=>whnf)
 rotate_left
 refine⟨Sh.tup ⟨Sh.agg ⟨Sh.refl _,?_,Sh.refl _,Sh.refl _,Sh.refl _,Sh.refl _,trivial⟩,Sh.refl _,trivial⟩⟩
 refine Sh.trans ?_ (Sh.own_ro (lvl:=1) (by omega) _ _)
 refine mv ?_
 rw[List.length_map]at wl2;simp[am,wl2]
end P12

/- Prims that sum, by the reference; contracts. -/
open Go Go.Abs Go.Proofs V1 H1 F1 F2 T1 T2 T3 P1 P2 P3 P4 P5 P6 P7 P8 P9 P10 P11 P12
namespace P13
theorem mg(p:Nat)(hp:15≤p∧p≤24)(d:Dat)(b c:Int)(h:d.st.length≤32)(ht:2≤d.st.length)(v:Int)(k2:Con Tryz.prog 173 [.int .i64 (IntKind.i64.wrap ((p:Int)-14)),.int .i64 b,.int .i64 c] (aa [.int .i64 (IntKind.i64.wrap ((p:Int)-14)),.int .i64 b,.int .i64 c]) (.tup [.int .i64 v,.bool true])):Con Tryz.prog 138 [az d,.int .i64 p,.int .i64 b,.int .i64 c] (aa [az d,.int .i64 p,.int .i64 b,.int .i64 c]) (tV (bt d 2 [v])):=by
 have q0:bm (p:Int) 15 24=true:=by simp[bm];omega
 have k1:=put d 2 [v] h (by omega) (by omega) (by simp)
 exact rn 152 Tryz.func138 [.cell 8 35,.tmp 9] (g:=go)
theorem Ae(p:Nat)(hp:15≤p∧p≤24)(d:Dat)(b c:Int)(h:d.st.length≤32)(ht:2≤d.st.length)(v:Int)(k2:Con Tryz.prog 173 [.int .i64 (IntKind.i64.wrap ((p:Int)-14)),.int .i64 b,.int .i64 c] (aa [.int .i64 (IntKind.i64.wrap ((p:Int)-14)),.int .i64 b,.int .i64 c]) (.tup [.int .i64 v,.bool false])):Con Tryz.prog 138 [az d,.int .i64 p,.int .i64 b,.int .i64 c] (aa [az d,.int .i64 p,.int .i64 b,.int .i64 c]) (tV ((d,-10))):=by
 have q0:bm (p:Int) 15 24=true:=by simp[bm];omega
 exact rn 152 Tryz.func138 [.cell 8 35,.tmp 9] (g:=go)
theorem JJ(d:Dat)(b c:Int)(h:d.st.length≤32)(ht:2≤d.st.length)(qb: -2147483648≤b∧b≤2147483647)(qc: -2147483648≤c∧c≤2147483647):Con Tryz.prog 138 [az d,.int .i64 15,.int .i64 b,.int .i64 c] (aa [az d,.int .i64 15,.int .i64 b,.int .i64 c]) (tV (bt d 2 [(cf 1 b c).1])):=by
 have hcb:cell b=true:=by simp[cell,bm];omega
 have hcc:cell c=true:=by simp[cell,bm];omega
 exact mg 15 (by omega) d b c h ht _ (JD b c hcb hcc)
theorem JV(d:Dat)(b c:Int)(h:d.st.length≤32)(ht:2≤d.st.length)(qb: -2147483648≤b∧b≤2147483647)(qc: -2147483648≤c∧c≤2147483647):Con Tryz.prog 138 [az d,.int .i64 16,.int .i64 b,.int .i64 c] (aa [az d,.int .i64 16,.int .i64 b,.int .i64 c]) (tV (bt d 2 [(cf 2 b c).1])):=by
 have hcb:cell b=true:=by simp[cell,bm];omega
 have hcc:cell c=true:=by simp[cell,bm];omega
 exact mg 16 (by omega) d b c h ht _ (Js b c hcb hcc)
theorem Kh(d:Dat)(b c:Int)(h:d.st.length≤32)(ht:2≤d.st.length)(qb: -2147483648≤b∧b≤2147483647)(qc: -2147483648≤c∧c≤2147483647):Con Tryz.prog 138 [az d,.int .i64 17,.int .i64 b,.int .i64 c] (aa [az d,.int .i64 17,.int .i64 b,.int .i64 c]) (tV (bt d 2 [(cf 3 b c).1])):=by
 have hcb:cell b=true:=by simp[cell,bm];omega
 have hcc:cell c=true:=by simp[cell,bm];omega
 exact mg 17 (by omega) d b c h ht _ (J8 b c hcb hcc)
theorem HC(d:Dat)(b c:Int)(h:d.st.length≤32)(ht:2≤d.st.length)(qb: -2147483648≤b∧b≤2147483647)(qc: -2147483648≤c∧c≤2147483647)(h0: ¬c=0):Con Tryz.prog 138 [az d,.int .i64 18,.int .i64 b,.int .i64 c] (aa [az d,.int .i64 18,.int .i64 b,.int .i64 c]) (tV (bt d 2 [wc (ct b c)])):=by
 have hcb:cell b=true:=by simp[cell,bm];omega
 have hcc:cell c=true:=by simp[cell,bm];omega
 have k2:=Hb b c hcb hcc
 rw[G0 h0]at k2
 exact mg 18 (by omega) d b c h ht _ k2
theorem HP(d:Dat)(b c:Int)(h:d.st.length≤32)(ht:2≤d.st.length)(qb: -2147483648≤b∧b≤2147483647)(qc: -2147483648≤c∧c≤2147483647)(h0:c=0):Con Tryz.prog 138 [az d,.int .i64 18,.int .i64 b,.int .i64 c] (aa [az d,.int .i64 18,.int .i64 b,.int .i64 c]) (tV ((d,-10))):=by
 have hcb:cell b=true:=by simp[cell,bm];omega
 have hcc:cell c=true:=by simp[cell,bm];omega
 have k2:=Hb b c hcb hcc
 rw[(EL h0).1]at k2
 exact Ae 18 (by omega) d b c h ht _ k2
theorem H7(d:Dat)(b c:Int)(h:d.st.length≤32)(ht:2≤d.st.length)(qb: -2147483648≤b∧b≤2147483647)(qc: -2147483648≤c∧c≤2147483647)(h0: ¬c=0):Con Tryz.prog 138 [az d,.int .i64 19,.int .i64 b,.int .i64 c] (aa [az d,.int .i64 19,.int .i64 b,.int .i64 c]) (tV (bt d 2 [b-ct b c*c])):=by
 have hcb:cell b=true:=by simp[cell,bm];omega
 have hcc:cell c=true:=by simp[cell,bm];omega
 have k2:=Hz b c hcb hcc
 rw[GV h0]at k2
 exact mg 19 (by omega) d b c h ht _ k2
theorem I1(d:Dat)(b c:Int)(h:d.st.length≤32)(ht:2≤d.st.length)(qb: -2147483648≤b∧b≤2147483647)(qc: -2147483648≤c∧c≤2147483647)(h0:c=0):Con Tryz.prog 138 [az d,.int .i64 19,.int .i64 b,.int .i64 c] (aa [az d,.int .i64 19,.int .i64 b,.int .i64 c]) (tV ((d,-10))):=by
 have hcb:cell b=true:=by simp[cell,bm];omega
 have hcc:cell c=true:=by simp[cell,bm];omega
 have k2:=Hz b c hcb hcc
 rw[(EL h0).2]at k2
 exact Ae 19 (by omega) d b c h ht _ k2
theorem Ke(d:Dat)(b c:Int)(h:d.st.length≤32)(ht:2≤d.st.length)(qb: -2147483648≤b∧b≤2147483647)(qc: -2147483648≤c∧c≤2147483647):Con Tryz.prog 138 [az d,.int .i64 20,.int .i64 b,.int .i64 c] (aa [az d,.int .i64 20,.int .i64 b,.int .i64 c]) (tV (bt d 2 [(cf 6 b c).1])):=by
 have hcb:cell b=true:=by simp[cell,bm];omega
 have hcc:cell c=true:=by simp[cell,bm];omega
 exact mg 20 (by omega) d b c h ht _ (K8 b c hcb hcc)
theorem JG(d:Dat)(b c:Int)(h:d.st.length≤32)(ht:2≤d.st.length)(qb: -2147483648≤b∧b≤2147483647)(qc: -2147483648≤c∧c≤2147483647):Con Tryz.prog 138 [az d,.int .i64 21,.int .i64 b,.int .i64 c] (aa [az d,.int .i64 21,.int .i64 b,.int .i64 c]) (tV (bt d 2 [(cf 7 b c).1])):=by
 have hcb:cell b=true:=by simp[cell,bm];omega
 have hcc:cell c=true:=by simp[cell,bm];omega
 exact mg 21 (by omega) d b c h ht _ (K5 b c hcb hcc)
theorem Ku(d:Dat)(b c:Int)(h:d.st.length≤32)(ht:2≤d.st.length)(qb: -2147483648≤b∧b≤2147483647)(qc: -2147483648≤c∧c≤2147483647):Con Tryz.prog 138 [az d,.int .i64 22,.int .i64 b,.int .i64 c] (aa [az d,.int .i64 22,.int .i64 b,.int .i64 c]) (tV (bt d 2 [(cf 8 b c).1])):=by
 have hcb:cell b=true:=by simp[cell,bm];omega
 have hcc:cell c=true:=by simp[cell,bm];omega
 exact mg 22 (by omega) d b c h ht _ (KJ b c hcb hcc)
theorem J6(d:Dat)(b c:Int)(h:d.st.length≤32)(ht:2≤d.st.length)(qb: -2147483648≤b∧b≤2147483647)(qc: -2147483648≤c∧c≤2147483647):Con Tryz.prog 138 [az d,.int .i64 23,.int .i64 b,.int .i64 c] (aa [az d,.int .i64 23,.int .i64 b,.int .i64 c]) (tV (bt d 2 [(cf 9 b c).1])):=by
 have hcb:cell b=true:=by simp[cell,bm];omega
 have hcc:cell c=true:=by simp[cell,bm];omega
 exact mg 23 (by omega) d b c h ht _ (Jp b c hcb hcc)
theorem KI(d:Dat)(b c:Int)(h:d.st.length≤32)(ht:2≤d.st.length)(qb: -2147483648≤b∧b≤2147483647)(qc: -2147483648≤c∧c≤2147483647):Con Tryz.prog 138 [az d,.int .i64 24,.int .i64 b,.int .i64 c] (aa [az d,.int .i64 24,.int .i64 b,.int .i64 c]) (tV (bt d 2 [(cf 10 b c).1])):=by
 have hcb:cell b=true:=by simp[cell,bm];omega
 have hcc:cell c=true:=by simp[cell,bm];omega
 exact mg 24 (by omega) d b c h ht _ (HX b c hcb hcc)
theorem Kz(d:Dat)(b c:Int)(h:d.st.length≤32)(ht:1≤d.st.length)(qb: -2147483648≤b∧b≤2147483647)(qc: -2147483648≤c∧c≤2147483647):Con Tryz.prog 138 [az d,.int .i64 25,.int .i64 b,.int .i64 c] (aa [az d,.int .i64 25,.int .i64 b,.int .i64 c]) (tV (bt d 1 [aP 25 b c])):=by
 have w1:=sA qc
 have k1:=put d 1 [aP 25 b c] h (by omega) (by omega) (by simp)
 have ek:aP 25 b c=wc (IntKind.i64.wrap (0-c)):=by simp only[w1];rfl
 rw[ek]at k1⊢
 exact rn 152 Tryz.func138 [.cell 8 35,.tmp 9] (g:=go)
theorem K0(d:Dat)(b c:Int)(h:d.st.length≤32)(ht:1≤d.st.length)(qb: -2147483648≤b∧b≤2147483647)(qc: -2147483648≤c∧c≤2147483647):Con Tryz.prog 138 [az d,.int .i64 26,.int .i64 b,.int .i64 c] (aa [az d,.int .i64 26,.int .i64 b,.int .i64 c]) (tV (bt d 1 [aP 26 b c])):=by
 have w1:=sA qc
 have e:(if-c>c then-c else c)=max c (-c):=(by rw[Int.max_def];split<;>split<;>omega)
 have k1:=put d 1 [aP 26 b c] h (by omega) (by omega) (by simp)
 have ek:aP 26 b c=wc (if IntKind.i64.wrap (0-c)>c then IntKind.i64.wrap (0-c)else c):=by simp only[w1,e];rfl
 rw[ek]at k1⊢
 exact rn 152 Tryz.func138 [.cell 8 35,.tmp 9] (g:=go)
theorem KH(d:Dat)(b c:Int)(h:d.st.length≤32)(ht:1≤d.st.length)(qb: -2147483648≤b∧b≤2147483647)(qc: -2147483648≤c∧c≤2147483647):Con Tryz.prog 138 [az d,.int .i64 27,.int .i64 b,.int .i64 c] (aa [az d,.int .i64 27,.int .i64 b,.int .i64 c]) (tV (bt d 1 [aP 27 b c])):=by
 have w1:=sA qc
 have w2:IntKind.i64.wrap (-c-1)= -c-1:=ai (by omega) (by omega)
 have k1:=put d 1 [aP 27 b c] h (by omega) (by omega) (by simp)
 have ek:aP 27 b c=IntKind.i64.wrap (IntKind.i64.wrap (0-c)-1):=by simp only[w1,w2];rfl
 rw[ek]at k1⊢
 exact rn 152 Tryz.func138 [.cell 8 35,.tmp 9] (g:=go)
theorem Jq(d:Dat)(b c:Int)(h:d.st.length≤32)(ht:1≤d.st.length)(qb: -2147483648≤b∧b≤2147483647)(qc: -2147483648≤c∧c≤2147483647):Con Tryz.prog 138 [az d,.int .i64 28,.int .i64 b,.int .i64 c] (aa [az d,.int .i64 28,.int .i64 b,.int .i64 c]) (tV (bt d 1 [aP 28 b c])):=by
 have w1:IntKind.i64.wrap (c+1)=c+1:=ai (by omega) (by omega)
 have k1:=put d 1 [aP 28 b c] h (by omega) (by omega) (by simp)
 have ek:aP 28 b c=wc (IntKind.i64.wrap (c+1)):=by simp only[w1];rfl
 rw[ek]at k1⊢
 exact rn 152 Tryz.func138 [.cell 8 35,.tmp 9] (g:=go)
theorem JB(d:Dat)(b c:Int)(h:d.st.length≤32)(ht:1≤d.st.length)(qb: -2147483648≤b∧b≤2147483647)(qc: -2147483648≤c∧c≤2147483647):Con Tryz.prog 138 [az d,.int .i64 29,.int .i64 b,.int .i64 c] (aa [az d,.int .i64 29,.int .i64 b,.int .i64 c]) (tV (bt d 1 [aP 29 b c])):=by
 have w1:IntKind.i64.wrap (c-1)=c-1:=ai (by omega) (by omega)
 have k1:=put d 1 [aP 29 b c] h (by omega) (by omega) (by simp)
 have ek:aP 29 b c=wc (IntKind.i64.wrap (c-1)):=by simp only[w1];rfl
 rw[ek]at k1⊢
 exact rn 152 Tryz.func138 [.cell 8 35,.tmp 9] (g:=go)
theorem KY(d:Dat)(b c:Int)(h:d.st.length≤32)(ht:2≤d.st.length)(qb: -2147483648≤b∧b≤2147483647)(qc: -2147483648≤c∧c≤2147483647):Con Tryz.prog 138 [az d,.int .i64 30,.int .i64 b,.int .i64 c] (aa [az d,.int .i64 30,.int .i64 b,.int .i64 c]) (tV (bt d 2 [aP 30 b c])):=by
 have e:(if c<b then c else b)=min b c:=(by rw[Int.min_def];split<;>split<;>omega)
 have k1:=put d 2 [aP 30 b c] h (by omega) (by omega) (by simp)
 have ek:aP 30 b c=(if c<b then c else b):=by simp only[e];rfl
 rw[ek]at k1⊢
 exact rn 152 Tryz.func138 [.cell 8 35,.tmp 9] (g:=go)
theorem KG(d:Dat)(b c:Int)(h:d.st.length≤32)(ht:2≤d.st.length)(qb: -2147483648≤b∧b≤2147483647)(qc: -2147483648≤c∧c≤2147483647):Con Tryz.prog 138 [az d,.int .i64 31,.int .i64 b,.int .i64 c] (aa [az d,.int .i64 31,.int .i64 b,.int .i64 c]) (tV (bt d 2 [aP 31 b c])):=by
 have e:(if c>b then c else b)=max b c:=(by rw[Int.max_def];split<;>split<;>omega)
 have k1:=put d 2 [aP 31 b c] h (by omega) (by omega) (by simp)
 have ek:aP 31 b c=(if c>b then c else b):=by simp only[e];rfl
 rw[ek]at k1⊢
 exact rn 152 Tryz.func138 [.cell 8 35,.tmp 9] (g:=go)
theorem KS(d:Dat)(b c:Int)(h:d.st.length≤32)(ht:2≤d.st.length)(qb: -2147483648≤b∧b≤2147483647)(qc: -2147483648≤c∧c≤2147483647):Con Tryz.prog 138 [az d,.int .i64 32,.int .i64 b,.int .i64 c] (aa [az d,.int .i64 32,.int .i64 b,.int .i64 c]) (tV (bt d 2 [aP 32 b c])):=by
 have k1:=put d 2 [aP 32 b c] h (by omega) (by omega) (by simp)
 exact rn 152 Tryz.func138 [.cell 8 35,.tmp 9] (g:=go)
theorem J5(d:Dat)(b c:Int)(h:d.st.length≤32)(ht:2≤d.st.length)(qb: -2147483648≤b∧b≤2147483647)(qc: -2147483648≤c∧c≤2147483647):Con Tryz.prog 138 [az d,.int .i64 33,.int .i64 b,.int .i64 c] (aa [az d,.int .i64 33,.int .i64 b,.int .i64 c]) (tV (bt d 2 [aP 33 b c])):=by
 have k1:=put d 2 [aP 33 b c] h (by omega) (by omega) (by simp)
 exact rn 152 Tryz.func138 [.cell 8 35,.tmp 9] (g:=go)
theorem KR(d:Dat)(b c:Int)(h:d.st.length≤32)(ht:2≤d.st.length)(qb: -2147483648≤b∧b≤2147483647)(qc: -2147483648≤c∧c≤2147483647):Con Tryz.prog 138 [az d,.int .i64 34,.int .i64 b,.int .i64 c] (aa [az d,.int .i64 34,.int .i64 b,.int .i64 c]) (tV (bt d 2 [aP 34 b c])):=by
 have k1:=put d 2 [aP 34 b c] h (by omega) (by omega) (by simp)
 exact rn 152 Tryz.func138 [.cell 8 35,.tmp 9] (g:=go)
theorem Ld(d:Dat)(b c:Int)(h:d.st.length≤32)(ht:2≤d.st.length)(qb: -2147483648≤b∧b≤2147483647)(qc: -2147483648≤c∧c≤2147483647):Con Tryz.prog 138 [az d,.int .i64 35,.int .i64 b,.int .i64 c] (aa [az d,.int .i64 35,.int .i64 b,.int .i64 c]) (tV (bt d 2 [aP 35 b c])):=by
 have k1:=put d 2 [aP 35 b c] h (by omega) (by omega) (by simp)
 exact rn 152 Tryz.func138 [.cell 8 35,.tmp 9] (g:=go)
theorem Kg(d:Dat)(b c:Int)(h:d.st.length≤32)(ht:2≤d.st.length)(qb: -2147483648≤b∧b≤2147483647)(qc: -2147483648≤c∧c≤2147483647):Con Tryz.prog 138 [az d,.int .i64 36,.int .i64 b,.int .i64 c] (aa [az d,.int .i64 36,.int .i64 b,.int .i64 c]) (tV (bt d 2 [aP 36 b c])):=by
 have k1:=put d 2 [aP 36 b c] h (by omega) (by omega) (by simp)
 exact rn 152 Tryz.func138 [.cell 8 35,.tmp 9] (g:=go)
theorem JL(d:Dat)(b c:Int)(h:d.st.length≤32)(ht:1≤d.st.length)(qb: -2147483648≤b∧b≤2147483647)(qc: -2147483648≤c∧c≤2147483647):Con Tryz.prog 138 [az d,.int .i64 37,.int .i64 b,.int .i64 c] (aa [az d,.int .i64 37,.int .i64 b,.int .i64 c]) (tV (bt d 1 [aP 37 b c])):=by
 have k1:=put d 1 [aP 37 b c] h (by omega) (by omega) (by simp)
 exact rn 152 Tryz.func138 [.cell 8 35,.tmp 9] (g:=go)
theorem Le(d:Dat)(b c:Int)(h:d.st.length≤32)(ht:1≤d.st.length)(qb: -2147483648≤b∧b≤2147483647)(qc: -2147483648≤c∧c≤2147483647):Con Tryz.prog 138 [az d,.int .i64 38,.int .i64 b,.int .i64 c] (aa [az d,.int .i64 38,.int .i64 b,.int .i64 c]) (tV (bt d 1 [aP 38 b c])):=by
 have k1:=put d 1 [aP 38 b c] h (by omega) (by omega) (by simp)
 exact rn 152 Tryz.func138 [.cell 8 35,.tmp 9] (g:=go)
end P13

/- Prims on cells and on the output, by the reference; contracts. -/
open Go Go.Abs Go.Proofs V1 H1 F1 F2 T1 T2 T3 P1 P2 P3 P4 P5 P6 P7 P8 P9 P10 P11 P12 P13
namespace P14
def G1(d:Dat)(a:Int):Int:=match bX d a with|none=> -1|some k=>k
theorem c177(d:Dat)(a:Int)(hd:0≤d.he∧d.he≤32)(qa: -2147483648≤a∧a≤2147483647):Con Tryz.prog 177 [az d,.int .i64 a] (aa [az d,.int .i64 a]) (.int .i64 (G1 d a)):=by
 have w1:IntKind.i64.wrap (4*d.he)=4*d.he:=ai (by omega) (by omega)
 have w2:IntKind.i64.wrap (4096+4*d.he)=4096+4*d.he:=ai (by omega) (by omega)
 have w3:IntKind.i64.wrap (4096+4*d.he-1)=4096+4*d.he-1:=ai (by omega) (by omega)
 have w4:IntKind.i64.wrap (a-4096)=a-4096:=ai (by omega) (by omega)
 unfold G1
 refine rn 21 Tryz.func177 [.tmp 4] (g:= ?_)
 conv=>whnf
 refine aO ?_
 (refine bS ?_ ?_<;>intro hb)
 refine aO ?_
 rotate_left
 refine aO ?_
 (refine bS ?_ ?_<;>intro hb)
 refine aO ?_
 rotate_left
 refine aO ?_
 rotate_left
 ·rw[w1,w2,w3]at hb
  rw[uc (.inl hb)]
  exact aA rfl
 ·rw[uc (.inr hb)]
  exact aA rfl
 ·have h1:bm a 4096 (4096+4*d.he-1)=true:=by rw[←w3,←w2,←w1];assumption
  have hk:=gB (rt h1 hb) hd
  rw[rt h1 hb]
  generalize ((a-4096).tdiv 4).toNat=k at hk
  rw[w4,hk.2,ai (by omega) (by omega)]
  exact aA rfl
instance:CC 177:=⟨_,@c177⟩
theorem Ik{d:Dat}{a:Int}(h:bX d a=none):G1 d a= -1:=by rw[G1,h]
theorem CW{d:Dat}{a:Int}{k:Nat}(h:bX d a=some k):G1 d a=k:=by rw[G1,h]
theorem c178(d:Dat)(a n:Int)(hd:0≤d.he∧d.he≤32)(hc:d.ce.length=32)(qa: -2147483648≤a∧a≤2147483647):Con Tryz.prog 178 [az d,.int .i64 a,.int .i64 n] (aa [az d,.int .i64 a,.int .i64 n]) (tV (bZ d a n)):=by
 have k1:=c177 d a hd qa
 cases hk:bX d a with
 |none=>
  rw[Ik hk]at k1
  rw[xG hk]
  exact rn 26 Tryz.func178 [.cell 6 35,.tmp 7] (g:=go)
 |some k=>
  rw[CW hk]at k1
  have hl:=gB hk hd
  have g1:decide ((k:Int)<0)=false:=decide_eq_false (by omega)
  rw[nY hk]
  refine rn 26 Tryz.func178 [.cell 6 35,.tmp 7] (g:= ?_)
  conv=>whnf
  iterate 39 ((first|refine ac (by solve|simp only[bj]|fail) ?_|apply ac rfl|refine ac (by refine aU rfl ?_;simp only[cB];omega) ?_|refine ac (by((first|(simp;omega)|(simp[ao,AV.plain,am];omega)))) ?_|refine af (by(exact jb (j:=k) (by omega) (by omega))) ?_|refine af (ak (by solve|simp[bj]|fail)) ?_|apply af rfl|refine cg ?_|refine aG (fun hf=> ?_)|apply aJ rfl|apply aB|refine ag (k1 ..) ?_);conv=>whnf)
  rotate_left
  exact⟨Sh.tup ⟨Sh.agg ⟨Sh.refl _,Sh.refl _,Sh.own_ro (lvl:=1) (by omega) _ _,Sh.refl _,Sh.refl _,Sh.refl _,trivial⟩,Sh.refl _,trivial⟩⟩
instance:CC 178:=⟨_,@c178⟩
theorem c181(d:Dat)(t:List UInt8)(h:d.ou.length≤300)(ht:t.length≤1000):Con Tryz.prog 181 [az d,.str t] (aa [az d,.str t]) (tV (cC d t)):=by
 have w1:IntKind.i64.wrap ((d.ou.length:Int)+(t.length:Int))=((d.ou.length+t.length:Nat):Int):=by rw[ai (by omega) (by omega)];omega
 refine rn 20 Tryz.func181 [.cell 4 35,.tmp 5] (g:= ?_)
 conv=>whnf
 refine aO ?_
 (refine bS ?_ ?_<;>intro hb)
 refine aO ?_
 rotate_left
 refine aO ?_
 rotate_left
 ·rw[w1]at hb
  rw[EB (by omega)]
  exact aA rfl
 ·rw[w1]at hb
  rw[EJ (by omega)]
  (apply ac (by(((exact decide_eq_true (by unfold gt;omega)))));conv=>whnf)
  exact go
instance:CC 181:=⟨_,@c181⟩
theorem c179(d:Dat)(n:Int)(hd:0≤d.he∧d.he≤32)(hc:d.ce.length=32)(qn: -2147483648≤n∧n≤2147483647):Con Tryz.prog 179 [az d,.int .i64 n] (aa [az d,.int .i64 n]) (tV (aM d n)):=by
 have hq:=mW n 4
 have wq:IntKind.i64.wrap (n.tdiv 4)=n.tdiv 4:=ai (by omega) (by omega)
 have w1:IntKind.i64.wrap (d.he+n.tdiv 4)=d.he+n.tdiv 4:=ai (by omega) (by omega)
 refine rn 47 Tryz.func179 [.cell 4 35,.tmp 5] (g:= ?_)
 conv=>whnf
 refine aO ?_
 (refine bS ?_ ?_<;>intro hb)
 refine aO ?_
 rotate_left
 refine aO ?_
 (refine bS ?_ ?_<;>intro hb)
 refine aO ?_
 rotate_left
 refine aO ?_
 rotate_left
 ·rw[it (.inl hb)]
  exact aA rfl
 ·rw[wq,w1]at hb
  rw[it (.inr hb)]
  exact aA rfl
 rw[wq,w1]at hb
 have hi:=aQ hb
 have h4:n.tmod 4=0:=by assumption
 rw[lE h4 hb,ll hd.1 hi.1]
 refine LoopG.auto (α:=Nat) bH dI [1,2,4,6] (fun j=>[(1,.int .i64 n),(2,.ptr 1 0 0),(4,.ptr 3 0 0),(6,.int .i64 (d.he+j))]) (fun j=>[(1,.live ⟨false,0,[dL d.st,dL d.bk,dL d.ce,.int .i64 d.he,.int .i64 d.ba,.str d.ou],[[dL d.st,dL d.bk,.ref 2 0 d.ce.length,.int .i64 d.he,.int .i64 d.ba,.str d.ou]]⟩),(2,.live ⟨true,1,zI,(zr d.ce d.he.toNat j).map aj⟩),(3,.live ⟨false,0,[.emp,.emp,.emp,.int .i64 0,.int .i64 0,.str []],[[.emp,.emp,.emp,.int .i64 0,.int .i64 0,.str []]]⟩)]) (fun j=>j≤(n.tdiv 4).toNat) (fun j=>(n.tdiv 4).toNat-j) ?_ ?_
 ·conv=>whnf
  refine aO ?_
  rotate_left
  exact aE 0 (by omega) (by simp) (by simp[Hr,dL,zI])
 ·rintro j hj- -
  by_cases hlt:j<(n.tdiv 4).toNat
  ·have gd:decide (d.he+(j:Int)<IntKind.i64.wrap (d.he+IntKind.i64.wrap (n.tdiv 4)))=true:=by rw[wq,w1];exact decide_eq_true (by omega)
   have hz:=kw (ce:=d.ce) (a:=d.he.toNat) (j:=j) (by omega)
   conv=>whnf
   iterate 3 (first|(apply af (by(exact jb (j:=d.he.toNat+j) (by rw[hz];omega) (by omega)));conv=>whnf)|refine bN ?_)
   rotate_left
   refine aE (j+1) ⟨by omega,by omega⟩ (by rw[ai (by omega) (by omega),show d.he+(j:Int)+1=d.he+((j+1:Nat):Int) by omega]) ?_
   rw[yc (by omega)]
   rfl
  ·have gd:decide (d.he+(j:Int)<IntKind.i64.wrap (d.he+IntKind.i64.wrap (n.tdiv 4)))=false:=by rw[wq,w1];exact decide_eq_false (by omega)
   conv=>whnf
   refine aO ?_
   rotate_left
   obtain rfl:j=(n.tdiv 4).toNat:=by omega
   have hz:=kw (ce:=d.ce) (a:=d.he.toNat) (j:=(n.tdiv 4).toNat) (by omega)
   rw[wq,w1,List.drop_zero,List.take_of_length_le (by omega)]
   exact⟨Sh.tup ⟨Sh.agg ⟨Sh.refl _,Sh.refl _,Sh.own_ro (lvl:=1) (by omega) _ _,Sh.refl _,Sh.refl _,Sh.refl _,trivial⟩,Sh.refl _,trivial⟩⟩
instance:CC 179:=⟨_,@c179⟩
end P14

/- Prims on cells and on the output in whole, by the reference; contracts. -/
open Go Go.Abs Go.Proofs V1 H1 F1 F2 T1 T2 T3 P1 P2 P3 P4 P5 P6 P7 P8 P9 P10 P11 P12 P13 P14
namespace P15
theorem Gy(p:Nat)(hp:p=39∨p=40∨p=41)(d:Dat)(b c:Int)(h:Dk d)(qc: -2147483648≤c∧c≤2147483647)(hk:bX d c=none):Con Tryz.prog 139 [az d,.int .i64 p,.int .i64 b,.int .i64 c] (aa [az d,.int .i64 p,.int .i64 b,.int .i64 c]) (tV (d,-9)):=by
 have k1:=c177 d c h.he qc
 rw[Ik hk]at k1
 rcases hp with rfl|rfl|rfl
 ·exact rn 119 Tryz.func139 [.cell 8 35,.tmp 9] (g:=go)
 ·exact rn 119 Tryz.func139 [.cell 8 35,.tmp 9] (g:=go)
 ·exact rn 119 Tryz.func139 [.cell 8 35,.tmp 9] (g:=go)
theorem JK(d:Dat)(b c:Int)(h:Dk d)(ht:1≤d.st.length)(qc: -2147483648≤c∧c≤2147483647)(k:Nat)(hk:bX d c=some k):Con Tryz.prog 139 [az d,.int .i64 39,.int .i64 b,.int .i64 c] (aa [az d,.int .i64 39,.int .i64 b,.int .i64 c]) (tV (bt d 1 [d.ce.getD k 0])):=by
 have k1:=c177 d c h.he qc
 rw[CW hk]at k1
 have hl:=gB hk h.he
 have hc:=h.ce
 have hh:=h.he
 have g1:decide ((k:Int)<0)=false:=decide_eq_false (by omega)
 have k2:=put d 1 [d.ce.getD k 0] h.st (by omega) (by omega) (by simp)
 refine rn 119 Tryz.func139 [.cell 8 35,.tmp 9] (g:= ?_)
 conv=>whnf
 repeat' (first|(refine aH (by((try rewrite[Nat.zero_add]);(try simp only[Int.toNat_natCast]);exact aI aj _ _ _ 0 (by omega))) ?_;conv=>whnf)|(focus (refine aA ?_;(rfl)))|refine bN ?_|refine im ?_)
theorem KV(d:Dat)(b c:Int)(h:Dk d)(ht:2≤d.st.length)(qb: -2147483648≤b∧b≤2147483647)(qc: -2147483648≤c∧c≤2147483647)(k:Nat)(hk:bX d c=some k):Con Tryz.prog 139 [az d,.int .i64 40,.int .i64 b,.int .i64 c] (aa [az d,.int .i64 40,.int .i64 b,.int .i64 c]) (tV (bt {d with ce:=d.ce.set k b} 2 [])):=by
 have k1:=c177 d c h.he qc
 rw[CW hk]at k1
 have hl:=gB hk h.he
 have hc:=h.ce
 have hh:=h.he
 have g1:decide ((k:Int)<0)=false:=decide_eq_false (by omega)
 have k2:=c178 d c b h.he h.ce qc
 rw[nY hk]at k2
 have k3:=nn {d with ce:=d.ce.set k b} 2 h.st (by omega) (by simp only;omega)
 exact rn 119 Tryz.func139 [.cell 8 35,.tmp 9] (g:=go)
theorem Kl(d:Dat)(b c:Int)(h:Dk d)(ht:2≤d.st.length)(qb: -2147483648≤b∧b≤2147483647)(qc: -2147483648≤c∧c≤2147483647)(k:Nat)(hk:bX d c=some k):Con Tryz.prog 139 [az d,.int .i64 41,.int .i64 b,.int .i64 c] (aa [az d,.int .i64 41,.int .i64 b,.int .i64 c]) (tV (bt {d with ce:=d.ce.set k (wc (d.ce.getD k 0+b))} 2 [])):=by
 have k1:=c177 d c h.he qc
 rw[CW hk]at k1
 have hl:=gB hk h.he
 have hc:=h.ce
 have hh:=h.he
 have g1:decide ((k:Int)<0)=false:=decide_eq_false (by omega)
 have hx: -2147483648≤d.ce.getD k 0∧d.ce.getD k 0≤2147483647:=by
  have e:d.ce.getD k 0=d.ce[k]'(by omega):=by simp[show k<d.ce.length by omega]
  rw[e]
  exact h.cs _ (List.getElem_mem _)
 have wx:IntKind.i64.wrap (d.ce.getD k 0+b)=d.ce.getD k 0+b:=ai (by omega) (by omega)
 have k2:=c178 d c (wc (d.ce.getD k 0+b)) h.he h.ce qc
 rw[nY hk]at k2
 have k3:=nn {d with ce:=d.ce.set k (wc (d.ce.getD k 0+b))} 2 h.st (by omega) (by simp only;omega)
 rw[←wx]at k2 k3⊢
 refine rn 119 Tryz.func139 [.cell 8 35,.tmp 9] (g:= ?_)
 conv=>whnf
 repeat' (first|(refine aH (by((try rewrite[Nat.zero_add]);(try simp only[Int.toNat_natCast]);exact aI aj _ _ _ 0 (by omega))) ?_;conv=>whnf)|(focus (refine aA ?_;(rfl)))|refine bN ?_|refine im ?_)
theorem JW(d:Dat)(b c:Int)(h:Dk d):Con Tryz.prog 139 [az d,.int .i64 42,.int .i64 b,.int .i64 c] (aa [az d,.int .i64 42,.int .i64 b,.int .i64 c]) (tV (bt d 0 [4096+4*d.he])):=by
 have hh:=h.he
 have w1:IntKind.i64.wrap (4*d.he)=4*d.he:=ai (by omega) (by omega)
 have w2:IntKind.i64.wrap (4096+4*d.he)=4096+4*d.he:=ai (by omega) (by omega)
 have e:4096+4*d.he=IntKind.i64.wrap (4096+IntKind.i64.wrap (4*d.he)):=by rw[w1,w2]
 have k1:=put d 0 [4096+4*d.he] h.st (by omega) (by omega) (by simp)
 rw[e]at k1⊢
 exact rn 119 Tryz.func139 [.cell 8 35,.tmp 9] (g:=go)
theorem Kd(d:Dat)(b c:Int)(h:Dk d)(ht:1≤d.st.length)(qc: -2147483648≤c∧c≤2147483647):Con Tryz.prog 139 [az d,.int .i64 43,.int .i64 b,.int .i64 c] (aa [az d,.int .i64 43,.int .i64 b,.int .i64 c]) (tV (if(aM d c).2≠0 then(d,(aM d c).2)else bt (aM d c).1 1 [])):=by
 have k1:=c179 d c h.he h.ce qc
 have es:(aM d c).1.st=d.st:=by unfold aM;split<;>rfl
 have k2:=nn (aM d c).1 1 (by rw[es];exact h.st) (by omega) (by rw[es];omega)
 by_cases h0:(aM d c).2=0
 ·have g0:((aM d c).2 != 0)=false:=by rw[h0];rfl
  rw[if_neg (fun k=>k h0)]
  generalize aM d c=x at k1 k2 g0
  exact rn 119 Tryz.func139 [.cell 8 35,.tmp 9] (g:=go)
 ·have g0:((aM d c).2 != 0)=true:=bne_iff_ne.2 h0
  rw[if_pos h0]
  generalize aM d c=x at k1 k2 g0
  exact rn 119 Tryz.func139 [.cell 8 35,.tmp 9] (g:=go)
theorem Gu(d:Dat)(h:Dk d):(aM d 4).2≠0∨((aM d 4).2=0∧(0≤(aM d 4).1.he∧(aM d 4).1.he≤32)∧(aM d 4).1.ce.length=32):=by
 have hh:=h.he
 by_cases hi:bm (d.he+(4:Int).tdiv 4) 0 32=true
 ·have h2:=aQ hi
  rw[lE rfl hi]
  refine .inr ⟨rfl,h2,?_⟩
  rw[ll hh.1 h2.1,kw]
  ·exact h.ce
  ·have:(4:Int).tdiv 4=1:=rfl
   have:=h.ce
   omega
 ·rw[it (.inr (by simpa using hi))]
  exact .inl (by simp)
theorem Lc(d:Dat)(b c:Int)(h:Dk d)(ht:1≤d.st.length)(qc: -2147483648≤c∧c≤2147483647):Con Tryz.prog 139 [az d,.int .i64 44,.int .i64 b,.int .i64 c] (aa [az d,.int .i64 44,.int .i64 b,.int .i64 c]) (tV (if(aM d 4).2≠0 then(d,(aM d 4).2)else bt (bZ (aM d 4).1 (4096+4*d.he) c).1 1 [])):=by
 have hh:=h.he
 have w1:IntKind.i64.wrap (4*d.he)=4*d.he:=ai (by omega) (by omega)
 have w2:IntKind.i64.wrap (4096+4*d.he)=4096+4*d.he:=ai (by omega) (by omega)
 have e:4096+4*d.he=IntKind.i64.wrap (4096+IntKind.i64.wrap (4*d.he)):=by rw[w1,w2]
 have k1:=c179 d 4 h.he h.ce (by omega)
 have es:(aM d 4).1.st=d.st:=by unfold aM;split<;>rfl
 rcases Gu d h with h0|⟨h0,h2,h3⟩
 ·have g0:((aM d 4).2 != 0)=true:=bne_iff_ne.2 h0
  rw[if_pos h0]
  generalize aM d 4=x at k1 g0
  exact rn 119 Tryz.func139 [.cell 8 35,.tmp 9] (g:=go)
 ·have g0:((aM d 4).2 != 0)=false:=by rw[h0];rfl
  rw[if_neg (fun k=>k h0)]
  have k2:=c178 (aM d 4).1 (4096+4*d.he) c h2 h3 (by omega)
  have es2:(bZ (aM d 4).1 (4096+4*d.he) c).1.st=d.st:=by unfold bZ;split<;>exact es
  have k3:=nn (bZ (aM d 4).1 (4096+4*d.he) c).1 1 (by rw[es2];exact h.st) (by omega) (by rw[es2];omega)
  rw[e]at k2 k3⊢
  generalize aM d 4=x at k1 k2 k3 g0
  generalize hy:bZ x.1 (IntKind.i64.wrap (4096+IntKind.i64.wrap (4*d.he))) c=y at k2 k3
  exact rn 119 Tryz.func139 [.cell 8 35,.tmp 9] (g:=go)
end P15

/- Prims on the output, by the reference; contracts. -/
open Go Go.Abs Go.Proofs V1 H1 F1 F2 T1 T2 T3 P1 P2 P3 P4 P5 P6 P7 P8 P9 P10 P11 P12 P13 P14 P15
namespace P16
def fk(p:Nat)(d:Dat)(c:Int):List UInt8:=match p with
 |45=>[UInt8.ofNat (c%256).toNat]
 |46=>my c d.ba.toNat++[32]
 |47=>[10]
 |_=>[32]
def vv(p:Nat)(d:Dat)(c:Int):Dat × Int:=if(cC d (fk p d c)).2≠0 then(d,(cC d (fk p d c)).2)else bt (cC d (fk p d c)).1 (bK p) []
theorem Fs(c:Int):UInt8.ofNat (IntKind.u8.wrap (me (· &&& ·) c 255)).toNat=UInt8.ofNat (c%256).toNat:=by
 refine congrArg (fun x:Int=>UInt8.ofNat x.toNat) ?_
 have e:((BitVec.ofInt 64 c&&&BitVec.ofInt 64 255).toNat:Int)=c%256:=by
  rw[BitVec.toNat_and,show(BitVec.ofInt 64 255).toNat=2 ^ 8-1 from rfl,Nat.and_two_pow_sub_one_eq_mod,BitVec.toNat_ofInt]
  omega
 show IntKind.u8.wrap (IntKind.i64.wrap _)=_
 rw[e,ai (by omega) (by omega)]
 show c%256%256=c%256
 omega
theorem sy(p:Nat)(hp:p=45∨p=46∨p=47∨p=48)(d:Dat)(c:Int)(h:Dk d)(ht:bK p≤d.st.length)(qc: -2147483648≤c∧c≤2147483647):Con Tryz.prog 140 [az d,.int .i64 p,.int .i64 c] (aa [az d,.int .i64 p,.int .i64 c]) (tV (vv p d c)):=by
 have eb:((d.ba.toNat:Nat):Int)=d.ba:=by have:=h.ba;omega
 have hcell:cell c=true:=by simp[cell,bm];omega
 have hb16:2≤d.ba.toNat∧d.ba.toNat≤16:=by have:=h.ba;omega
 have k0:=c180 c d.ba.toNat hcell hb16
 have hl:=xJ c hb16.1 hcell
 rw[eb]at k0
 have hlen:(fk p d c).length≤1000:=by rcases hp with rfl|rfl|rfl|rfl<;>simp[fk];omega
 have k1:=c181 d (fk p d c) h.ou hlen
 have es:(cC d (fk p d c)).1.st=d.st:=by unfold cC;split<;>rfl
 have k2:=nn (cC d (fk p d c)).1 (bK p) (by rw[es];exact h.st) (by omega) (by rw[es];omega)
 unfold vv
 rcases hp with rfl|rfl|rfl|rfl
 ·rw[show fk 45 d c=[UInt8.ofNat (IntKind.u8.wrap (me (· &&& ·) c 255)).toNat]from by rw[Fs];rfl]at k1 k2⊢
  by_cases h0:(cC d [UInt8.ofNat (IntKind.u8.wrap (me (· &&& ·) c 255)).toNat]).2=0
  ·have g0:((cC d [UInt8.ofNat (IntKind.u8.wrap (me (· &&& ·) c 255)).toNat]).2 != 0)=false:=by rw[h0];rfl
   rw[if_neg (fun k=>k h0)]
   generalize cC d [UInt8.ofNat (IntKind.u8.wrap (me (· &&& ·) c 255)).toNat]=x at k1 k2 g0
   refine rn 52 Tryz.func140 [.cell 6 35,.tmp 7] (g:= ?_)
   conv=>whnf
   repeat' (first|(refine mj rfl ?_;conv=>whnf)|(focus (refine aA ?_;(rfl)))|refine bN ?_|refine im ?_)
  ·have g0:((cC d [UInt8.ofNat (IntKind.u8.wrap (me (· &&& ·) c 255)).toNat]).2 != 0)=true:=bne_iff_ne.2 h0
   rw[if_pos h0]
   generalize cC d [UInt8.ofNat (IntKind.u8.wrap (me (· &&& ·) c 255)).toNat]=x at k1 k2 g0
   refine rn 52 Tryz.func140 [.cell 6 35,.tmp 7] (g:= ?_)
   conv=>whnf
   repeat' (first|(refine mj rfl ?_;conv=>whnf)|(focus (refine aA ?_;(rfl)))|refine bN ?_|refine im ?_)
 ·have k1:Con Tryz.prog 181 [az d,.str (my c d.ba.toNat++[32])] (aa [az d,.str (my c d.ba.toNat++[32])]) (tV (cC d (fk 46 d c))):=k1
  by_cases h0:(cC d (fk 46 d c)).2=0
  ·have g0:((cC d (fk 46 d c)).2 != 0)=false:=by rw[h0];rfl
   rw[if_neg (fun k=>k h0)]
   generalize cC d (fk 46 d c)=x at k1 k2 g0
   refine rn 52 Tryz.func140 [.cell 6 35,.tmp 7] (g:= ?_)
   conv=>whnf
   refine aO ?_
   (refine ag (k0 ..) ?_;conv=>whnf);(apply ac (by(((exact decide_eq_true (by unfold gt;simp;omega)))));conv=>whnf)
   exact go
  ·have g0:((cC d (fk 46 d c)).2 != 0)=true:=bne_iff_ne.2 h0
   rw[if_pos h0]
   generalize cC d (fk 46 d c)=x at k1 k2 g0
   refine rn 52 Tryz.func140 [.cell 6 35,.tmp 7] (g:= ?_)
   conv=>whnf
   refine aO ?_
   (refine ag (k0 ..) ?_;conv=>whnf);(apply ac (by(((exact decide_eq_true (by unfold gt;simp;omega)))));conv=>whnf)
   exact go
 ·have k1:Con Tryz.prog 181 [az d,.str [10]] (aa [az d,.str [10]]) (tV (cC d (fk 47 d c))):=k1
  by_cases h0:(cC d (fk 47 d c)).2=0
  ·have g0:((cC d (fk 47 d c)).2 != 0)=false:=by rw[h0];rfl
   rw[if_neg (fun k=>k h0)]
   generalize cC d (fk 47 d c)=x at k1 k2 g0
   exact rn 52 Tryz.func140 [.cell 6 35,.tmp 7] (g:=go)
  ·have g0:((cC d (fk 47 d c)).2 != 0)=true:=bne_iff_ne.2 h0
   rw[if_pos h0]
   generalize cC d (fk 47 d c)=x at k1 k2 g0
   exact rn 52 Tryz.func140 [.cell 6 35,.tmp 7] (g:=go)
 ·have k1:Con Tryz.prog 181 [az d,.str [32]] (aa [az d,.str [32]]) (tV (cC d (fk 48 d c))):=k1
  by_cases h0:(cC d (fk 48 d c)).2=0
  ·have g0:((cC d (fk 48 d c)).2 != 0)=false:=by rw[h0];rfl
   rw[if_neg (fun k=>k h0)]
   generalize cC d (fk 48 d c)=x at k1 k2 g0
   exact rn 52 Tryz.func140 [.cell 6 35,.tmp 7] (g:=go)
  ·have g0:((cC d (fk 48 d c)).2 != 0)=true:=bne_iff_ne.2 h0
   rw[if_pos h0]
   generalize cC d (fk 48 d c)=x at k1 k2 g0
   exact rn 52 Tryz.func140 [.cell 6 35,.tmp 7] (g:=go)
theorem J3(d:Dat)(c:Int):Con Tryz.prog 140 [az d,.int .i64 49,.int .i64 c] (aa [az d,.int .i64 49,.int .i64 c]) (tV ({d with ba:=10},0)):=
 rn 52 Tryz.func140 [.cell 6 35,.tmp 7] (g:=go)
theorem Jt(d:Dat)(c:Int):Con Tryz.prog 140 [az d,.int .i64 50,.int .i64 c] (aa [az d,.int .i64 50,.int .i64 c]) (tV ({d with ba:=16},0)):=
 rn 52 Tryz.func140 [.cell 6 35,.tmp 7] (g:=go)
end P16
