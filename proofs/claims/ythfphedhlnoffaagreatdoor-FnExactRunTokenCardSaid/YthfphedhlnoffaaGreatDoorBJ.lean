import Derived.Test.YthfphedhlnoffaaGreatDoorBI
import Derived.Test.YthfphedhlnoffaaGreatDoorBE
/- A machine's small steps, by the reference; contracts. -/
set_option linter.unusedVariables false
set_option maxHeartbeats 4000000
set_option linter.unusedSimpArgs false
set_option maxRecDepth 100000
open Go Go.Abs Go.Proofs V1 H1 M2 N1 N2 X1 X4 X5 X10
namespace X11
theorem qJ{α:Type}{f:α→List AV}{n:Nat}{z:List AV}{rows:List (List AV)}{l:List α}(h:rows=l.map f)(hn:n≤1:=by decide):Sh (.own n z rows) (.ro z (l.map f)):=h▸Sh.own_ro hn _ _
theorem c107(d:Dat)(n:Int)(h:d.st.length≤32):Con Tryz.prog 107 [az d,.int .i64 n] (aa [az d,.int .i64 n]) (.tup [az (fD d n).1,.int .i64 (fD d n).2]):=by
 by_cases h0:d.st.length=32
 ·rw[xy h0]
  have g:((((d.st.map aj).length:Nat):Int)==32)=true:=by rw[List.length_map,h0];rfl
  exact rn 20 Tryz.func107 [.cell 4 35,.tmp 5] (g:=go)
 ·rw[sY h0]
  have g:((((d.st.map aj).length:Nat):Int)==32)=false:=by rw[List.length_map];simp;omega
  refine rn 20 Tryz.func107 [.cell 4 35,.tmp 5] (g:= ?_)
  conv=>whnf
  (iterate 7 ((first|apply ac rfl|refine aJ (by(refine decide_eq_false ?_;simp only[List.length_map];omega)) ?_);conv=>whnf));(apply ac (by((first|(simp[ao,AV.plain,am];done)|(simp[ao,AV.plain,am];omega))));conv=>whnf);(iterate 6 ((first|refine ac (by solve|simp only[bj]|fail) ?_|apply ac rfl|refine cg ?_);conv=>whnf));(apply ac (by((first|(simp[ao,AV.plain,am];done)|(simp[ao,AV.plain,am];omega))));conv=>whnf);iterate 14 ((first|refine ac (by solve|simp only[bj]|fail) ?_|apply ac rfl|apply af rfl|refine cg ?_);conv=>whnf)
  rotate_left
  exact⟨Sh.tup ⟨Sh.agg ⟨qJ (by simp[am,aj,List.take_of_length_le]),Sh.refl _,Sh.refl _,Sh.refl _,Sh.refl _,Sh.refl _,trivial⟩,Sh.refl _,trivial⟩⟩
instance:CC 107:=⟨_,@c107⟩
theorem c141(d:Dat)(h:d.st.length≤32):Con Tryz.prog 141 [az d] (aa [az d]) (.tup [az (rJ d).1,.int .i64 (rJ d).2.1,.int .i64 (rJ d).2.2]):=by
 by_cases h0:d.st.length=0
 ·rw[qw h0]
  have g:((((d.st.map aj).length:Nat):Int)==0)=true:=by rw[List.length_map,h0];rfl
  exact rn 29 Tryz.func141 [.cell 2 35,.tmp 3,.tmp 4] (g:=go)
 ·rw[te h0]
  have g:((((d.st.map aj).length:Nat):Int)==0)=false:=by rw[List.length_map];simpa using h0
  have w1:IntKind.i64.wrap ((d.st.length:Int)-1)=(d.st.length:Int)-1:=ai (by omega) (by omega)
  have w2:((d.st.length:Int)-1).toNat=d.st.length-1:=by omega
  have ra: ∀z,dn (d.st.map aj) (IntKind.i64.wrap ((d.st.length:Int)-1)).toNat z=[.int .i64 (d.st.getD (d.st.length-1) 0)]:=fun z=>by
   rw[w1,w2];exact eQ _ _ _ (by omega)
  refine rn 29 Tryz.func141 [.cell 2 35,.tmp 3,.tmp 4] (g:= ?_)
  conv=>whnf
  (iterate 6 ((first|apply ac rfl|refine ac (by refine aU rfl ?_;simp only[cB];omega) ?_|refine ac (by simp only[Bool.and_eq_true,decide_eq_true_eq,List.length_map];omega) ?_|refine aJ (by(refine decide_eq_false ?_;simp only[List.length_map];omega)) ?_);conv=>whnf));(refine aH (by(((try simp only[Nat.zero_add,List.length_map]);exact ra _))) ?_;conv=>whnf);(iterate 7 ((first|apply ac rfl|refine ac (by refine aU rfl ?_;simp only[cB];omega) ?_|refine ac (by simp only[Bool.and_eq_true,decide_eq_true_eq,List.length_map];omega) ?_);conv=>whnf));(apply ac (by((first|(simp[ao,AV.plain,am,w1];done)|(simp[ao,AV.plain,am,w1];omega))));conv=>whnf);iterate 15 ((first|refine ac (by solve|simp only[bj]|fail) ?_|apply ac rfl|refine af (ak (by solve|simp[bj]|fail)) ?_|apply af rfl|refine cg ?_);conv=>whnf)
  rotate_left
  exact⟨Sh.tup ⟨Sh.agg ⟨qJ (by simp[am,aj,w1,w2,List.map_take]),Sh.refl _,Sh.refl _,Sh.refl _,Sh.refl _,Sh.refl _,trivial⟩,Sh.refl _,Sh.refl _,trivial⟩⟩
instance:CC 141:=⟨_,@c141⟩
theorem c23(ws:List Wd)(n:Int)(hw:ws.length≤103):Con Tryz.prog 23 [fq ws,.int .i64 n] (aa [fq ws,.int .i64 n]) (.bool (ck ws n)):=by
 have k1:=c62 n 1 ((ws.map dl).length:Nat)
 rw[show bm n 1 ((ws.map dl).length:Nat)=bm n 1 ws.length by rw[List.length_map]]at k1
 by_cases h0:bm n 1 ws.length=true
 ·have ra:=cF hw h0
  have h1:=aQ h0
  have w1:IntKind.i64.wrap (n-1)=n-1:=ai (by omega) (by omega)
  rw[h0]at k1
  refine rn 27 Tryz.func23 [.tmp 4] (g:= ?_)
  conv=>whnf
  repeat' (first|(focus (refine aA ?_;(first|(simp_all[ck];done)|(simp_all[ck,bne];done)|(simp_all[ck,bne,Bool.beq_eq_decide_eq];done))))|refine aO ?_|(refine bS ?_ ?_<;>intro hb))
 ·rw[Bool.not_eq_true]at h0
  rw[h0]at k1
  refine rn 27 Tryz.func23 [.tmp 4] (g:= ?_)
  conv=>whnf
  refine aO ?_
  (focus (refine aA ?_;(first|(simp_all[ck];done)|(simp_all[ck,bne];done))))
instance:CC 23:=⟨_,@c23⟩
theorem c102(m:Mch)(h:m.ca.length≤16):Con Tryz.prog 102 [aR m] (aa [aR m]) (.int .i64 (bJ m)):=by
 have w1:=fZ h
 by_cases h0:m.ca.length=0
 ·have g:decide ((((m.ca.map bF).length:Nat):Int)>0)=false:=by rw[List.length_map,h0];rfl
  rw[yl h0]
  exact rn 16 Tryz.func102 [.tmp 2] (g:=go)
 ·have g:decide ((((m.ca.map bF).length:Nat):Int)>0)=true:=by rw[List.length_map];exact decide_eq_true (by omega)
  have ra:=eO h h0
  rw[yM h0]
  exact rn 16 Tryz.func102 [.tmp 2] (g:=go)
instance:CC 102:=⟨_,@c102⟩
def mV(r:Mch × Int):AV:=.tup [aR r.1,.int .i64 r.2]
theorem c106(m:Mch)(c:Cal)(h:m.ca.length≤16):Con Tryz.prog 106 [aR m,rI c] (aa [aR m,rI c]) (mV (xp m c)):=by
 by_cases h0:m.ca.length=16
 ·rw[rS h0]
  have g:((((m.ca.map bF).length:Nat):Int)==16)=true:=by rw[List.length_map,h0];rfl
  exact rn 20 Tryz.func106 [.cell 4 41,.tmp 5] (g:=go)
 ·rw[sw h0]
  have g:((((m.ca.map bF).length:Nat):Int)==16)=false:=by rw[List.length_map];simp;omega
  refine rn 20 Tryz.func106 [.cell 4 41,.tmp 5] (g:= ?_)
  conv=>whnf
  (iterate 12 ((first|apply ac rfl|refine ChkS.mk (by kernel_rfl) ?_|refine aJ (by(refine decide_eq_false ?_;simp only[List.length_map];omega)) ?_);conv=>whnf));(apply ac (by((first|(simp[ao,AV.plain,am];done)|(simp[ao,AV.plain,am];omega))));conv=>whnf);(iterate 9 ((first|refine ac (by solve|simp only[bj]|fail) ?_|apply ac rfl|refine cg ?_|refine ChkS.mk (by kernel_rfl) ?_);conv=>whnf));(apply ac (by((first|(simp[ao,AV.plain,am];done)|(simp[ao,AV.plain,am];omega))));conv=>whnf);iterate 34 ((first|refine ac (by solve|simp only[bj]|fail) ?_|apply ac rfl|apply af rfl|refine cg ?_|refine ChkS.mk (by kernel_rfl) ?_);conv=>whnf)
  rotate_left
  exact⟨Sh.tup ⟨Sh.agg ⟨Sh.refl _,Sh.refl _,Sh.refl _,Sh.refl _,Sh.refl _,Sh.refl _,Sh.refl _,Sh.refl _,Sh.refl _,Sh.refl _,Sh.refl _,Sh.refl _,Sh.refl _,qJ (by simp[am,bF,List.take_of_length_le]),Sh.refl _,Sh.refl _,trivial⟩,Sh.refl _,trivial⟩⟩
instance:CC 106:=⟨_,@c106⟩
theorem c143(m:Mch)(x:Int):Con Tryz.prog 143 [aR m,.int .i64 x] (aa [aR m,.int .i64 x]) (mV (dV m x)):=by
 refine rn 12 Tryz.func143 [.cell 4 41,.tmp 5] (g:= ?_)
 conv=>whnf
 refine aO ?_
 (refine bS ?_ ?_<;>intro hb)
 refine aO ?_
 rotate_left
 refine aO ?_
 rotate_left
 ·exact aA (by rw[vm hb];rfl)
 ·exact aA (by rw[vP (by omega)];rfl)
instance:CC 143:=⟨_,@c143⟩
theorem CK(m:Mch)(h:(m.co.length:Int)≤m.ip):Con Tryz.prog 90 [aR m] (aa [aR m]) (.tup [aR m,.int .i64 0,.bool false]):=
 rn 25 Tryz.func90 [.cell 2 41,.tmp 3,.tmp 4] (g:=go)
theorem kU(m:Mch)(h:MI m)(hi: ¬(m.co.length:Int)≤m.ip):Con Tryz.prog 90 [aR m] (aa [aR m]) (.tup [aR (nextM m),.int .i64 (m.co.getD m.ip.toNat 0),.bool true]):=by
 have ra:=iT h hi
 have hp:=h.ip
 rw[X4.next_w h]
 exact rn 25 Tryz.func90 [.cell 2 41,.tmp 3,.tmp 4] (g:=go)
theorem c25(m:Mch)(h:smallM m):Con Tryz.prog 25 [aR m] (aa [aR m]) (wA m):=by
 have k1:=c65 m.da h.da
 have k2:=c66 m.ho h.ho
 obtain⟨h1,h2,h3,h4,h5⟩:=h
 refine rn 27 Tryz.func25 [.cell 2 41] (g:= ?_)
 conv=>whnf
 refine aO ?_
 rotate_left
 exact⟨Sh.agg ⟨Sh.flat_map (fun _=>rfl) _,Sh.flat_map (fun _=>rfl) _,Sh.refl _,Sh.refl _,Sh.refl _,Sh.refl _,Sh.refl _,Sh.refl _,Sh.refl _,Sh.refl _,Sh.refl _,Sh.refl _,Sh.refl _,Sh.flat_map (fun _=>rfl) _,Sh.refl _,Sh.refl _,trivial⟩⟩
instance:CC 25:=⟨_,@c25⟩
end X11

/- Words of compiled code, by the reference; contracts. -/
open Go Go.Abs Go.Proofs V1 H1 M2 N1 N2 P1 X1 X2 X3 X4 X5 X10 X11
namespace X12
theorem vL(n:Int):Con Tryz.prog 174 [.int .i64 n] (aa [.int .i64 n]) (.int .i64 (wc n)):=c174 n
theorem dH{l:List Int}{x:Int}(h:2≤l.length):l.take (l.length-2)++[l.getD (l.length-2) 0,x]=l.set (l.length-1) x:=by
 apply List.ext_getElem
 ·simp only[List.length_append,List.length_take,List.length_cons,List.length_nil,List.length_set];omega
 ·intro i h1 h2
  simp only[List.length_set]at h2
  rw[List.getElem_set]
  by_cases hi:i<l.length-2
  ·rw[List.getElem_append_left (by simp only[List.length_take];omega),List.getElem_take,if_neg (by omega)]
  ·rw[List.getElem_append_right (by simp only[List.length_take];omega)]
   simp only[List.length_take]
   by_cases h3:i=l.length-1
   ·rw[if_pos h3.symm]
    simp only[show i-min (l.length-2) l.length=1 by omega]
    rfl
   ·rw[if_neg (by omega)]
    obtain rfl:i=l.length-2:=by omega
    simp only[show l.length-2-min (l.length-2) l.length=0 by omega]
    simp[show l.length-2<l.length by omega]
theorem nF{f:FuncId}{xs ys:List AV}{K:AV→Prop}{res:AV}(h:Con Tryz.prog f ys (aa ys) res)(e:xs=ys)(k:K res):CallG Tryz.prog f xs K:=by subst e;exact ag h k
theorem HF{m:Mch}{bk:List Int}{n:Nat}{rows:List (List AV)}(e:rows=bk.map aj)(hn:n≤1:=by decide):Sh (.tup [.agg [fq m.ws,dL m.co,dL m.da.st,.own n zI rows,dL m.da.ce,.int .i64 m.da.he,.int .i64 m.da.ba,.str m.da.ou,pE m.ho.gr,dL m.ho.st,dL m.ho.q,.int .i64 m.ho.tk,lC m.ho.ds,od m.ca,.int .i64 m.ip,.int .i64 m.fu],.int .i64 0]) (mV ({m with da:={m.da with bk:=bk}},0)):=
 Sh.tup ⟨Sh.agg ⟨Sh.refl _,Sh.refl _,Sh.refl _,qJ e hn,Sh.refl _,Sh.refl _,Sh.refl _,Sh.refl _,Sh.refl _,Sh.refl _,Sh.refl _,Sh.refl _,Sh.refl _,Sh.refl _,Sh.refl _,Sh.refl _,trivial⟩,Sh.refl _,trivial⟩
set_option maxHeartbeats 2000000 in
theorem c144(m:Mch)(s x:Int)(h:MI m):Con Tryz.prog 144 [aR m,.int .i64 s,.int .i64 x] (aa [aR m,.int .i64 s,.int .i64 x]) (mV (dm m s x)):=by
 have hb0:=h.da.bk
 have hf0:=h.floor
 have kf:=c102 m h.cl
 have w2:IntKind.i64.wrap ((m.da.bk.length:Int)-2)=(m.da.bk.length:Int)-2:=ai (by omega) (by omega)
 have w1:IntKind.i64.wrap ((m.da.bk.length:Int)-1)=(m.da.bk.length:Int)-1:=ai (by omega) (by omega)
 have wf:IntKind.i64.wrap ((m.da.bk.length:Int)-bJ m)=(m.da.bk.length:Int)-bJ m:=ai (by omega) (by omega)
 by_cases h2:(m.da.bk.length:Int)-bJ m<2
 ·rw[xb h2]
  have g0:decide (IntKind.i64.wrap ((((m.da.bk.map aj).length:Nat):Int)-bJ m)<2)=true:=by rw[List.length_map,wf];exact decide_eq_true h2
  exact rn 103 Tryz.func144 [.cell 6 41,.tmp 7] (g:=go)
 have g0:decide (IntKind.i64.wrap ((((m.da.bk.map aj).length:Nat):Int)-bJ m)<2)=false:=by rw[List.length_map,wf];exact decide_eq_false h2
 have qa:=jr h.da.cbk (m.da.bk.length-2)
 have qb:=jr h.da.cbk (m.da.bk.length-1)
 have t2:((m.da.bk.length:Int)-2).toNat=m.da.bk.length-2:=by omega
 have ra: ∀z,dn (m.da.bk.map aj) (IntKind.i64.wrap ((m.da.bk.length:Int)-2)).toNat z=[.int .i64 (pH m)]:=fun z=>by
  rw[w2,t2];exact eQ _ _ _ (by omega)
 have rb: ∀z,dn (m.da.bk.map aj) (IntKind.i64.wrap ((m.da.bk.length:Int)-1)).toNat z=[.int .i64 (kL m)]:=fun z=>by
  rw[w1,show((m.da.bk.length:Int)-1).toNat=m.da.bk.length-1 by omega];exact eQ _ _ _ (by omega)
 have lb:lu s (wc (IntKind.i64.wrap (kL m-pH m))) (wc (IntKind.i64.wrap (wc (IntKind.i64.wrap (kL m-pH m))+s)))=true→dm m s x=({m with da:={m.da with bk:=m.da.bk.take (m.da.bk.length-2)}},0):=fun p=>xa h2 (by simp only[DQ]at p;exact p)
 have lc: ¬lu s (wc (IntKind.i64.wrap (kL m-pH m))) (wc (IntKind.i64.wrap (wc (IntKind.i64.wrap (kL m-pH m))+s)))=true→dm m s x=dV {m with da:={m.da with bk:=m.da.bk.set (m.da.bk.length-1) (wc (IntKind.i64.wrap (kL m+s)))}} x:=fun p=>by rw[DQ];exact wd h2 (by simp only[DQ]at p;exact p)
 have kb:=c143 {m with da:={m.da with bk:=m.da.bk.set (m.da.bk.length-1) (wc (IntKind.i64.wrap (kL m+s)))}} x
 generalize kL m=B at*
 refine rn 103 Tryz.func144 [.cell 6 41,.tmp 7] (g:= ?_)
 conv=>whnf
 have eR: ∀x,am (am (am (m.da.bk.map aj) 0 ((IntKind.i64.wrap (((m.da.bk.map aj).length:Int)-2)).toNat-0)) 0 (am (m.da.bk.map aj) 0 ((IntKind.i64.wrap (((m.da.bk.map aj).length:Int)-2)).toNat-0)).length++am [[AV.int .i64 (pH m)],[AV.int .i64 x]] 0 2) 0 ((am (m.da.bk.map aj) 0 ((IntKind.i64.wrap (((m.da.bk.map aj).length:Int)-2)).toNat-0)).length+(am [[AV.int .i64 (pH m)],[AV.int .i64 x]] 0 2).length)=(m.da.bk.set (m.da.bk.length-1) x).map aj:=fun x=>by
  rw[List.length_map,w2,t2,←dH (by omega),ak rfl,ak (by rw[List.length_append])]
  simp[am,aj,List.map_take,pH]
 (iterate 32 ((first|apply ac rfl|apply af rfl|refine aG (fun hf=> ?_)|apply aB|refine ag (kf ..) ?_);conv=>whnf));(refine aJ (by(refine decide_eq_false ?_;(try simp only[List.length_map]);omega)) ?_;conv=>whnf);(iterate 11 ((first|apply ac rfl|refine ac (by refine aU rfl ?_;simp only[cB];omega) ?_|refine ac (by simp only[Bool.and_eq_true,decide_eq_true_eq,List.length_map];omega) ?_|refine ChkS.mk (by kernel_rfl) ?_);conv=>whnf));(refine aH (by(((try simp only[Nat.zero_add,List.length_map]);exact rb _))) ?_;conv=>whnf);(iterate 11 ((first|apply ac rfl|refine ac (by refine aU rfl ?_;simp only[cB];omega) ?_|refine ac (by simp only[Bool.and_eq_true,decide_eq_true_eq,List.length_map];omega) ?_|refine ChkS.mk (by kernel_rfl) ?_);conv=>whnf));(refine aH (by(((try simp only[Nat.zero_add,List.length_map]);exact ra _))) ?_;conv=>whnf);(iterate 19 ((first|apply ac rfl|refine ac (by refine aU rfl ?_;simp only[cB];omega) ?_|refine ac (by simp only[Bool.and_eq_true,decide_eq_true_eq,List.length_map];omega) ?_|refine aG (fun hf=> ?_)|refine ChkS.mk (by kernel_rfl) ?_|apply aB|refine ag (vL ..) ?_);conv=>whnf));(apply ac (by((first|(simp[ao,AV.plain,am,w2,w1];done)|(simp[ao,AV.plain,am,w2,w1];omega))));conv=>whnf);iterate 44 (first|(refine ac (by solve|simp only[bj]|fail) ?_;(conv=>whnf))|(apply ac rfl;(conv=>whnf))|(refine af (ak (by solve|simp[bj]|fail)) ?_;(conv=>whnf))|(apply af rfl;(conv=>whnf))|(refine cg ?_;(conv=>whnf))|(apply bL rfl;(conv=>whnf))|(refine cm ?_ ?_<;>intro hb<;>(try simp only[eH]at hb)<;>conv=>whnf))
 rotate_left
 (iterate 2 (apply aJ rfl;conv=>whnf));(refine aJ (by(refine decide_eq_false ?_;(try simp only[List.length_map]);omega)) ?_;conv=>whnf);(iterate 21 ((first|apply ac rfl|refine ac (by refine aU rfl ?_;simp only[cB];omega) ?_|refine ac (by simp only[Bool.and_eq_true,decide_eq_true_eq,List.length_map];omega) ?_|refine ChkS.mk (by kernel_rfl) ?_|apply aJ rfl);conv=>whnf));(refine aH (by(((try simp only[Nat.zero_add,List.length_map]);exact ra _))) ?_;conv=>whnf);(iterate 11 ((first|apply ac rfl|refine ac (by refine aU rfl ?_;simp only[cB];omega) ?_|refine ac (by simp only[Bool.and_eq_true,decide_eq_true_eq,List.length_map];omega) ?_|refine ChkS.mk (by kernel_rfl) ?_);conv=>whnf));(refine aH (by(((try simp only[Nat.zero_add,List.length_map]);exact rb _))) ?_;conv=>whnf);(iterate 12 ((first|refine ac (by solve|simp only[bj]|fail) ?_|apply ac rfl|refine ChkS.mk (by kernel_rfl) ?_|refine ag (vL ..) ?_);conv=>whnf));(apply ac (by((first|(simp[ao,AV.plain,am,w2,w1];done)|(simp[ao,AV.plain,am,w2,w1];omega))));conv=>whnf);(iterate 37 ((first|refine ac (by solve|simp only[bj]|fail) ?_|apply ac rfl|apply af rfl|refine cg ?_|refine aG (fun hf=> ?_)|refine ChkS.mk (by kernel_rfl) ?_|apply aB);conv=>whnf));(focus (refine nF (kb ..) ?_ ?_;(· repeat' (first|(exact eR _;done)|(refine ak ?_;simp[bj];done)|exact be _ _ _ _|apply bg|apply bE|apply bB|apply cr|rfl));conv=>whnf));(iterate 29 ((first|apply ac rfl|apply af rfl|refine aG (fun hf=> ?_));conv=>whnf));(focus (refine aA ?_;((rw[lc (mt dF.1 (by omega))];first|done|rfl|(simp[mV];done)))));(iterate 5 (apply aJ rfl;conv=>whnf));(refine aJ (by(refine decide_eq_false ?_;(try simp only[List.length_map]);omega)) ?_;conv=>whnf);(iterate 21 ((first|apply ac rfl|refine ac (by refine aU rfl ?_;simp only[cB];omega) ?_|refine ac (by simp only[Bool.and_eq_true,decide_eq_true_eq,List.length_map];omega) ?_|refine ChkS.mk (by kernel_rfl) ?_|apply aJ rfl);conv=>whnf));(refine aH (by(((try simp only[Nat.zero_add,List.length_map]);exact ra _))) ?_;conv=>whnf);(iterate 11 ((first|apply ac rfl|refine ac (by refine aU rfl ?_;simp only[cB];omega) ?_|refine ac (by simp only[Bool.and_eq_true,decide_eq_true_eq,List.length_map];omega) ?_|refine ChkS.mk (by kernel_rfl) ?_);conv=>whnf));(refine aH (by(((try simp only[Nat.zero_add,List.length_map]);exact rb _))) ?_;conv=>whnf);(iterate 12 ((first|refine ac (by solve|simp only[bj]|fail) ?_|apply ac rfl|refine ChkS.mk (by kernel_rfl) ?_|refine ag (vL ..) ?_);conv=>whnf));(apply ac (by((first|(simp[ao,AV.plain,am,w2,w1];done)|(simp[ao,AV.plain,am,w2,w1];omega))));conv=>whnf);(iterate 37 ((first|refine ac (by solve|simp only[bj]|fail) ?_|apply ac rfl|apply af rfl|refine cg ?_|refine aG (fun hf=> ?_)|refine ChkS.mk (by kernel_rfl) ?_|apply aB);conv=>whnf));(focus (refine nF (kb ..) ?_ ?_;(· repeat' (first|(exact eR _;done)|(refine ak ?_;simp[bj];done)|exact be _ _ _ _|apply bg|apply bE|apply bB|apply cr|rfl));conv=>whnf));(iterate 29 ((first|apply ac rfl|apply af rfl|refine aG (fun hf=> ?_));conv=>whnf));(focus (refine aA ?_;((rw[lc (mt dF.1 (by omega))];first|done|rfl|(simp[mV];done)))));(iterate 8 (apply aJ rfl;conv=>whnf));(refine bL (by(refine decide_eq_true ?_;(try simp only[List.length_map]);omega)) ?_;conv=>whnf);iterate 38 (first|(refine ac (by solve|simp only[bj]|fail) ?_;(conv=>whnf))|(apply ac rfl;(conv=>whnf))|(refine af (ak (by solve|simp[bj]|fail)) ?_;(conv=>whnf))|(apply af rfl;(conv=>whnf))|(apply bL rfl;(conv=>whnf))|(apply aJ rfl;(conv=>whnf))|(refine cm ?_ ?_<;>intro hb<;>(try simp only[eH]at hb)<;>conv=>whnf))
 rotate_left
 (iterate 12 ((first|apply ac rfl|refine ac (by refine aU rfl ?_;simp only[cB];omega) ?_|refine ac (by simp only[Bool.and_eq_true,decide_eq_true_eq,List.length_map];omega) ?_|refine ChkS.mk (by kernel_rfl) ?_);conv=>whnf));(refine aH (by(((try simp only[Nat.zero_add,List.length_map]);exact ra _))) ?_;conv=>whnf);(iterate 11 ((first|apply ac rfl|refine ac (by refine aU rfl ?_;simp only[cB];omega) ?_|refine ac (by simp only[Bool.and_eq_true,decide_eq_true_eq,List.length_map];omega) ?_|refine ChkS.mk (by kernel_rfl) ?_);conv=>whnf));(refine aH (by(((try simp only[Nat.zero_add,List.length_map]);exact rb _))) ?_;conv=>whnf);(iterate 12 ((first|refine ac (by solve|simp only[bj]|fail) ?_|apply ac rfl|refine ChkS.mk (by kernel_rfl) ?_|refine ag (vL ..) ?_);conv=>whnf));(apply ac (by((first|(simp[ao,AV.plain,am,w2,w1];done)|(simp[ao,AV.plain,am,w2,w1];omega))));conv=>whnf);(iterate 37 ((first|refine ac (by solve|simp only[bj]|fail) ?_|apply ac rfl|apply af rfl|refine cg ?_|refine aG (fun hf=> ?_)|refine ChkS.mk (by kernel_rfl) ?_|apply aB);conv=>whnf));(focus (refine nF (kb ..) ?_ ?_;(· repeat' (first|(exact eR _;done)|(refine ak ?_;simp[bj];done)|exact be _ _ _ _|apply bg|apply bE|apply bB|apply cr|rfl));conv=>whnf));(iterate 29 ((first|apply ac rfl|apply af rfl|refine aG (fun hf=> ?_));conv=>whnf));(focus (refine aA ?_;((rw[lc (mt dF.1 (by omega))];first|done|rfl|(simp[mV];done)))));(iterate 16 ((first|apply ac rfl|refine ac (by refine aU rfl ?_;simp only[cB];omega) ?_|refine ac (by simp only[Bool.and_eq_true,decide_eq_true_eq,List.length_map];omega) ?_|refine ChkS.mk (by kernel_rfl) ?_|apply aJ rfl);conv=>whnf));(refine aH (by(((try simp only[Nat.zero_add,List.length_map]);exact ra _))) ?_;conv=>whnf);(iterate 11 ((first|apply ac rfl|refine ac (by refine aU rfl ?_;simp only[cB];omega) ?_|refine ac (by simp only[Bool.and_eq_true,decide_eq_true_eq,List.length_map];omega) ?_|refine ChkS.mk (by kernel_rfl) ?_);conv=>whnf));(refine aH (by(((try simp only[Nat.zero_add,List.length_map]);exact rb _))) ?_;conv=>whnf);(iterate 12 ((first|refine ac (by solve|simp only[bj]|fail) ?_|apply ac rfl|refine ChkS.mk (by kernel_rfl) ?_|refine ag (vL ..) ?_);conv=>whnf));(apply ac (by((first|(simp[ao,AV.plain,am,w2,w1];done)|(simp[ao,AV.plain,am,w2,w1];omega))));conv=>whnf);(iterate 37 ((first|refine ac (by solve|simp only[bj]|fail) ?_|apply ac rfl|apply af rfl|refine cg ?_|refine aG (fun hf=> ?_)|refine ChkS.mk (by kernel_rfl) ?_|apply aB);conv=>whnf));(focus (refine nF (kb ..) ?_ ?_;(· repeat' (first|(exact eR _;done)|(refine ak ?_;simp[bj];done)|exact be _ _ _ _|apply bg|apply bE|apply bB|apply cr|rfl));conv=>whnf));(iterate 29 ((first|apply ac rfl|apply af rfl|refine aG (fun hf=> ?_));conv=>whnf));(focus (refine aA ?_;((rw[lc (mt dF.1 (by omega))];first|done|rfl|(simp[mV];done)))))
 all_goals exact⟨by rw[lb (dF.2 (by omega))];exact HF (by rw[List.length_map,w2,t2];simp[am,List.map_take])⟩
instance:CC 144:=⟨_,@c144⟩
end X12

/- All words of compiled code, by the reference; the contract. -/
open Go Go.Abs Go.Proofs V1 H1 M2 N1 N2 P1 P11 X1 X2 X3 X4 X5 X10 X11 X12
namespace X13
theorem Ha{l:List Int}(h:2≤l.length):l.drop (l.length-2)=[l.getD (l.length-2) 0,l.getD (l.length-1) 0]:=by
 apply List.ext_getElem
 ·simp only[List.length_drop,List.length_cons,List.length_nil];omega
 ·intro i h1 h2
  simp only[List.length_cons,List.length_nil]at h2
  rw[List.getElem_drop]
  have hi:i=0∨i=1:=by omega
  rcases hi with rfl|rfl
  ·simp[show l.length-2<l.length by omega]
  ·simp[show l.length-1<l.length by omega,show l.length-2+1=l.length-1 by omega]
theorem c142(m:Mch)(h:MI m):Con Tryz.prog 142 [aR m] (aa [aR m]) (mV (we m)):=by
 have hs:=h.da.st
 have hb:=h.da.bk
 have wb:IntKind.i64.wrap ((m.da.bk.length:Int)+2)=(m.da.bk.length:Int)+2:=ai (by omega) (by omega)
 by_cases h1:m.da.st.length<2
 ·rw[I2 h1]
  exact rn 53 Tryz.func142 [.cell 2 41,.tmp 3] (g:=go)
 by_cases h2:32<m.da.bk.length+2
 ·rw[Hf h1 h2]
  have g2:decide (IntKind.i64.wrap ((((m.da.bk.map aj).length:Nat):Int)+2)>32)=true:=by rw[List.length_map,wb];exact decide_eq_true (by omega)
  exact rn 53 Tryz.func142 [.cell 2 41,.tmp 3] (g:=go)
 rw[G4 h1 h2]
 have g2:decide (IntKind.i64.wrap ((((m.da.bk.map aj).length:Nat):Int)+2)>32)=false:=by rw[List.length_map,wb];exact decide_eq_false (by omega)
 have w2:IntKind.i64.wrap ((m.da.st.length:Int)-2)=(m.da.st.length:Int)-2:=ai (by omega) (by omega)
 have w1:IntKind.i64.wrap ((m.da.st.length:Int)-1)=(m.da.st.length:Int)-1:=ai (by omega) (by omega)
 have ra: ∀z,dn (m.da.st.map aj) (IntKind.i64.wrap ((m.da.st.length:Int)-2)).toNat z=[.int .i64 (iq m.da)]:=fun z=>by
  rw[w2,show((m.da.st.length:Int)-2).toNat=m.da.st.length-2 by omega];exact eQ _ _ _ (by omega)
 have rb: ∀z,dn (m.da.st.map aj) (IntKind.i64.wrap ((m.da.st.length:Int)-1)).toNat z=[.int .i64 (bu m.da)]:=fun z=>by
  rw[w1,show((m.da.st.length:Int)-1).toNat=m.da.st.length-1 by omega];exact eQ _ _ _ (by omega)
 have kp:=nn {m.da with bk:=m.da.bk++m.da.st.drop (m.da.st.length-2)} 2 hs (by omega) (by show(2:Int)≤m.da.st.length;omega)
 rw[gq (by show ¬m.da.st.length-2+0>32;omega),List.append_nil]at kp
 have eR:am (am (m.da.bk.map aj) 0 (m.da.bk.map aj).length++am [[AV.int .i64 (iq m.da)],[AV.int .i64 (bu m.da)]] 0 2) 0 ((m.da.bk.map aj).length+(am [[AV.int .i64 (iq m.da)],[AV.int .i64 (bu m.da)]] 0 2).length)=(m.da.bk++m.da.st.drop (m.da.st.length-2)).map aj:=by
  rw[Ha (by omega),ak rfl,ak (by rw[List.length_append])]
  simp[am,aj,iq,bu]
 refine rn 53 Tryz.func142 [.cell 2 41,.tmp 3] (g:= ?_)
 conv=>whnf
 repeat' (first|(focus (apply ac (by((first|(simp[ao,AV.plain,am,w2,w1];done)|(simp[ao,AV.plain,am,w2,w1];omega))));conv=>whnf))|(focus (refine nF (kp ..) ?_ ?_;(· repeat' (first|(exact eR;done)|(refine ak ?_;simp[bj];done)|exact be _ _ _ _|apply bg|apply bE|apply bB|apply cr|rfl));conv=>whnf))|(focus (refine aA ?_;(rfl)))|refine aO ?_)
instance:CC 142:=⟨_,@c142⟩
theorem EA{d:Dat}(h:DataOk d)(h0:d.st.length=0):Con Tryz.prog 141 [az d] (aa [az d]) (.tup [az d,.int .i64 0,.int .i64 (-4)]):=by
 have k:=c141 d h.st
 rw[qw h0]at k
 exact k
theorem mo{d:Dat}(h:DataOk d)(h0: ¬d.st.length=0):Con Tryz.prog 141 [az d] (aa [az d]) (.tup [az {d with st:=d.st.take (d.st.length-1)},.int .i64 (bu d),.int .i64 0]):=by
 have k:=c141 d h.st
 rw[te h0]at k
 exact k
section
variable{m:Mch}(h:MI m)
include h
theorem K9:Con Tryz.prog 104 [aR m,.int .i64 4] (aa [aR m,.int .i64 4]) (mV (we m)):=by
 have k1:=c142 m h
 generalize we m=x at k1
 exact rn 86 Tryz.func104 [.cell 4 41,.tmp 5] (g:=go)
theorem KD{k:Int}(g:(k==4)=false)(hi:(m.co.length:Int)≤m.ip):Con Tryz.prog 104 [aR m,.int .i64 k] (aa [aR m,.int .i64 k]) (mV (m,-24)):=by
 have _:=h
 have k1:=CK m hi
 exact rn 86 Tryz.func104 [.cell 4 41,.tmp 5] (g:=go)
variable(hi: ¬(m.co.length:Int)≤m.ip)
include hi
theorem Ka:Con Tryz.prog 104 [aR m,.int .i64 1] (aa [aR m,.int .i64 1]) (mV (bn (nextM m) (m.co.getD m.ip.toNat 0))):=by
 have k1:=kU m h hi
 have k2:=c107 (nextM m).da (m.co.getD m.ip.toNat 0) h.da.st
 have e:bn (nextM m) (m.co.getD m.ip.toNat 0)=({nextM m with da:=(fD (nextM m).da (m.co.getD m.ip.toNat 0)).1},(fD (nextM m).da (m.co.getD m.ip.toNat 0)).2):=rfl
 rw[e]
 generalize fD (nextM m).da (m.co.getD m.ip.toNat 0)=x at k2
 generalize nextM m=y at k1 k2
 exact rn 86 Tryz.func104 [.cell 4 41,.tmp 5] (g:=go)
theorem KF:Con Tryz.prog 104 [aR m,.int .i64 2] (aa [aR m,.int .i64 2]) (mV (dV (nextM m) (m.co.getD m.ip.toNat 0))):=by
 have k1:=kU m h hi
 have k2:=c143 (nextM m) (m.co.getD m.ip.toNat 0)
 generalize dV (nextM m) (m.co.getD m.ip.toNat 0)=x at k2
 generalize nextM m=y at k1 k2
 exact rn 86 Tryz.func104 [.cell 4 41,.tmp 5] (g:=go)
theorem JF:Con Tryz.prog 104 [aR m,.int .i64 5] (aa [aR m,.int .i64 5]) (mV (dm (nextM m) 1 (m.co.getD m.ip.toNat 0))):=by
 have k1:=kU m h hi
 have k2:=c144 (nextM m) 1 (m.co.getD m.ip.toNat 0) (h.nextM (by omega))
 generalize dm (nextM m) 1 (m.co.getD m.ip.toNat 0)=x at k2
 generalize nextM m=y at k1 k2
 exact rn 86 Tryz.func104 [.cell 4 41,.tmp 5] (g:=go)
theorem I5{k:Int}(g1:(k==4)=false)(g2:(k==1)=false)(g3:(k==2)=false)(g4:(k==5)=false)(h0:m.da.st.length=0):Con Tryz.prog 104 [aR m,.int .i64 k] (aa [aR m,.int .i64 k]) (mV (m,-4)):=by
 have k1:=kU m h hi
 have k2:Con Tryz.prog 141 [az (nextM m).da] (aa [az (nextM m).da]) (.tup [az (nextM m).da,.int .i64 0,.int .i64 (-4)]):=EA h.da h0
 generalize nextM m=y at k1 k2
 exact rn 86 Tryz.func104 [.cell 4 41,.tmp 5] (g:=go)
variable(h0: ¬m.da.st.length=0)
include h0
theorem J9:Con Tryz.prog 104 [aR m,.int .i64 6] (aa [aR m,.int .i64 6]) (mV (dm (cP (nextM m)) (bu m.da) (m.co.getD m.ip.toNat 0))):=by
 have k1:=kU m h hi
 have k2:Con Tryz.prog 141 [az (nextM m).da] (aa [az (nextM m).da]) (.tup [az (cP (nextM m)).da,.int .i64 (bu m.da),.int .i64 0]):=mo h.da h0
 have k3:=c144 (cP (nextM m)) (bu m.da) (m.co.getD m.ip.toNat 0) (fV (h.nextM (by omega)))
 generalize dm (cP (nextM m)) (bu m.da) (m.co.getD m.ip.toNat 0)=x at k3
 have e:cP (nextM m)={nextM m with da:=(cP (nextM m)).da}:=rfl
 rw[e]at k3
 generalize (cP (nextM m)).da=pd at k2 k3
 generalize nextM m=y at k1 k2 k3
 exact rn 86 Tryz.func104 [.cell 4 41,.tmp 5] (g:=go)
theorem IM(ht:bu m.da≠0):Con Tryz.prog 104 [aR m,.int .i64 3] (aa [aR m,.int .i64 3]) (mV (cP (nextM m),0)):=by
 have k1:=kU m h hi
 have k2:Con Tryz.prog 141 [az (nextM m).da] (aa [az (nextM m).da]) (.tup [az (cP (nextM m)).da,.int .i64 (bu m.da),.int .i64 0]):=mo h.da h0
 have g:(bu m.da != 0)=true:=bne_iff_ne.2 ht
 have e:cP (nextM m)={nextM m with da:=(cP (nextM m)).da}:=rfl
 rw[e]
 generalize (cP (nextM m)).da=pd at k2
 generalize nextM m=y at k1 k2
 exact rn 86 Tryz.func104 [.cell 4 41,.tmp 5] (g:=go)
theorem Hc(ht:bu m.da=0):Con Tryz.prog 104 [aR m,.int .i64 3] (aa [aR m,.int .i64 3]) (mV (dV (cP (nextM m)) (m.co.getD m.ip.toNat 0))):=by
 have k1:=kU m h hi
 have k2:Con Tryz.prog 141 [az (nextM m).da] (aa [az (nextM m).da]) (.tup [az (cP (nextM m)).da,.int .i64 (bu m.da),.int .i64 0]):=mo h.da h0
 rw[ht]at k2
 have k3:=c143 (cP (nextM m)) (m.co.getD m.ip.toNat 0)
 generalize dV (cP (nextM m)) (m.co.getD m.ip.toNat 0)=x at k3
 have e:cP (nextM m)={nextM m with da:=(cP (nextM m)).da}:=rfl
 rw[e]at k3
 generalize (cP (nextM m)).da=pd at k2 k3
 generalize nextM m=y at k1 k2 k3
 exact rn 86 Tryz.func104 [.cell 4 41,.tmp 5] (g:=go)
end
theorem GT(m:Mch)(h:MI m)(k:Int)(hk:1≤k∧k≤6):Con Tryz.prog 104 [aR m,.int .i64 k] (aa [aR m,.int .i64 k]) (mV (fO false m k)):=by
 by_cases h4:k=4
 ·subst h4
  exact K9 h
 unfold fO
 rw[if_neg h4]
 by_cases hi:(m.co.length:Int)≤m.ip
 ·rw[if_pos hi]
  exact KD h (by simpa using h4) hi
 rw[if_neg hi,if_neg (by decide)]
 have hc:k=1∨k=2∨k=3∨k=5∨k=6:=by omega
 have e0:(nextM m).da=m.da:=rfl
 rcases hc with rfl|rfl|rfl|rfl|rfl
 ·exact Ka h hi
 ·exact KF h hi
 ·by_cases h0:m.da.st.length=0
  ·have e:dv m (nextM m) (m.co.getD m.ip.toNat 0) 3=(m,-4):=by simp[dv,e0,h0]
   rw[e];exact I5 h hi rfl rfl rfl rfl h0
  ·by_cases h1:bu m.da=0
   ·have e:dv m (nextM m) (m.co.getD m.ip.toNat 0) 3=dV (cP (nextM m)) (m.co.getD m.ip.toNat 0):=by simp[dv,e0,h0,h1]
    rw[e];exact Hc h hi h0 h1
   ·have e:dv m (nextM m) (m.co.getD m.ip.toNat 0) 3=(cP (nextM m),0):=by simp[dv,e0,h0,h1]
    rw[e];exact IM h hi h0 h1
 ·exact JF h hi
 ·by_cases h0:m.da.st.length=0
  ·have e:dv m (nextM m) (m.co.getD m.ip.toNat 0) 6=(m,-4):=by simp[dv,e0,h0]
   rw[e];exact I5 h hi rfl rfl rfl rfl h0
  ·have e:dv m (nextM m) (m.co.getD m.ip.toNat 0) 6=dm (cP (nextM m)) (bu m.da) (m.co.getD m.ip.toNat 0):=by simp[dv,e0,h0]
   rw[e];exact J9 h hi h0
end X13

/- Words of flow, a word's kinds, a word runs, by the reference; contracts. -/
open Go Go.Abs Go.Proofs V1 H1 M2 N1 N2 P1 P5 P9 P11 P19 X1 X2 X3 X4 X5 X6 X7 X10 X11 X12 X13
namespace X14
section
variable{m:Mch}
theorem JR(h:m.ca.length=0):Con Tryz.prog 103 [aR m,.int .i64 1] (aa [aR m,.int .i64 1]) (mV (m,-14)):=by
 have g:((((m.ca.map bF).length:Nat):Int)==0)=true:=by rw[List.length_map,h];rfl
 exact rn 110 Tryz.func103 [.cell 4 41,.tmp 5] (g:=go)
theorem KQ(hl:m.ca.length≤16)(h: ¬m.ca.length=0)(hc:(cp m).ca=true):Con Tryz.prog 103 [aR m,.int .i64 1] (aa [aR m,.int .i64 1]) (mV (m,-14)):=by
 have w:=fZ hl
 have g:((((m.ca.map bF).length:Nat):Int)==0)=false:=by rw[List.length_map];simpa using h
 have ra:=eO hl h
 exact rn 110 Tryz.func103 [.cell 4 41,.tmp 5] (g:=go)
theorem Jv(hl:m.ca.length≤16)(h: ¬m.ca.length=0)(hc:(cp m).ca=false)(hf:(m.da.bk.length:Int)≠(cp m).fl):Con Tryz.prog 103 [aR m,.int .i64 1] (aa [aR m,.int .i64 1]) (mV (m,-25)):=by
 have w:=fZ hl
 have g:((((m.ca.map bF).length:Nat):Int)==0)=false:=by rw[List.length_map];simpa using h
 have ra:=eO hl h
 have g2:((((m.da.bk.map aj).length:Nat):Int) != (cp m).fl)=true:=by rw[List.length_map];exact bne_iff_ne.2 hf
 exact rn 110 Tryz.func103 [.cell 4 41,.tmp 5] (g:=go)
theorem Kn(hl:m.ca.length≤16)(h: ¬m.ca.length=0)(hc:(cp m).ca=false)(hf:(m.da.bk.length:Int)=(cp m).fl):Con Tryz.prog 103 [aR m,.int .i64 1] (aa [aR m,.int .i64 1]) (mV (dropC m,0)):=by
 have w:=fZ hl
 have g:((((m.ca.map bF).length:Nat):Int)==0)=false:=by rw[List.length_map];simpa using h
 have ra:=eO hl h
 have g2:((((m.da.bk.map aj).length:Nat):Int) != (cp m).fl)=false:=by rw[List.length_map,hf];exact bne_self_eq_false _
 refine rn 110 Tryz.func103 [.cell 4 41,.tmp 5] (g:= ?_)
 conv=>whnf
 refine aO ?_
 (refine aA ?_;((simp only[List.length_map,mI hl h];rfl)))
variable(h:MI m)
include h
theorem Kq{k:Int}(g:(k==1)=false)(h0:m.da.st.length=0):Con Tryz.prog 103 [aR m,.int .i64 k] (aa [aR m,.int .i64 k]) (mV (m,-4)):=by
 have k1:=EA h.da h0
 exact rn 110 Tryz.func103 [.cell 4 41,.tmp 5] (g:=go)
variable(h0: ¬m.da.st.length=0)
include h0
theorem Jb(ht:bu m.da=0):Con Tryz.prog 103 [aR m,.int .i64 4] (aa [aR m,.int .i64 4]) (mV (cP m,0)):=by
 have k1:=mo h.da h0
 rw[ht]at k1
 exact rn 110 Tryz.func103 [.cell 4 41,.tmp 5] (g:=go)
theorem IL(ht:bu m.da= -101):Con Tryz.prog 103 [aR m,.int .i64 4] (aa [aR m,.int .i64 4]) (mV (m,-24)):=by
 have k1:=mo h.da h0
 rw[ht]at k1
 exact rn 110 Tryz.func103 [.cell 4 41,.tmp 5] (g:=go)
theorem G7(t0:(bu m.da==0)=false)(t1:(bu m.da== -101)=false):Con Tryz.prog 103 [aR m,.int .i64 4] (aa [aR m,.int .i64 4]) (mV (m,bu m.da)):=by
 have k1:=mo h.da h0
 exact rn 110 Tryz.func103 [.cell 4 41,.tmp 5] (g:=go)
theorem Kt{k:Int}(g1:(k==1)=false)(g2:(k==4)=false)(ht:ck m.ws (bu m.da)=false):Con Tryz.prog 103 [aR m,.int .i64 k] (aa [aR m,.int .i64 k]) (mV (m,-24)):=by
 have k1:=mo h.da h0
 have kt:=c23 m.ws (bu m.da) (bv h.ws).2.2
 rw[ht]at kt
 exact rn 110 Tryz.func103 [.cell 4 41,.tmp 5] (g:=go)
variable(ht:ck m.ws (bu m.da)=true)
include ht
theorem JO(r:Mch × Int)(ke:Con Tryz.prog 63 [aR (cP m),.int .i64 (bu m.da)] (aa [aR (cP m),.int .i64 (bu m.da)]) (mV r)):Con Tryz.prog 103 [aR m,.int .i64 2] (aa [aR m,.int .i64 2]) (mV r):=by
 have k1:=mo h.da h0
 have kt:=c23 m.ws (bu m.da) (bv h.ws).2.2
 rw[ht]at kt
 refine rn 110 Tryz.func103 [.cell 4 41,.tmp 5] (g:= ?_)
 conv=>whnf
 refine aO ?_
 (refine ag (ke ..) ?_;conv=>whnf)
 exact go
theorem I0(hc:m.ca.length=16):Con Tryz.prog 103 [aR m,.int .i64 3] (aa [aR m,.int .i64 3]) (mV (cP m,-50)):=by
 have k1:=mo h.da h0
 have kt:=c23 m.ws (bu m.da) (bv h.ws).2.2
 rw[ht]at kt
 have ka:=c106 (cP m) (oI m) h.cl
 rw[rS (show(cP m).ca.length=16 from hc)]at ka
 refine rn 110 Tryz.func103 [.cell 4 41,.tmp 5] (g:= ?_)
 conv=>whnf
 refine aO ?_
 (refine ag (ka ..) ?_;conv=>whnf)
 exact go
theorem HE(hc: ¬m.ca.length=16)(r:Mch × Int)(ke:Con Tryz.prog 63 [aR {cP m with ca:=m.ca++[oI m]},.int .i64 (bu m.da)] (aa [aR {cP m with ca:=m.ca++[oI m]},.int .i64 (bu m.da)]) (mV r)):Con Tryz.prog 103 [aR m,.int .i64 3] (aa [aR m,.int .i64 3]) (mV r):=by
 have k1:=mo h.da h0
 have kt:=c23 m.ws (bu m.da) (bv h.ws).2.2
 rw[ht]at kt
 have ka:=c106 (cP m) (oI m) h.cl
 rw[sw (show ¬(cP m).ca.length=16 from hc)]at ka
 refine rn 110 Tryz.func103 [.cell 4 41,.tmp 5] (g:= ?_)
 conv=>whnf
 repeat' (first|(refine ag (ka ..) ?_;conv=>whnf)|(refine ag (ke ..) ?_;conv=>whnf)|(focus (refine aA ?_;(rfl)))|refine aO ?_)
end
theorem Iz(m:Mch)(h:MI m)(ex:Mch→Int→Mch × Int)(he: ∀m' n',MI m'→m'.fu=m.fu→Con Tryz.prog 63 [aR m',.int .i64 n'] (aa [aR m',.int .i64 n']) (mV (ex m' n')))(k:Int)(hk:1≤k∧k≤4):
  Con Tryz.prog 103 [aR m,.int .i64 k] (aa [aR m,.int .i64 k]) (mV (hJ ex m k)):=by
 have hs:=h.da.st
 by_cases h1:k=1
 ·subst h1
  unfold hJ sf
  rw[if_pos rfl]
  by_cases h2:m.ca.length=0
  ·rw[if_pos h2];exact JR h2
  rw[if_neg h2]
  by_cases h3:(cp m).ca=true
  ·rw[if_pos h3];exact KQ h.cl h2 h3
  rw[if_neg h3]
  rw[Bool.not_eq_true]at h3
  by_cases h4:(m.da.bk.length:Int)≠(cp m).fl
  ·rw[if_pos h4];exact Jv h.cl h2 h3 h4
  ·rw[if_neg h4];exact Kn h.cl h2 h3 (Decidable.not_not.1 h4)
 unfold hJ
 rw[if_neg h1]
 by_cases h0:m.da.st.length=0
 ·rw[if_pos h0];exact Kq h (by simpa using h1) h0
 rw[if_neg h0]
 by_cases h4:k=4
 ·subst h4
  rw[if_pos rfl]
  by_cases t0:bu m.da=0
  ·rw[if_pos t0];exact Jb h h0 t0
  rw[if_neg t0]
  by_cases t1:bu m.da= -101
  ·rw[if_pos t1];exact IL h h0 t1
  ·rw[if_neg t1];exact G7 h h0 (by simpa using t0) (by simpa using t1)
 rw[if_neg h4]
 by_cases ht:ck m.ws (bu m.da)=false
 ·rw[if_pos ht];exact Kt h h0 (by simpa using h1) (by simpa using h4) ht
 rw[if_neg ht]
 rw[Bool.not_eq_false]at ht
 have hk2:k=2∨k=3:=by omega
 rcases hk2 with rfl|rfl
 ·exact JO h h0 ht _ (he _ _ (fV h) rfl)
 ·rw[if_pos rfl]
  by_cases hc:m.ca.length=16
  ·rw[if_pos hc];exact I0 h h0 ht hc
  ·rw[if_neg hc]
   have e:oI m=⟨m.ip,m.da.bk.length,(m.da.st.length:Int)-1,true⟩:=by simp[oI];omega
   have ke:=he {cP m with ca:=m.ca++[oI m]} (bu m.da) (by
    rw[e]
    exact(fV h).addC (by have:=h.cl;show m.ca.length<16;omega) ⟨h.ip,⟨Int.natCast_nonneg _,Int.le_refl _⟩,⟨show(0:Int)≤(m.da.st.length:Int)-1 by omega,show(m.da.st.length:Int)-1≤31 by omega⟩,.inl rfl⟩ h.floor.2) rfl
   have kc:=HE h h0 ht hc _ ke
   rw[e]at kc
   exact kc
section
variable{m:Mch}{n:Int}
theorem Lb(h0:m.fu=0):Con Tryz.prog 63 [aR m,.int .i64 n] (aa [aR m,.int .i64 n]) (mV (m,-101)):=by
 have g:(m.fu==0)=true:=by rw[h0];rfl
 exact rn 128 Tryz.func63 [.cell 4 41,.tmp 5] (g:=go)
variable(h:MI m)(h0:(m.fu==0)=false)
include h h0
theorem JX(hn:bm n 1 m.ws.length=false):Con Tryz.prog 63 [aR m,.int .i64 n] (aa [aR m,.int .i64 n]) (mV (wF m,-24)):=by
 have _:=h
 have k1:=c62 n 1 ((m.ws.map dl).length:Nat)
 rw[show bm n 1 ((m.ws.map dl).length:Nat)=bm n 1 m.ws.length by rw[List.length_map],hn]at k1
 exact rn 128 Tryz.func63 [.cell 4 41,.tmp 5] (g:=go)
variable(hn:bm n 1 m.ws.length=true){nm:List UInt8}{v:Int}
include hn
theorem KU(hx:cT m.ws n=⟨nm,5,v⟩):Con Tryz.prog 63 [aR m,.int .i64 n] (aa [aR m,.int .i64 n]) (mV (wF m,-24)):=by
 have k1:=c62 n 1 ((m.ws.map dl).length:Nat)
 rw[show bm n 1 ((m.ws.map dl).length:Nat)=bm n 1 m.ws.length by rw[List.length_map],hn]at k1
 have hw:=(bv h.ws).2.2
 have i1:=aQ hn
 have w1:IntKind.i64.wrap (n-1)=n-1:=ai (by omega) (by omega)
 have ra:=cF hw hn
 rw[hx]at ra
 exact rn 128 Tryz.func63 [.cell 4 41,.tmp 5] (g:=go)
theorem Ks{p:Nat}(hx:cT m.ws n=⟨nm,1,p⟩)(hv:cu p):Con Tryz.prog 63 [aR m,.int .i64 n] (aa [aR m,.int .i64 n]) (mV (sj TX (wF m) p)):=by
 have k1:=c62 n 1 ((m.ws.map dl).length:Nat)
 rw[show bm n 1 ((m.ws.map dl).length:Nat)=bm n 1 m.ws.length by rw[List.length_map],hn]at k1
 have hw:=(bv h.ws).2.2
 have i1:=aQ hn
 have w1:IntKind.i64.wrap (n-1)=n-1:=ai (by omega) (by omega)
 have ra:=cF hw hn
 rw[hx]at ra
 have kf:=c102 (wF m) h.cl
 have kc:=c101 p hv m.da (bJ (wF m)) h.da h.floor
 have e:sj TX (wF m) p=({wF m with da:=(eE TX p (bJ (wF m)) m.da).1},(eE TX p (bJ (wF m)) m.da).2):=rfl
 rw[e]
 generalize eE TX p (bJ (wF m)) m.da=x at kc
 exact rn 128 Tryz.func63 [.cell 4 41,.tmp 5] (g:=go)
theorem KA(hx:cT m.ws n=⟨nm,4,v⟩)(hv:1≤v∧v≤4):Con Tryz.prog 63 [aR m,.int .i64 n] (aa [aR m,.int .i64 n]) (mV (sn (wF m) v)):=by
 have k1:=c62 n 1 ((m.ws.map dl).length:Nat)
 rw[show bm n 1 ((m.ws.map dl).length:Nat)=bm n 1 m.ws.length by rw[List.length_map],hn]at k1
 have hw:=(bv h.ws).2.2
 have i1:=aQ hn
 have w1:IntKind.i64.wrap (n-1)=n-1:=ai (by omega) (by omega)
 have ra:=cF hw hn
 rw[hx]at ra
 have w2:IntKind.i64.wrap (v-1)=v-1:=ai (by omega) (by omega)
 have kc:=H6.scall m.ho m.da (IntKind.i64.wrap (v-1)) ((gZ _).2 h.ho) ((gQ _).2 h.da) (by rw[w2];simp[bm];omega)
 have e:sn (wF m) v=({wF m with ho:=(bC m.ho m.da (IntKind.i64.wrap (v-1)).toNat).1,da:=(bC m.ho m.da (IntKind.i64.wrap (v-1)).toNat).2.1},(bC m.ho m.da (IntKind.i64.wrap (v-1)).toNat).2.2):=by rw[w2];rfl
 rw[e]
 generalize bC m.ho m.da (IntKind.i64.wrap (v-1)).toNat=x at kc
 exact rn 128 Tryz.func63 [.cell 4 41,.tmp 5] (g:=go)
theorem KK(hx:cT m.ws n=⟨nm,7,v⟩):Con Tryz.prog 63 [aR m,.int .i64 n] (aa [aR m,.int .i64 n]) (mV (bn (wF m) v)):=by
 have k1:=c62 n 1 ((m.ws.map dl).length:Nat)
 rw[show bm n 1 ((m.ws.map dl).length:Nat)=bm n 1 m.ws.length by rw[List.length_map],hn]at k1
 have hw:=(bv h.ws).2.2
 have i1:=aQ hn
 have w1:IntKind.i64.wrap (n-1)=n-1:=ai (by omega) (by omega)
 have ra:=cF hw hn
 rw[hx]at ra
 have kp:=c107 m.da v h.da.st
 have e:bn (wF m) v=({wF m with da:=(fD m.da v).1},(fD m.da v).2):=rfl
 rw[e]
 generalize fD m.da v=x at kp
 exact rn 128 Tryz.func63 [.cell 4 41,.tmp 5] (g:=go)
theorem KE(hx:cT m.ws n=⟨nm,8,v⟩):Con Tryz.prog 63 [aR m,.int .i64 n] (aa [aR m,.int .i64 n]) (mV (bn (wF m) v)):=by
 have k1:=c62 n 1 ((m.ws.map dl).length:Nat)
 rw[show bm n 1 ((m.ws.map dl).length:Nat)=bm n 1 m.ws.length by rw[List.length_map],hn]at k1
 have hw:=(bv h.ws).2.2
 have i1:=aQ hn
 have w1:IntKind.i64.wrap (n-1)=n-1:=ai (by omega) (by omega)
 have ra:=cF hw hn
 rw[hx]at ra
 have kp:=c107 m.da v h.da.st
 have e:bn (wF m) v=({wF m with da:=(fD m.da v).1},(fD m.da v).2):=rfl
 rw[e]
 generalize fD m.da v=x at kp
 exact rn 128 Tryz.func63 [.cell 4 41,.tmp 5] (g:=go)
theorem I7(hx:cT m.ws n=⟨nm,6,v⟩)(hc:m.ca.length=16):Con Tryz.prog 63 [aR m,.int .i64 n] (aa [aR m,.int .i64 n]) (mV (wF m,-50)):=by
 have k1:=c62 n 1 ((m.ws.map dl).length:Nat)
 rw[show bm n 1 ((m.ws.map dl).length:Nat)=bm n 1 m.ws.length by rw[List.length_map],hn]at k1
 have hw:=(bv h.ws).2.2
 have i1:=aQ hn
 have w1:IntKind.i64.wrap (n-1)=n-1:=ai (by omega) (by omega)
 have ra:=cF hw hn
 rw[hx]at ra
 have ka:=c106 (wF m) (rP m) h.cl
 rw[rS (show(wF m).ca.length=16 from hc)]at ka
 refine rn 128 Tryz.func63 [.cell 4 41,.tmp 5] (g:= ?_)
 conv=>whnf
 refine aO ?_
 (refine ag (ka ..) ?_;conv=>whnf)
 exact go
theorem HB(hx:cT m.ws n=⟨nm,6,v⟩)(hc: ¬m.ca.length=16):Con Tryz.prog 63 [aR m,.int .i64 n] (aa [aR m,.int .i64 n]) (mV ({wF m with ca:=m.ca++[rP m],ip:=v},0)):=by
 have k1:=c62 n 1 ((m.ws.map dl).length:Nat)
 rw[show bm n 1 ((m.ws.map dl).length:Nat)=bm n 1 m.ws.length by rw[List.length_map],hn]at k1
 have hw:=(bv h.ws).2.2
 have i1:=aQ hn
 have w1:IntKind.i64.wrap (n-1)=n-1:=ai (by omega) (by omega)
 have ra:=cF hw hn
 rw[hx]at ra
 have ka:=c106 (wF m) (rP m) h.cl
 rw[sw (show ¬(wF m).ca.length=16 from hc)]at ka
 refine rn 128 Tryz.func63 [.cell 4 41,.tmp 5] (g:= ?_)
 conv=>whnf
 refine aO ?_
 (refine ag (ka ..) ?_;conv=>whnf)
 exact go
theorem JE(hx:cT m.ws n=⟨nm,2,v⟩)(r:Mch × Int)(kf:Con Tryz.prog 103 [aR (wF m),.int .i64 v] (aa [aR (wF m),.int .i64 v]) (mV r)):Con Tryz.prog 63 [aR m,.int .i64 n] (aa [aR m,.int .i64 n]) (mV r):=by
 have k1:=c62 n 1 ((m.ws.map dl).length:Nat)
 rw[show bm n 1 ((m.ws.map dl).length:Nat)=bm n 1 m.ws.length by rw[List.length_map],hn]at k1
 have hw:=(bv h.ws).2.2
 have i1:=aQ hn
 have w1:IntKind.i64.wrap (n-1)=n-1:=ai (by omega) (by omega)
 have ra:=cF hw hn
 rw[hx]at ra
 exact rn 128 Tryz.func63 [.cell 4 41,.tmp 5] (g:=go)
theorem Kk(hx:cT m.ws n=⟨nm,3,v⟩)(r:Mch × Int)(kf:Con Tryz.prog 104 [aR (wF m),.int .i64 v] (aa [aR (wF m),.int .i64 v]) (mV r)):Con Tryz.prog 63 [aR m,.int .i64 n] (aa [aR m,.int .i64 n]) (mV r):=by
 have k1:=c62 n 1 ((m.ws.map dl).length:Nat)
 rw[show bm n 1 ((m.ws.map dl).length:Nat)=bm n 1 m.ws.length by rw[List.length_map],hn]at k1
 have hw:=(bv h.ws).2.2
 have i1:=aQ hn
 have w1:IntKind.i64.wrap (n-1)=n-1:=ai (by omega) (by omega)
 have ra:=cF hw hn
 rw[hx]at ra
 exact rn 128 Tryz.func63 [.cell 4 41,.tmp 5] (g:=go)
end
theorem xw: ∀(f:Nat)(m:Mch)(n:Int),MI m→m.fu.toNat=f→Con Tryz.prog 63 [aR m,.int .i64 n] (aa [aR m,.int .i64 n]) (mV (dU TX false f m n))
 |0,m,n,h,hf=>Lb (by have:=h.fu;omega)
 |f+1,m,n,h,hf=>by
  have h00:m.fu≠0:=by omega
  have h0:(m.fu==0)=false:=by simpa using h00
  have hM:MI (wF m):=by rw[←yU h h00];exact h.setFu (by have:=h.fu;omega)
  unfold dU rg
  rw[yU h h00]
  by_cases hn:bm n 1 m.ws.length=false
  ·rw[if_pos hn];exact JX h h0 hn
  rw[if_neg hn]
  rw[Bool.not_eq_false]at hn
  have hw:=sS h.ws hn
  generalize hx:cT (wF m).ws n=x at hw⊢
  obtain⟨nm,k,v⟩:=x
  have hx:cT m.ws n=⟨nm,k,v⟩:=hx
  have hfu:(wF m).fu.toNat=f:=by rw[←yU h h00];show(m.fu-1).toNat=f;omega
  have he: ∀m' n',MI m'→m'.fu=(wF m).fu→Con Tryz.prog 63 [aR m',.int .i64 n'] (aa [aR m',.int .i64 n']) (mV (dU TX false f m' n')):=fun m' n' hm' e=>xw f m' n' hm' (by rw[e];exact hfu)
  unfold oZ
  by_cases k5:k=5
  ·subst k5;exact KU h h0 hn hx
  rw[if_neg (show ¬(⟨nm,k,v⟩:Wd).k=5 from k5)]
  by_cases k1:k=1
  ·subst k1
   have hv:(1≤v∧v≤52)∧n=v:=by simpa[mf,bm]using hw
   obtain⟨p,rfl⟩: ∃p:Nat,v=p:=⟨v.toNat,by omega⟩
   rw[if_pos (show(⟨nm,1,p⟩:Wd).k=1 from rfl)]
   exact Ks h h0 hn hx (by unfold cu;omega)
  rw[if_neg (show ¬(⟨nm,k,v⟩:Wd).k=1 from k1)]
  by_cases k4:k=4
  ·subst k4
   have hv:1≤v∧v≤4:=by simpa[mf,bm]using hw
   exact KA h h0 hn hx hv
  rw[if_neg (show ¬(⟨nm,k,v⟩:Wd).k=4 from k4)]
  by_cases k7:k=7
  ·subst k7;exact KK h h0 hn hx
  by_cases k8:k=8
  ·subst k8;exact KE h h0 hn hx
  rw[if_neg (show ¬((⟨nm,k,v⟩:Wd).k=7∨(⟨nm,k,v⟩:Wd).k=8)from fun e=>e.elim k7 k8)]
  by_cases k6:k=6
  ·subst k6
   rw[if_pos (show(⟨nm,6,v⟩:Wd).k=6 from rfl)]
   unfold vp
   by_cases hc:m.ca.length=16
   ·rw[if_pos (show(wF m).ca.length=16 from hc)];exact I7 h h0 hn hx hc
   ·rw[if_neg (show ¬(wF m).ca.length=16 from hc)]
    have e:rP m=⟨(wF m).ip,(wF m).da.bk.length,0,false⟩:=by simp[rP]
    have k:=HB h h0 hn hx hc
    rw[e]at k
    exact k
  rw[if_neg (show ¬(⟨nm,k,v⟩:Wd).k=6 from k6)]
  by_cases k2:k=2
  ·subst k2
   have hv:(1≤v∧v≤4)∧n=v+52:=by simpa[mf,bm]using hw
   have kf:=Iz (wF m) hM (dU TX false f) he v hv.1
   exact JE h h0 hn hx _ kf
  rw[if_neg (show ¬(⟨nm,k,v⟩:Wd).k=2 from k2)]
  have hv:k=3∧(1≤v∧v≤6)∧n=v+56:=by
   simp only[mf,bm,k5,k1,k4,k7,k8,k6,k2]at hw
   simpa[and_assoc]using hw
  obtain⟨rfl,hv,e⟩:=hv
  have kf:=GT (wF m) hM v hv
  exact Kk h h0 hn hx _ kf
end X14
