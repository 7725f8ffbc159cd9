import Derived.Test.YthfphedhlnoffaaGreatDoorBI
import Derived.Test.YthfphedhlnoffaaGreatDoorBE
/- A machine's small steps, by the reference; contracts. -/
set_option linter.unusedVariables false
set_option maxHeartbeats 4000000
set_option linter.unusedSimpArgs false
set_option maxRecDepth 100000
open Go Go.Abs Go.Proofs V1 H1 M2 N1 N2 X1 X4 X5 X10
namespace X11
theorem qE{α:Type}{f:α→List AV}{n:Nat}{z:List AV}{rows:List (List AV)}{l:List α}(h:rows=l.map f)(hn:n≤1:=by decide):Sh (.own n z rows) (.ro z (l.map f)):=h▸Sh.own_ro hn _ _
theorem c107(d:Dat)(n:Int)(h:d.st.length≤32):Con Tryz.prog 107 [az d,.int .i64 n] (aa [az d,.int .i64 n]) (.tup [az (fp d n).1,.int .i64 (fp d n).2]):=by
 by_cases h0:d.st.length=32
 ·rw[xu h0]
  have g:((((d.st.map aj).length:Nat):Int)==32)=true:=by rw[List.length_map,h0];rfl
  exact rn 20 Tryz.func107 [.cell 4 35,.tmp 5] (g:=go)
 ·rw[sJ h0]
  have g:((((d.st.map aj).length:Nat):Int)==32)=false:=by rw[List.length_map];simp;omega
  refine rn 20 Tryz.func107 [.cell 4 35,.tmp 5] (g:= ?_)
  conv=>whnf
  (iterate 7 ((first|apply ac rfl|refine aK (by(refine decide_eq_false ?_;simp only[List.length_map];omega)) ?_);conv=>whnf));(apply ac (by((first|(simp[ao,AV.plain,am];done)|(simp[ao,AV.plain,am];omega))));conv=>whnf);(iterate 6 ((first|refine ac (by solve|simp only[bc]|fail) ?_|apply ac rfl|refine bW ?_);conv=>whnf));(apply ac (by((first|(simp[ao,AV.plain,am];done)|(simp[ao,AV.plain,am];omega))));conv=>whnf);iterate 14 ((first|refine ac (by solve|simp only[bc]|fail) ?_|apply ac rfl|apply ag rfl|refine bW ?_);conv=>whnf)
  rotate_left
  exact⟨Sh.tup ⟨Sh.agg ⟨qE (by simp[am,aj,List.take_of_length_le]),Sh.refl _,Sh.refl _,Sh.refl _,Sh.refl _,Sh.refl _,trivial⟩,Sh.refl _,trivial⟩⟩
instance:CC 107:=⟨_,@c107⟩
theorem c141(d:Dat)(h:d.st.length≤32):Con Tryz.prog 141 [az d] (aa [az d]) (.tup [az (rk d).1,.int .i64 (rk d).2.1,.int .i64 (rk d).2.2]):=by
 by_cases h0:d.st.length=0
 ·rw[qU h0]
  have g:((((d.st.map aj).length:Nat):Int)==0)=true:=by rw[List.length_map,h0];rfl
  exact rn 29 Tryz.func141 [.cell 2 35,.tmp 3,.tmp 4] (g:=go)
 ·rw[sR h0]
  have g:((((d.st.map aj).length:Nat):Int)==0)=false:=by rw[List.length_map];simpa using h0
  have w1:IntKind.i64.wrap ((d.st.length:Int)-1)=(d.st.length:Int)-1:=ai (by omega) (by omega)
  have w2:((d.st.length:Int)-1).toNat=d.st.length-1:=by omega
  have ra: ∀z,dm (d.st.map aj) (IntKind.i64.wrap ((d.st.length:Int)-1)).toNat z=[.int .i64 (d.st.getD (d.st.length-1) 0)]:=fun z=>by
   rw[w1,w2];exact eI _ _ _ (by omega)
  refine rn 29 Tryz.func141 [.cell 2 35,.tmp 3,.tmp 4] (g:= ?_)
  conv=>whnf
  (iterate 6 ((first|apply ac rfl|refine ac (by refine aO rfl ?_;simp only[cR];omega) ?_|refine ac (by simp only[Bool.and_eq_true,decide_eq_true_eq,List.length_map];omega) ?_|refine aK (by(refine decide_eq_false ?_;simp only[List.length_map];omega)) ?_);conv=>whnf));(refine aD (by(((try simp only[Nat.zero_add,List.length_map]);exact ra _))) ?_;conv=>whnf);(iterate 7 ((first|apply ac rfl|refine ac (by refine aO rfl ?_;simp only[cR];omega) ?_|refine ac (by simp only[Bool.and_eq_true,decide_eq_true_eq,List.length_map];omega) ?_);conv=>whnf));(apply ac (by((first|(simp[ao,AV.plain,am,w1];done)|(simp[ao,AV.plain,am,w1];omega))));conv=>whnf);iterate 15 ((first|refine ac (by solve|simp only[bc]|fail) ?_|apply ac rfl|refine ag (al (by solve|simp[bc]|fail)) ?_|apply ag rfl|refine bW ?_);conv=>whnf)
  rotate_left
  exact⟨Sh.tup ⟨Sh.agg ⟨qE (by simp[am,aj,w1,w2,List.map_take]),Sh.refl _,Sh.refl _,Sh.refl _,Sh.refl _,Sh.refl _,trivial⟩,Sh.refl _,Sh.refl _,trivial⟩⟩
instance:CC 141:=⟨_,@c141⟩
theorem c23(ws:List Wd)(n:Int)(hw:ws.length≤103):Con Tryz.prog 23 [fb ws,.int .i64 n] (aa [fb ws,.int .i64 n]) (.bool (cg ws n)):=by
 have k1:=c62 n 1 ((ws.map dc).length:Nat)
 rw[show bh n 1 ((ws.map dc).length:Nat)=bh n 1 ws.length by rw[List.length_map]]at k1
 by_cases h0:bh n 1 ws.length=true
 ·have ra:=cE hw h0
  have h1:=aN h0
  have w1:IntKind.i64.wrap (n-1)=n-1:=ai (by omega) (by omega)
  rw[h0]at k1
  refine rn 27 Tryz.func23 [.tmp 4] (g:= ?_)
  conv=>whnf
  repeat' (first|(focus (refine aA ?_;(first|(simp_all[cg];done)|(simp_all[cg,bne];done)|(simp_all[cg,bne,Bool.beq_eq_decide_eq];done))))|refine aP ?_|(refine bN ?_ ?_<;>intro hb))
 ·rw[Bool.not_eq_true]at h0
  rw[h0]at k1
  refine rn 27 Tryz.func23 [.tmp 4] (g:= ?_)
  conv=>whnf
  refine aP ?_
  (focus (refine aA ?_;(first|(simp_all[cg];done)|(simp_all[cg,bne];done))))
instance:CC 23:=⟨_,@c23⟩
theorem c102(m:Mch)(h:m.ca.length≤16):Con Tryz.prog 102 [aX m] (aa [aX m]) (.int .i64 (bF m)):=by
 have w1:=fT h
 by_cases h0:m.ca.length=0
 ·have g:decide ((((m.ca.map bK).length:Nat):Int)>0)=false:=by rw[List.length_map,h0];rfl
  rw[yh h0]
  exact rn 16 Tryz.func102 [.tmp 2] (g:=go)
 ·have g:decide ((((m.ca.map bK).length:Nat):Int)>0)=true:=by rw[List.length_map];exact decide_eq_true (by omega)
  have ra:=eG h h0
  rw[xA h0]
  exact rn 16 Tryz.func102 [.tmp 2] (g:=go)
instance:CC 102:=⟨_,@c102⟩
def mV(r:Mch × Int):AV:=.tup [aX r.1,.int .i64 r.2]
theorem c106(m:Mch)(c:Cal)(h:m.ca.length≤16):Con Tryz.prog 106 [aX m,rt c] (aa [aX m,rt c]) (mV (vA m c)):=by
 by_cases h0:m.ca.length=16
 ·rw[sf h0]
  have g:((((m.ca.map bK).length:Nat):Int)==16)=true:=by rw[List.length_map,h0];rfl
  exact rn 20 Tryz.func106 [.cell 4 41,.tmp 5] (g:=go)
 ·rw[ry h0]
  have g:((((m.ca.map bK).length:Nat):Int)==16)=false:=by rw[List.length_map];simp;omega
  refine rn 20 Tryz.func106 [.cell 4 41,.tmp 5] (g:= ?_)
  conv=>whnf
  (iterate 12 ((first|apply ac rfl|refine ChkS.mk (by kernel_rfl) ?_|refine aK (by(refine decide_eq_false ?_;simp only[List.length_map];omega)) ?_);conv=>whnf));(apply ac (by((first|(simp[ao,AV.plain,am];done)|(simp[ao,AV.plain,am];omega))));conv=>whnf);(iterate 9 ((first|refine ac (by solve|simp only[bc]|fail) ?_|apply ac rfl|refine bW ?_|refine ChkS.mk (by kernel_rfl) ?_);conv=>whnf));(apply ac (by((first|(simp[ao,AV.plain,am];done)|(simp[ao,AV.plain,am];omega))));conv=>whnf);iterate 34 ((first|refine ac (by solve|simp only[bc]|fail) ?_|apply ac rfl|apply ag rfl|refine bW ?_|refine ChkS.mk (by kernel_rfl) ?_);conv=>whnf)
  rotate_left
  exact⟨Sh.tup ⟨Sh.agg ⟨Sh.refl _,Sh.refl _,Sh.refl _,Sh.refl _,Sh.refl _,Sh.refl _,Sh.refl _,Sh.refl _,Sh.refl _,Sh.refl _,Sh.refl _,Sh.refl _,Sh.refl _,qE (by simp[am,bK,List.take_of_length_le]),Sh.refl _,Sh.refl _,trivial⟩,Sh.refl _,trivial⟩⟩
instance:CC 106:=⟨_,@c106⟩
theorem c143(m:Mch)(x:Int):Con Tryz.prog 143 [aX m,.int .i64 x] (aa [aX m,.int .i64 x]) (mV (dP m x)):=by
 refine rn 12 Tryz.func143 [.cell 4 41,.tmp 5] (g:= ?_)
 conv=>whnf
 refine aP ?_
 (refine bN ?_ ?_<;>intro hb)
 refine aP ?_
 rotate_left
 refine aP ?_
 rotate_left
 ·exact aA (by rw[um hb];rfl)
 ·exact aA (by rw[tR (by omega)];rfl)
instance:CC 143:=⟨_,@c143⟩
theorem Fq(m:Mch)(h:(m.co.length:Int)≤m.ip):Con Tryz.prog 90 [aX m] (aa [aX m]) (.tup [aX m,.int .i64 0,.bool false]):=
 rn 25 Tryz.func90 [.cell 2 41,.tmp 3,.tmp 4] (g:=go)
theorem mA(m:Mch)(h:MI m)(hi: ¬(m.co.length:Int)≤m.ip):Con Tryz.prog 90 [aX m] (aa [aX m]) (.tup [aX (nextM m),.int .i64 (m.co.getD m.ip.toNat 0),.bool true]):=by
 have ra:=jp h hi
 have hp:=h.ip
 rw[X4.next_w h]
 exact rn 25 Tryz.func90 [.cell 2 41,.tmp 3,.tmp 4] (g:=go)
theorem c25(m:Mch)(h:smallM m):Con Tryz.prog 25 [aX m] (aa [aX m]) (yD m):=by
 have k1:=c65 m.da h.da
 have k2:=c66 m.ho h.ho
 obtain⟨h1,h2,h3,h4,h5⟩:=h
 refine rn 27 Tryz.func25 [.cell 2 41] (g:= ?_)
 conv=>whnf
 refine aP ?_
 rotate_left
 exact⟨Sh.agg ⟨Sh.flat_map (fun _=>rfl) _,Sh.flat_map (fun _=>rfl) _,Sh.refl _,Sh.refl _,Sh.refl _,Sh.refl _,Sh.refl _,Sh.refl _,Sh.refl _,Sh.refl _,Sh.refl _,Sh.refl _,Sh.refl _,Sh.flat_map (fun _=>rfl) _,Sh.refl _,Sh.refl _,trivial⟩⟩
instance:CC 25:=⟨_,@c25⟩
end X11

/- Words of compiled code, by the reference; contracts. -/
open Go Go.Abs Go.Proofs V1 H1 M2 N1 N2 P1 X1 X2 X3 X4 X5 X10 X11
namespace X12
theorem va(n:Int):Con Tryz.prog 174 [.int .i64 n] (aa [.int .i64 n]) (.int .i64 (wc n)):=c174 n
theorem dB{l:List Int}{x:Int}(h:2≤l.length):l.take (l.length-2)++[l.getD (l.length-2) 0,x]=l.set (l.length-1) x:=by
 apply List.ext_getElem
 ·simp only[List.length_append,List.length_take,List.length_cons,List.length_nil,List.length_set];omega
 ·intro i h1 h2
  simp only[List.length_set]at h2
  rw[List.getElem_set]
  by_cases hi:i<l.length-2
  ·rw[List.getElem_append_left (by simp only[List.length_take];omega),List.getElem_take,if_neg (by omega)]
  ·rw[List.getElem_append_right (by simp only[List.length_take];omega)]
   simp only[List.length_take]
   by_cases h3:i=l.length-1
   ·rw[if_pos h3.symm]
    simp only[show i-min (l.length-2) l.length=1 by omega]
    rfl
   ·rw[if_neg (by omega)]
    obtain rfl:i=l.length-2:=by omega
    simp only[show l.length-2-min (l.length-2) l.length=0 by omega]
    simp[show l.length-2<l.length by omega]
theorem mL{f:FuncId}{xs ys:List AV}{K:AV→Prop}{res:AV}(h:Con Tryz.prog f ys (aa ys) res)(e:xs=ys)(k:K res):CallG Tryz.prog f xs K:=by subst e;exact ah h k
theorem Hx{m:Mch}{bk:List Int}{n:Nat}{rows:List (List AV)}(e:rows=bk.map aj)(hn:n≤1:=by decide):Sh (.tup [.agg [fb m.ws,dE m.co,dE m.da.st,.own n zI rows,dE m.da.ce,.int .i64 m.da.he,.int .i64 m.da.ba,.str m.da.ou,pa m.ho.gr,dE m.ho.st,dE m.ho.q,.int .i64 m.ho.tk,ll m.ho.ds,nK m.ca,.int .i64 m.ip,.int .i64 m.fu],.int .i64 0]) (mV ({m with da:={m.da with bk:=bk}},0)):=
 Sh.tup ⟨Sh.agg ⟨Sh.refl _,Sh.refl _,Sh.refl _,qE e hn,Sh.refl _,Sh.refl _,Sh.refl _,Sh.refl _,Sh.refl _,Sh.refl _,Sh.refl _,Sh.refl _,Sh.refl _,Sh.refl _,Sh.refl _,Sh.refl _,trivial⟩,Sh.refl _,trivial⟩
set_option maxHeartbeats 2000000 in
theorem c144(m:Mch)(s x:Int)(h:MI m):Con Tryz.prog 144 [aX m,.int .i64 s,.int .i64 x] (aa [aX m,.int .i64 s,.int .i64 x]) (mV (dg m s x)):=by
 have hb0:=h.da.bk
 have hf0:=h.floor
 have kf:=c102 m h.cl
 have w2:IntKind.i64.wrap ((m.da.bk.length:Int)-2)=(m.da.bk.length:Int)-2:=ai (by omega) (by omega)
 have w1:IntKind.i64.wrap ((m.da.bk.length:Int)-1)=(m.da.bk.length:Int)-1:=ai (by omega) (by omega)
 have wf:IntKind.i64.wrap ((m.da.bk.length:Int)-bF m)=(m.da.bk.length:Int)-bF m:=ai (by omega) (by omega)
 by_cases h2:(m.da.bk.length:Int)-bF m<2
 ·rw[vU h2]
  have g0:decide (IntKind.i64.wrap ((((m.da.bk.map aj).length:Nat):Int)-bF m)<2)=true:=by rw[List.length_map,wf];exact decide_eq_true h2
  exact rn 103 Tryz.func144 [.cell 6 41,.tmp 7] (g:=go)
 have g0:decide (IntKind.i64.wrap ((((m.da.bk.map aj).length:Nat):Int)-bF m)<2)=false:=by rw[List.length_map,wf];exact decide_eq_false h2
 have qa:=iS h.da.cbk (m.da.bk.length-2)
 have qb:=iS h.da.cbk (m.da.bk.length-1)
 have t2:((m.da.bk.length:Int)-2).toNat=m.da.bk.length-2:=by omega
 have ra: ∀z,dm (m.da.bk.map aj) (IntKind.i64.wrap ((m.da.bk.length:Int)-2)).toNat z=[.int .i64 (pj m)]:=fun z=>by
  rw[w2,t2];exact eI _ _ _ (by omega)
 have rb: ∀z,dm (m.da.bk.map aj) (IntKind.i64.wrap ((m.da.bk.length:Int)-1)).toNat z=[.int .i64 (kD m)]:=fun z=>by
  rw[w1,show((m.da.bk.length:Int)-1).toNat=m.da.bk.length-1 by omega];exact eI _ _ _ (by omega)
 have lb:kO s (wc (IntKind.i64.wrap (kD m-pj m))) (wc (IntKind.i64.wrap (wc (IntKind.i64.wrap (kD m-pj m))+s)))=true→dg m s x=({m with da:={m.da with bk:=m.da.bk.take (m.da.bk.length-2)}},0):=fun p=>vV h2 (by simp only[Dp]at p;exact p)
 have lc: ¬kO s (wc (IntKind.i64.wrap (kD m-pj m))) (wc (IntKind.i64.wrap (wc (IntKind.i64.wrap (kD m-pj m))+s)))=true→dg m s x=dP {m with da:={m.da with bk:=m.da.bk.set (m.da.bk.length-1) (wc (IntKind.i64.wrap (kD m+s)))}} x:=fun p=>by rw[Dp];exact vq h2 (by simp only[Dp]at p;exact p)
 have kb:=c143 {m with da:={m.da with bk:=m.da.bk.set (m.da.bk.length-1) (wc (IntKind.i64.wrap (kD m+s)))}} x
 generalize kD m=B at*
 refine rn 103 Tryz.func144 [.cell 6 41,.tmp 7] (g:= ?_)
 conv=>whnf
 have eR: ∀x,am (am (am (m.da.bk.map aj) 0 ((IntKind.i64.wrap (((m.da.bk.map aj).length:Int)-2)).toNat-0)) 0 (am (m.da.bk.map aj) 0 ((IntKind.i64.wrap (((m.da.bk.map aj).length:Int)-2)).toNat-0)).length++am [[AV.int .i64 (pj m)],[AV.int .i64 x]] 0 2) 0 ((am (m.da.bk.map aj) 0 ((IntKind.i64.wrap (((m.da.bk.map aj).length:Int)-2)).toNat-0)).length+(am [[AV.int .i64 (pj m)],[AV.int .i64 x]] 0 2).length)=(m.da.bk.set (m.da.bk.length-1) x).map aj:=fun x=>by
  rw[List.length_map,w2,t2,←dB (by omega),al rfl,al (by rw[List.length_append])]
  simp[am,aj,List.map_take,pj]
 (iterate 32 ((first|apply ac rfl|apply ag rfl|refine aG (fun hf=> ?_)|apply aH|refine ah (kf ..) ?_);conv=>whnf));(refine aK (by(refine decide_eq_false ?_;(try simp only[List.length_map]);omega)) ?_;conv=>whnf);(iterate 11 ((first|apply ac rfl|refine ac (by refine aO rfl ?_;simp only[cR];omega) ?_|refine ac (by simp only[Bool.and_eq_true,decide_eq_true_eq,List.length_map];omega) ?_|refine ChkS.mk (by kernel_rfl) ?_);conv=>whnf));(refine aD (by(((try simp only[Nat.zero_add,List.length_map]);exact rb _))) ?_;conv=>whnf);(iterate 11 ((first|apply ac rfl|refine ac (by refine aO rfl ?_;simp only[cR];omega) ?_|refine ac (by simp only[Bool.and_eq_true,decide_eq_true_eq,List.length_map];omega) ?_|refine ChkS.mk (by kernel_rfl) ?_);conv=>whnf));(refine aD (by(((try simp only[Nat.zero_add,List.length_map]);exact ra _))) ?_;conv=>whnf);(iterate 19 ((first|apply ac rfl|refine ac (by refine aO rfl ?_;simp only[cR];omega) ?_|refine ac (by simp only[Bool.and_eq_true,decide_eq_true_eq,List.length_map];omega) ?_|refine aG (fun hf=> ?_)|refine ChkS.mk (by kernel_rfl) ?_|apply aH|refine ah (va ..) ?_);conv=>whnf));(apply ac (by((first|(simp[ao,AV.plain,am,w2,w1];done)|(simp[ao,AV.plain,am,w2,w1];omega))));conv=>whnf);iterate 44 (first|(refine ac (by solve|simp only[bc]|fail) ?_;(conv=>whnf))|(apply ac rfl;(conv=>whnf))|(refine ag (al (by solve|simp[bc]|fail)) ?_;(conv=>whnf))|(apply ag rfl;(conv=>whnf))|(refine bW ?_;(conv=>whnf))|(apply bH rfl;(conv=>whnf))|(refine ck ?_ ?_<;>intro hb<;>(try simp only[ew]at hb)<;>conv=>whnf))
 rotate_left
 (iterate 2 (apply aK rfl;conv=>whnf));(refine aK (by(refine decide_eq_false ?_;(try simp only[List.length_map]);omega)) ?_;conv=>whnf);(iterate 21 ((first|apply ac rfl|refine ac (by refine aO rfl ?_;simp only[cR];omega) ?_|refine ac (by simp only[Bool.and_eq_true,decide_eq_true_eq,List.length_map];omega) ?_|refine ChkS.mk (by kernel_rfl) ?_|apply aK rfl);conv=>whnf));(refine aD (by(((try simp only[Nat.zero_add,List.length_map]);exact ra _))) ?_;conv=>whnf);(iterate 11 ((first|apply ac rfl|refine ac (by refine aO rfl ?_;simp only[cR];omega) ?_|refine ac (by simp only[Bool.and_eq_true,decide_eq_true_eq,List.length_map];omega) ?_|refine ChkS.mk (by kernel_rfl) ?_);conv=>whnf));(refine aD (by(((try simp only[Nat.zero_add,List.length_map]);exact rb _))) ?_;conv=>whnf);(iterate 12 ((first|refine ac (by solve|simp only[bc]|fail) ?_|apply ac rfl|refine ChkS.mk (by kernel_rfl) ?_|refine ah (va ..) ?_);conv=>whnf));(apply ac (by((first|(simp[ao,AV.plain,am,w2,w1];done)|(simp[ao,AV.plain,am,w2,w1];omega))));conv=>whnf);(iterate 37 ((first|refine ac (by solve|simp only[bc]|fail) ?_|apply ac rfl|apply ag rfl|refine bW ?_|refine aG (fun hf=> ?_)|refine ChkS.mk (by kernel_rfl) ?_|apply aH);conv=>whnf));(focus (refine mL (kb ..) ?_ ?_;(· repeat' (first|(exact eR _;done)|(refine al ?_;simp[bc];done)|exact aW _ _ _ _|apply aY|apply bC|apply bz|apply cm|rfl));conv=>whnf));(iterate 29 ((first|apply ac rfl|apply ag rfl|refine aG (fun hf=> ?_));conv=>whnf));(focus (refine aA ?_;((rw[lc (mt dy.1 (by omega))];first|done|rfl|(simp[mV];done)))));(iterate 5 (apply aK rfl;conv=>whnf));(refine aK (by(refine decide_eq_false ?_;(try simp only[List.length_map]);omega)) ?_;conv=>whnf);(iterate 21 ((first|apply ac rfl|refine ac (by refine aO rfl ?_;simp only[cR];omega) ?_|refine ac (by simp only[Bool.and_eq_true,decide_eq_true_eq,List.length_map];omega) ?_|refine ChkS.mk (by kernel_rfl) ?_|apply aK rfl);conv=>whnf));(refine aD (by(((try simp only[Nat.zero_add,List.length_map]);exact ra _))) ?_;conv=>whnf);(iterate 11 ((first|apply ac rfl|refine ac (by refine aO rfl ?_;simp only[cR];omega) ?_|refine ac (by simp only[Bool.and_eq_true,decide_eq_true_eq,List.length_map];omega) ?_|refine ChkS.mk (by kernel_rfl) ?_);conv=>whnf));(refine aD (by(((try simp only[Nat.zero_add,List.length_map]);exact rb _))) ?_;conv=>whnf);(iterate 12 ((first|refine ac (by solve|simp only[bc]|fail) ?_|apply ac rfl|refine ChkS.mk (by kernel_rfl) ?_|refine ah (va ..) ?_);conv=>whnf));(apply ac (by((first|(simp[ao,AV.plain,am,w2,w1];done)|(simp[ao,AV.plain,am,w2,w1];omega))));conv=>whnf);(iterate 37 ((first|refine ac (by solve|simp only[bc]|fail) ?_|apply ac rfl|apply ag rfl|refine bW ?_|refine aG (fun hf=> ?_)|refine ChkS.mk (by kernel_rfl) ?_|apply aH);conv=>whnf));(focus (refine mL (kb ..) ?_ ?_;(· repeat' (first|(exact eR _;done)|(refine al ?_;simp[bc];done)|exact aW _ _ _ _|apply aY|apply bC|apply bz|apply cm|rfl));conv=>whnf));(iterate 29 ((first|apply ac rfl|apply ag rfl|refine aG (fun hf=> ?_));conv=>whnf));(focus (refine aA ?_;((rw[lc (mt dy.1 (by omega))];first|done|rfl|(simp[mV];done)))));(iterate 8 (apply aK rfl;conv=>whnf));(refine bH (by(refine decide_eq_true ?_;(try simp only[List.length_map]);omega)) ?_;conv=>whnf);iterate 38 (first|(refine ac (by solve|simp only[bc]|fail) ?_;(conv=>whnf))|(apply ac rfl;(conv=>whnf))|(refine ag (al (by solve|simp[bc]|fail)) ?_;(conv=>whnf))|(apply ag rfl;(conv=>whnf))|(apply bH rfl;(conv=>whnf))|(apply aK rfl;(conv=>whnf))|(refine ck ?_ ?_<;>intro hb<;>(try simp only[ew]at hb)<;>conv=>whnf))
 rotate_left
 (iterate 12 ((first|apply ac rfl|refine ac (by refine aO rfl ?_;simp only[cR];omega) ?_|refine ac (by simp only[Bool.and_eq_true,decide_eq_true_eq,List.length_map];omega) ?_|refine ChkS.mk (by kernel_rfl) ?_);conv=>whnf));(refine aD (by(((try simp only[Nat.zero_add,List.length_map]);exact ra _))) ?_;conv=>whnf);(iterate 11 ((first|apply ac rfl|refine ac (by refine aO rfl ?_;simp only[cR];omega) ?_|refine ac (by simp only[Bool.and_eq_true,decide_eq_true_eq,List.length_map];omega) ?_|refine ChkS.mk (by kernel_rfl) ?_);conv=>whnf));(refine aD (by(((try simp only[Nat.zero_add,List.length_map]);exact rb _))) ?_;conv=>whnf);(iterate 12 ((first|refine ac (by solve|simp only[bc]|fail) ?_|apply ac rfl|refine ChkS.mk (by kernel_rfl) ?_|refine ah (va ..) ?_);conv=>whnf));(apply ac (by((first|(simp[ao,AV.plain,am,w2,w1];done)|(simp[ao,AV.plain,am,w2,w1];omega))));conv=>whnf);(iterate 37 ((first|refine ac (by solve|simp only[bc]|fail) ?_|apply ac rfl|apply ag rfl|refine bW ?_|refine aG (fun hf=> ?_)|refine ChkS.mk (by kernel_rfl) ?_|apply aH);conv=>whnf));(focus (refine mL (kb ..) ?_ ?_;(· repeat' (first|(exact eR _;done)|(refine al ?_;simp[bc];done)|exact aW _ _ _ _|apply aY|apply bC|apply bz|apply cm|rfl));conv=>whnf));(iterate 29 ((first|apply ac rfl|apply ag rfl|refine aG (fun hf=> ?_));conv=>whnf));(focus (refine aA ?_;((rw[lc (mt dy.1 (by omega))];first|done|rfl|(simp[mV];done)))));(iterate 16 ((first|apply ac rfl|refine ac (by refine aO rfl ?_;simp only[cR];omega) ?_|refine ac (by simp only[Bool.and_eq_true,decide_eq_true_eq,List.length_map];omega) ?_|refine ChkS.mk (by kernel_rfl) ?_|apply aK rfl);conv=>whnf));(refine aD (by(((try simp only[Nat.zero_add,List.length_map]);exact ra _))) ?_;conv=>whnf);(iterate 11 ((first|apply ac rfl|refine ac (by refine aO rfl ?_;simp only[cR];omega) ?_|refine ac (by simp only[Bool.and_eq_true,decide_eq_true_eq,List.length_map];omega) ?_|refine ChkS.mk (by kernel_rfl) ?_);conv=>whnf));(refine aD (by(((try simp only[Nat.zero_add,List.length_map]);exact rb _))) ?_;conv=>whnf);(iterate 12 ((first|refine ac (by solve|simp only[bc]|fail) ?_|apply ac rfl|refine ChkS.mk (by kernel_rfl) ?_|refine ah (va ..) ?_);conv=>whnf));(apply ac (by((first|(simp[ao,AV.plain,am,w2,w1];done)|(simp[ao,AV.plain,am,w2,w1];omega))));conv=>whnf);(iterate 37 ((first|refine ac (by solve|simp only[bc]|fail) ?_|apply ac rfl|apply ag rfl|refine bW ?_|refine aG (fun hf=> ?_)|refine ChkS.mk (by kernel_rfl) ?_|apply aH);conv=>whnf));(focus (refine mL (kb ..) ?_ ?_;(· repeat' (first|(exact eR _;done)|(refine al ?_;simp[bc];done)|exact aW _ _ _ _|apply aY|apply bC|apply bz|apply cm|rfl));conv=>whnf));(iterate 29 ((first|apply ac rfl|apply ag rfl|refine aG (fun hf=> ?_));conv=>whnf));(focus (refine aA ?_;((rw[lc (mt dy.1 (by omega))];first|done|rfl|(simp[mV];done)))))
 all_goals exact⟨by rw[lb (dy.2 (by omega))];exact Hx (by rw[List.length_map,w2,t2];simp[am,List.map_take])⟩
instance:CC 144:=⟨_,@c144⟩
end X12

/- All words of compiled code, by the reference; the contract. -/
open Go Go.Abs Go.Proofs V1 H1 M2 N1 N2 P1 P11 X1 X2 X3 X4 X5 X10 X11 X12
namespace X13
theorem Hf{l:List Int}(h:2≤l.length):l.drop (l.length-2)=[l.getD (l.length-2) 0,l.getD (l.length-1) 0]:=by
 apply List.ext_getElem
 ·simp only[List.length_drop,List.length_cons,List.length_nil];omega
 ·intro i h1 h2
  simp only[List.length_cons,List.length_nil]at h2
  rw[List.getElem_drop]
  have hi:i=0∨i=1:=by omega
  rcases hi with rfl|rfl
  ·simp[show l.length-2<l.length by omega]
  ·simp[show l.length-1<l.length by omega,show l.length-2+1=l.length-1 by omega]
theorem c142(m:Mch)(h:MI m):Con Tryz.prog 142 [aX m] (aa [aX m]) (mV (gl m)):=by
 have hs:=h.da.st
 have hb:=h.da.bk
 have wb:IntKind.i64.wrap ((m.da.bk.length:Int)+2)=(m.da.bk.length:Int)+2:=ai (by omega) (by omega)
 by_cases h1:m.da.st.length<2
 ·rw[Gf h1]
  exact rn 53 Tryz.func142 [.cell 2 41,.tmp 3] (g:=go)
 by_cases h2:32<m.da.bk.length+2
 ·rw[Gr h1 h2]
  have g2:decide (IntKind.i64.wrap ((((m.da.bk.map aj).length:Nat):Int)+2)>32)=true:=by rw[List.length_map,wb];exact decide_eq_true (by omega)
  exact rn 53 Tryz.func142 [.cell 2 41,.tmp 3] (g:=go)
 rw[GD h1 h2]
 have g2:decide (IntKind.i64.wrap ((((m.da.bk.map aj).length:Nat):Int)+2)>32)=false:=by rw[List.length_map,wb];exact decide_eq_false (by omega)
 have w2:IntKind.i64.wrap ((m.da.st.length:Int)-2)=(m.da.st.length:Int)-2:=ai (by omega) (by omega)
 have w1:IntKind.i64.wrap ((m.da.st.length:Int)-1)=(m.da.st.length:Int)-1:=ai (by omega) (by omega)
 have ra: ∀z,dm (m.da.st.map aj) (IntKind.i64.wrap ((m.da.st.length:Int)-2)).toNat z=[.int .i64 (ia m.da)]:=fun z=>by
  rw[w2,show((m.da.st.length:Int)-2).toNat=m.da.st.length-2 by omega];exact eI _ _ _ (by omega)
 have rb: ∀z,dm (m.da.st.map aj) (IntKind.i64.wrap ((m.da.st.length:Int)-1)).toNat z=[.int .i64 (bp m.da)]:=fun z=>by
  rw[w1,show((m.da.st.length:Int)-1).toNat=m.da.st.length-1 by omega];exact eI _ _ _ (by omega)
 have kp:=mU {m.da with bk:=m.da.bk++m.da.st.drop (m.da.st.length-2)} 2 hs (by omega) (by show(2:Int)≤m.da.st.length;omega)
 rw[gi (by show ¬m.da.st.length-2+0>32;omega),List.append_nil]at kp
 have eR:am (am (m.da.bk.map aj) 0 (m.da.bk.map aj).length++am [[AV.int .i64 (ia m.da)],[AV.int .i64 (bp m.da)]] 0 2) 0 ((m.da.bk.map aj).length+(am [[AV.int .i64 (ia m.da)],[AV.int .i64 (bp m.da)]] 0 2).length)=(m.da.bk++m.da.st.drop (m.da.st.length-2)).map aj:=by
  rw[Hf (by omega),al rfl,al (by rw[List.length_append])]
  simp[am,aj,ia,bp]
 refine rn 53 Tryz.func142 [.cell 2 41,.tmp 3] (g:= ?_)
 conv=>whnf
 repeat' (first|(focus (apply ac (by((first|(simp[ao,AV.plain,am,w2,w1];done)|(simp[ao,AV.plain,am,w2,w1];omega))));conv=>whnf))|(focus (refine mL (kp ..) ?_ ?_;(· repeat' (first|(exact eR;done)|(refine al ?_;simp[bc];done)|exact aW _ _ _ _|apply aY|apply bC|apply bz|apply cm|rfl));conv=>whnf))|(focus (refine aA ?_;(rfl)))|refine aP ?_)
instance:CC 142:=⟨_,@c142⟩
theorem DW{d:Dat}(h:DataOk d)(h0:d.st.length=0):Con Tryz.prog 141 [az d] (aa [az d]) (.tup [az d,.int .i64 0,.int .i64 (-4)]):=by
 have k:=c141 d h.st
 rw[qU h0]at k
 exact k
theorem lS{d:Dat}(h:DataOk d)(h0: ¬d.st.length=0):Con Tryz.prog 141 [az d] (aa [az d]) (.tup [az {d with st:=d.st.take (d.st.length-1)},.int .i64 (bp d),.int .i64 0]):=by
 have k:=c141 d h.st
 rw[sR h0]at k
 exact k
section
variable{m:Mch}(h:MI m)
include h
theorem I4:Con Tryz.prog 104 [aX m,.int .i64 4] (aa [aX m,.int .i64 4]) (mV (gl m)):=by
 have k1:=c142 m h
 generalize gl m=x at k1
 exact rn 86 Tryz.func104 [.cell 4 41,.tmp 5] (g:=go)
theorem Jl{k:Int}(g:(k==4)=false)(hi:(m.co.length:Int)≤m.ip):Con Tryz.prog 104 [aX m,.int .i64 k] (aa [aX m,.int .i64 k]) (mV (m,-24)):=by
 have _:=h
 have k1:=Fq m hi
 exact rn 86 Tryz.func104 [.cell 4 41,.tmp 5] (g:=go)
variable(hi: ¬(m.co.length:Int)≤m.ip)
include hi
theorem Kq:Con Tryz.prog 104 [aX m,.int .i64 1] (aa [aX m,.int .i64 1]) (mV (bi (nextM m) (m.co.getD m.ip.toNat 0))):=by
 have k1:=mA m h hi
 have k2:=c107 (nextM m).da (m.co.getD m.ip.toNat 0) h.da.st
 have e:bi (nextM m) (m.co.getD m.ip.toNat 0)=({nextM m with da:=(fp (nextM m).da (m.co.getD m.ip.toNat 0)).1},(fp (nextM m).da (m.co.getD m.ip.toNat 0)).2):=rfl
 rw[e]
 generalize fp (nextM m).da (m.co.getD m.ip.toNat 0)=x at k2
 generalize nextM m=y at k1 k2
 exact rn 86 Tryz.func104 [.cell 4 41,.tmp 5] (g:=go)
theorem Io:Con Tryz.prog 104 [aX m,.int .i64 2] (aa [aX m,.int .i64 2]) (mV (dP (nextM m) (m.co.getD m.ip.toNat 0))):=by
 have k1:=mA m h hi
 have k2:=c143 (nextM m) (m.co.getD m.ip.toNat 0)
 generalize dP (nextM m) (m.co.getD m.ip.toNat 0)=x at k2
 generalize nextM m=y at k1 k2
 exact rn 86 Tryz.func104 [.cell 4 41,.tmp 5] (g:=go)
theorem Kb:Con Tryz.prog 104 [aX m,.int .i64 5] (aa [aX m,.int .i64 5]) (mV (dg (nextM m) 1 (m.co.getD m.ip.toNat 0))):=by
 have k1:=mA m h hi
 have k2:=c144 (nextM m) 1 (m.co.getD m.ip.toNat 0) (h.nextM (by omega))
 generalize dg (nextM m) 1 (m.co.getD m.ip.toNat 0)=x at k2
 generalize nextM m=y at k1 k2
 exact rn 86 Tryz.func104 [.cell 4 41,.tmp 5] (g:=go)
theorem GC{k:Int}(g1:(k==4)=false)(g2:(k==1)=false)(g3:(k==2)=false)(g4:(k==5)=false)(h0:m.da.st.length=0):Con Tryz.prog 104 [aX m,.int .i64 k] (aa [aX m,.int .i64 k]) (mV (m,-4)):=by
 have k1:=mA m h hi
 have k2:Con Tryz.prog 141 [az (nextM m).da] (aa [az (nextM m).da]) (.tup [az (nextM m).da,.int .i64 0,.int .i64 (-4)]):=DW h.da h0
 generalize nextM m=y at k1 k2
 exact rn 86 Tryz.func104 [.cell 4 41,.tmp 5] (g:=go)
variable(h0: ¬m.da.st.length=0)
include h0
theorem Km:Con Tryz.prog 104 [aX m,.int .i64 6] (aa [aX m,.int .i64 6]) (mV (dg (cH (nextM m)) (bp m.da) (m.co.getD m.ip.toNat 0))):=by
 have k1:=mA m h hi
 have k2:Con Tryz.prog 141 [az (nextM m).da] (aa [az (nextM m).da]) (.tup [az (cH (nextM m)).da,.int .i64 (bp m.da),.int .i64 0]):=lS h.da h0
 have k3:=c144 (cH (nextM m)) (bp m.da) (m.co.getD m.ip.toNat 0) (fU (h.nextM (by omega)))
 generalize dg (cH (nextM m)) (bp m.da) (m.co.getD m.ip.toNat 0)=x at k3
 have e:cH (nextM m)={nextM m with da:=(cH (nextM m)).da}:=rfl
 rw[e]at k3
 generalize (cH (nextM m)).da=pd at k2 k3
 generalize nextM m=y at k1 k2 k3
 exact rn 86 Tryz.func104 [.cell 4 41,.tmp 5] (g:=go)
theorem HW(ht:bp m.da≠0):Con Tryz.prog 104 [aX m,.int .i64 3] (aa [aX m,.int .i64 3]) (mV (cH (nextM m),0)):=by
 have k1:=mA m h hi
 have k2:Con Tryz.prog 141 [az (nextM m).da] (aa [az (nextM m).da]) (.tup [az (cH (nextM m)).da,.int .i64 (bp m.da),.int .i64 0]):=lS h.da h0
 have g:(bp m.da != 0)=true:=bne_iff_ne.2 ht
 have e:cH (nextM m)={nextM m with da:=(cH (nextM m)).da}:=rfl
 rw[e]
 generalize (cH (nextM m)).da=pd at k2
 generalize nextM m=y at k1 k2
 exact rn 86 Tryz.func104 [.cell 4 41,.tmp 5] (g:=go)
theorem GF(ht:bp m.da=0):Con Tryz.prog 104 [aX m,.int .i64 3] (aa [aX m,.int .i64 3]) (mV (dP (cH (nextM m)) (m.co.getD m.ip.toNat 0))):=by
 have k1:=mA m h hi
 have k2:Con Tryz.prog 141 [az (nextM m).da] (aa [az (nextM m).da]) (.tup [az (cH (nextM m)).da,.int .i64 (bp m.da),.int .i64 0]):=lS h.da h0
 rw[ht]at k2
 have k3:=c143 (cH (nextM m)) (m.co.getD m.ip.toNat 0)
 generalize dP (cH (nextM m)) (m.co.getD m.ip.toNat 0)=x at k3
 have e:cH (nextM m)={nextM m with da:=(cH (nextM m)).da}:=rfl
 rw[e]at k3
 generalize (cH (nextM m)).da=pd at k2 k3
 generalize nextM m=y at k1 k2 k3
 exact rn 86 Tryz.func104 [.cell 4 41,.tmp 5] (g:=go)
end
theorem FO(m:Mch)(h:MI m)(k:Int)(hk:1≤k∧k≤6):Con Tryz.prog 104 [aX m,.int .i64 k] (aa [aX m,.int .i64 k]) (mV (fR false m k)):=by
 by_cases h4:k=4
 ·subst h4
  exact I4 h
 unfold fR
 rw[if_neg h4]
 by_cases hi:(m.co.length:Int)≤m.ip
 ·rw[if_pos hi]
  exact Jl h (by simpa using h4) hi
 rw[if_neg hi,if_neg (by decide)]
 have hc:k=1∨k=2∨k=3∨k=5∨k=6:=by omega
 have e0:(nextM m).da=m.da:=rfl
 rcases hc with rfl|rfl|rfl|rfl|rfl
 ·exact Kq h hi
 ·exact Io h hi
 ·by_cases h0:m.da.st.length=0
  ·have e:dl m (nextM m) (m.co.getD m.ip.toNat 0) 3=(m,-4):=by simp[dl,e0,h0]
   rw[e];exact GC h hi rfl rfl rfl rfl h0
  ·by_cases h1:bp m.da=0
   ·have e:dl m (nextM m) (m.co.getD m.ip.toNat 0) 3=dP (cH (nextM m)) (m.co.getD m.ip.toNat 0):=by simp[dl,e0,h0,h1]
    rw[e];exact GF h hi h0 h1
   ·have e:dl m (nextM m) (m.co.getD m.ip.toNat 0) 3=(cH (nextM m),0):=by simp[dl,e0,h0,h1]
    rw[e];exact HW h hi h0 h1
 ·exact Kb h hi
 ·by_cases h0:m.da.st.length=0
  ·have e:dl m (nextM m) (m.co.getD m.ip.toNat 0) 6=(m,-4):=by simp[dl,e0,h0]
   rw[e];exact GC h hi rfl rfl rfl rfl h0
  ·have e:dl m (nextM m) (m.co.getD m.ip.toNat 0) 6=dg (cH (nextM m)) (bp m.da) (m.co.getD m.ip.toNat 0):=by simp[dl,e0,h0]
   rw[e];exact Km h hi h0
end X13

/- Words of flow, a word's kinds, a word runs, by the reference; contracts. -/
open Go Go.Abs Go.Proofs V1 H1 M2 N1 N2 P1 P5 P9 P11 P19 X1 X2 X3 X4 X5 X6 X7 X10 X11 X12 X13
namespace X14
section
variable{m:Mch}
theorem J4(h:m.ca.length=0):Con Tryz.prog 103 [aX m,.int .i64 1] (aa [aX m,.int .i64 1]) (mV (m,-14)):=by
 have g:((((m.ca.map bK).length:Nat):Int)==0)=true:=by rw[List.length_map,h];rfl
 exact rn 110 Tryz.func103 [.cell 4 41,.tmp 5] (g:=go)
theorem JY(hl:m.ca.length≤16)(h: ¬m.ca.length=0)(hc:(cj m).ca=true):Con Tryz.prog 103 [aX m,.int .i64 1] (aa [aX m,.int .i64 1]) (mV (m,-14)):=by
 have w:=fT hl
 have g:((((m.ca.map bK).length:Nat):Int)==0)=false:=by rw[List.length_map];simpa using h
 have ra:=eG hl h
 exact rn 110 Tryz.func103 [.cell 4 41,.tmp 5] (g:=go)
theorem IP(hl:m.ca.length≤16)(h: ¬m.ca.length=0)(hc:(cj m).ca=false)(hf:(m.da.bk.length:Int)≠(cj m).fl):Con Tryz.prog 103 [aX m,.int .i64 1] (aa [aX m,.int .i64 1]) (mV (m,-25)):=by
 have w:=fT hl
 have g:((((m.ca.map bK).length:Nat):Int)==0)=false:=by rw[List.length_map];simpa using h
 have ra:=eG hl h
 have g2:((((m.da.bk.map aj).length:Nat):Int) != (cj m).fl)=true:=by rw[List.length_map];exact bne_iff_ne.2 hf
 exact rn 110 Tryz.func103 [.cell 4 41,.tmp 5] (g:=go)
theorem ID(hl:m.ca.length≤16)(h: ¬m.ca.length=0)(hc:(cj m).ca=false)(hf:(m.da.bk.length:Int)=(cj m).fl):Con Tryz.prog 103 [aX m,.int .i64 1] (aa [aX m,.int .i64 1]) (mV (dropC m,0)):=by
 have w:=fT hl
 have g:((((m.ca.map bK).length:Nat):Int)==0)=false:=by rw[List.length_map];simpa using h
 have ra:=eG hl h
 have g2:((((m.da.bk.map aj).length:Nat):Int) != (cj m).fl)=false:=by rw[List.length_map,hf];exact bne_self_eq_false _
 refine rn 110 Tryz.func103 [.cell 4 41,.tmp 5] (g:= ?_)
 conv=>whnf
 refine aP ?_
 (refine aA ?_;((simp only[List.length_map,mg hl h];rfl)))
variable(h:MI m)
include h
theorem Kc{k:Int}(g:(k==1)=false)(h0:m.da.st.length=0):Con Tryz.prog 103 [aX m,.int .i64 k] (aa [aX m,.int .i64 k]) (mV (m,-4)):=by
 have k1:=DW h.da h0
 exact rn 110 Tryz.func103 [.cell 4 41,.tmp 5] (g:=go)
variable(h0: ¬m.da.st.length=0)
include h0
theorem Hc(ht:bp m.da=0):Con Tryz.prog 103 [aX m,.int .i64 4] (aa [aX m,.int .i64 4]) (mV (cH m,0)):=by
 have k1:=lS h.da h0
 rw[ht]at k1
 exact rn 110 Tryz.func103 [.cell 4 41,.tmp 5] (g:=go)
theorem Gl(ht:bp m.da= -101):Con Tryz.prog 103 [aX m,.int .i64 4] (aa [aX m,.int .i64 4]) (mV (m,-24)):=by
 have k1:=lS h.da h0
 rw[ht]at k1
 exact rn 110 Tryz.func103 [.cell 4 41,.tmp 5] (g:=go)
theorem Hn(t0:(bp m.da==0)=false)(t1:(bp m.da== -101)=false):Con Tryz.prog 103 [aX m,.int .i64 4] (aa [aX m,.int .i64 4]) (mV (m,bp m.da)):=by
 have k1:=lS h.da h0
 exact rn 110 Tryz.func103 [.cell 4 41,.tmp 5] (g:=go)
theorem IO{k:Int}(g1:(k==1)=false)(g2:(k==4)=false)(ht:cg m.ws (bp m.da)=false):Con Tryz.prog 103 [aX m,.int .i64 k] (aa [aX m,.int .i64 k]) (mV (m,-24)):=by
 have k1:=lS h.da h0
 have kt:=c23 m.ws (bp m.da) (bu h.ws).2.2
 rw[ht]at kt
 exact rn 110 Tryz.func103 [.cell 4 41,.tmp 5] (g:=go)
variable(ht:cg m.ws (bp m.da)=true)
include ht
theorem Im(r:Mch × Int)(ke:Con Tryz.prog 63 [aX (cH m),.int .i64 (bp m.da)] (aa [aX (cH m),.int .i64 (bp m.da)]) (mV r)):Con Tryz.prog 103 [aX m,.int .i64 2] (aa [aX m,.int .i64 2]) (mV r):=by
 have k1:=lS h.da h0
 have kt:=c23 m.ws (bp m.da) (bu h.ws).2.2
 rw[ht]at kt
 refine rn 110 Tryz.func103 [.cell 4 41,.tmp 5] (g:= ?_)
 conv=>whnf
 refine aP ?_
 (refine ah (ke ..) ?_;conv=>whnf)
 exact go
theorem Gn(hc:m.ca.length=16):Con Tryz.prog 103 [aX m,.int .i64 3] (aa [aX m,.int .i64 3]) (mV (cH m,-50)):=by
 have k1:=lS h.da h0
 have kt:=c23 m.ws (bp m.da) (bu h.ws).2.2
 rw[ht]at kt
 have ka:=c106 (cH m) (oe m) h.cl
 rw[sf (show(cH m).ca.length=16 from hc)]at ka
 refine rn 110 Tryz.func103 [.cell 4 41,.tmp 5] (g:= ?_)
 conv=>whnf
 refine aP ?_
 (refine ah (ka ..) ?_;conv=>whnf)
 exact go
theorem Ga(hc: ¬m.ca.length=16)(r:Mch × Int)(ke:Con Tryz.prog 63 [aX {cH m with ca:=m.ca++[oe m]},.int .i64 (bp m.da)] (aa [aX {cH m with ca:=m.ca++[oe m]},.int .i64 (bp m.da)]) (mV r)):Con Tryz.prog 103 [aX m,.int .i64 3] (aa [aX m,.int .i64 3]) (mV r):=by
 have k1:=lS h.da h0
 have kt:=c23 m.ws (bp m.da) (bu h.ws).2.2
 rw[ht]at kt
 have ka:=c106 (cH m) (oe m) h.cl
 rw[ry (show ¬(cH m).ca.length=16 from hc)]at ka
 refine rn 110 Tryz.func103 [.cell 4 41,.tmp 5] (g:= ?_)
 conv=>whnf
 repeat' (first|(refine ah (ka ..) ?_;conv=>whnf)|(refine ah (ke ..) ?_;conv=>whnf)|(focus (refine aA ?_;(rfl)))|refine aP ?_)
end
theorem HC(m:Mch)(h:MI m)(ex:Mch→Int→Mch × Int)(he: ∀m' n',MI m'→m'.fu=m.fu→Con Tryz.prog 63 [aX m',.int .i64 n'] (aa [aX m',.int .i64 n']) (mV (ex m' n')))(k:Int)(hk:1≤k∧k≤4):
  Con Tryz.prog 103 [aX m,.int .i64 k] (aa [aX m,.int .i64 k]) (mV (gI ex m k)):=by
 have hs:=h.da.st
 by_cases h1:k=1
 ·subst h1
  unfold gI sh
  rw[if_pos rfl]
  by_cases h2:m.ca.length=0
  ·rw[if_pos h2];exact J4 h2
  rw[if_neg h2]
  by_cases h3:(cj m).ca=true
  ·rw[if_pos h3];exact JY h.cl h2 h3
  rw[if_neg h3]
  rw[Bool.not_eq_true]at h3
  by_cases h4:(m.da.bk.length:Int)≠(cj m).fl
  ·rw[if_pos h4];exact IP h.cl h2 h3 h4
  ·rw[if_neg h4];exact ID h.cl h2 h3 (Decidable.not_not.1 h4)
 unfold gI
 rw[if_neg h1]
 by_cases h0:m.da.st.length=0
 ·rw[if_pos h0];exact Kc h (by simpa using h1) h0
 rw[if_neg h0]
 by_cases h4:k=4
 ·subst h4
  rw[if_pos rfl]
  by_cases t0:bp m.da=0
  ·rw[if_pos t0];exact Hc h h0 t0
  rw[if_neg t0]
  by_cases t1:bp m.da= -101
  ·rw[if_pos t1];exact Gl h h0 t1
  ·rw[if_neg t1];exact Hn h h0 (by simpa using t0) (by simpa using t1)
 rw[if_neg h4]
 by_cases ht:cg m.ws (bp m.da)=false
 ·rw[if_pos ht];exact IO h h0 (by simpa using h1) (by simpa using h4) ht
 rw[if_neg ht]
 rw[Bool.not_eq_false]at ht
 have hk2:k=2∨k=3:=by omega
 rcases hk2 with rfl|rfl
 ·exact Im h h0 ht _ (he _ _ (fU h) rfl)
 ·rw[if_pos rfl]
  by_cases hc:m.ca.length=16
  ·rw[if_pos hc];exact Gn h h0 ht hc
  ·rw[if_neg hc]
   have e:oe m=⟨m.ip,m.da.bk.length,(m.da.st.length:Int)-1,true⟩:=by simp[oe];omega
   have ke:=he {cH m with ca:=m.ca++[oe m]} (bp m.da) (by
    rw[e]
    exact(fU h).addC (by have:=h.cl;show m.ca.length<16;omega) ⟨h.ip,⟨Int.natCast_nonneg _,Int.le_refl _⟩,⟨show(0:Int)≤(m.da.st.length:Int)-1 by omega,show(m.da.st.length:Int)-1≤31 by omega⟩,.inl rfl⟩ h.floor.2) rfl
   have kc:=Ga h h0 ht hc _ ke
   rw[e]at kc
   exact kc
section
variable{m:Mch}{n:Int}
theorem Kd(h0:m.fu=0):Con Tryz.prog 63 [aX m,.int .i64 n] (aa [aX m,.int .i64 n]) (mV (m,-101)):=by
 have g:(m.fu==0)=true:=by rw[h0];rfl
 exact rn 128 Tryz.func63 [.cell 4 41,.tmp 5] (g:=go)
variable(h:MI m)(h0:(m.fu==0)=false)
include h h0
theorem IR(hn:bh n 1 m.ws.length=false):Con Tryz.prog 63 [aX m,.int .i64 n] (aa [aX m,.int .i64 n]) (mV (wF m,-24)):=by
 have _:=h
 have k1:=c62 n 1 ((m.ws.map dc).length:Nat)
 rw[show bh n 1 ((m.ws.map dc).length:Nat)=bh n 1 m.ws.length by rw[List.length_map],hn]at k1
 exact rn 128 Tryz.func63 [.cell 4 41,.tmp 5] (g:=go)
variable(hn:bh n 1 m.ws.length=true){nm:List UInt8}{v:Int}
include hn
theorem J5(hx:cQ m.ws n=⟨nm,5,v⟩):Con Tryz.prog 63 [aX m,.int .i64 n] (aa [aX m,.int .i64 n]) (mV (wF m,-24)):=by
 have k1:=c62 n 1 ((m.ws.map dc).length:Nat)
 rw[show bh n 1 ((m.ws.map dc).length:Nat)=bh n 1 m.ws.length by rw[List.length_map],hn]at k1
 have hw:=(bu h.ws).2.2
 have i1:=aN hn
 have w1:IntKind.i64.wrap (n-1)=n-1:=ai (by omega) (by omega)
 have ra:=cE hw hn
 rw[hx]at ra
 exact rn 128 Tryz.func63 [.cell 4 41,.tmp 5] (g:=go)
theorem Iq{p:Nat}(hx:cQ m.ws n=⟨nm,1,p⟩)(hv:cp p):Con Tryz.prog 63 [aX m,.int .i64 n] (aa [aX m,.int .i64 n]) (mV (rW TX (wF m) p)):=by
 have k1:=c62 n 1 ((m.ws.map dc).length:Nat)
 rw[show bh n 1 ((m.ws.map dc).length:Nat)=bh n 1 m.ws.length by rw[List.length_map],hn]at k1
 have hw:=(bu h.ws).2.2
 have i1:=aN hn
 have w1:IntKind.i64.wrap (n-1)=n-1:=ai (by omega) (by omega)
 have ra:=cE hw hn
 rw[hx]at ra
 have kf:=c102 (wF m) h.cl
 have kc:=c101 p hv m.da (bF (wF m)) h.da h.floor
 have e:rW TX (wF m) p=({wF m with da:=(eo TX p (bF (wF m)) m.da).1},(eo TX p (bF (wF m)) m.da).2):=rfl
 rw[e]
 generalize eo TX p (bF (wF m)) m.da=x at kc
 exact rn 128 Tryz.func63 [.cell 4 41,.tmp 5] (g:=go)
theorem It(hx:cQ m.ws n=⟨nm,4,v⟩)(hv:1≤v∧v≤4):Con Tryz.prog 63 [aX m,.int .i64 n] (aa [aX m,.int .i64 n]) (mV (rL (wF m) v)):=by
 have k1:=c62 n 1 ((m.ws.map dc).length:Nat)
 rw[show bh n 1 ((m.ws.map dc).length:Nat)=bh n 1 m.ws.length by rw[List.length_map],hn]at k1
 have hw:=(bu h.ws).2.2
 have i1:=aN hn
 have w1:IntKind.i64.wrap (n-1)=n-1:=ai (by omega) (by omega)
 have ra:=cE hw hn
 rw[hx]at ra
 have w2:IntKind.i64.wrap (v-1)=v-1:=ai (by omega) (by omega)
 have kc:=H6.scall m.ho m.da (IntKind.i64.wrap (v-1)) ((gV _).2 h.ho) ((gP _).2 h.da) (by rw[w2];simp[bh];omega)
 have e:rL (wF m) v=({wF m with ho:=(bA m.ho m.da (IntKind.i64.wrap (v-1)).toNat).1,da:=(bA m.ho m.da (IntKind.i64.wrap (v-1)).toNat).2.1},(bA m.ho m.da (IntKind.i64.wrap (v-1)).toNat).2.2):=by rw[w2];rfl
 rw[e]
 generalize bA m.ho m.da (IntKind.i64.wrap (v-1)).toNat=x at kc
 exact rn 128 Tryz.func63 [.cell 4 41,.tmp 5] (g:=go)
theorem Iv(hx:cQ m.ws n=⟨nm,7,v⟩):Con Tryz.prog 63 [aX m,.int .i64 n] (aa [aX m,.int .i64 n]) (mV (bi (wF m) v)):=by
 have k1:=c62 n 1 ((m.ws.map dc).length:Nat)
 rw[show bh n 1 ((m.ws.map dc).length:Nat)=bh n 1 m.ws.length by rw[List.length_map],hn]at k1
 have hw:=(bu h.ws).2.2
 have i1:=aN hn
 have w1:IntKind.i64.wrap (n-1)=n-1:=ai (by omega) (by omega)
 have ra:=cE hw hn
 rw[hx]at ra
 have kp:=c107 m.da v h.da.st
 have e:bi (wF m) v=({wF m with da:=(fp m.da v).1},(fp m.da v).2):=rfl
 rw[e]
 generalize fp m.da v=x at kp
 exact rn 128 Tryz.func63 [.cell 4 41,.tmp 5] (g:=go)
theorem Jm(hx:cQ m.ws n=⟨nm,8,v⟩):Con Tryz.prog 63 [aX m,.int .i64 n] (aa [aX m,.int .i64 n]) (mV (bi (wF m) v)):=by
 have k1:=c62 n 1 ((m.ws.map dc).length:Nat)
 rw[show bh n 1 ((m.ws.map dc).length:Nat)=bh n 1 m.ws.length by rw[List.length_map],hn]at k1
 have hw:=(bu h.ws).2.2
 have i1:=aN hn
 have w1:IntKind.i64.wrap (n-1)=n-1:=ai (by omega) (by omega)
 have ra:=cE hw hn
 rw[hx]at ra
 have kp:=c107 m.da v h.da.st
 have e:bi (wF m) v=({wF m with da:=(fp m.da v).1},(fp m.da v).2):=rfl
 rw[e]
 generalize fp m.da v=x at kp
 exact rn 128 Tryz.func63 [.cell 4 41,.tmp 5] (g:=go)
theorem HQ(hx:cQ m.ws n=⟨nm,6,v⟩)(hc:m.ca.length=16):Con Tryz.prog 63 [aX m,.int .i64 n] (aa [aX m,.int .i64 n]) (mV (wF m,-50)):=by
 have k1:=c62 n 1 ((m.ws.map dc).length:Nat)
 rw[show bh n 1 ((m.ws.map dc).length:Nat)=bh n 1 m.ws.length by rw[List.length_map],hn]at k1
 have hw:=(bu h.ws).2.2
 have i1:=aN hn
 have w1:IntKind.i64.wrap (n-1)=n-1:=ai (by omega) (by omega)
 have ra:=cE hw hn
 rw[hx]at ra
 have ka:=c106 (wF m) (rq m) h.cl
 rw[sf (show(wF m).ca.length=16 from hc)]at ka
 refine rn 128 Tryz.func63 [.cell 4 41,.tmp 5] (g:= ?_)
 conv=>whnf
 refine aP ?_
 (refine ah (ka ..) ?_;conv=>whnf)
 exact go
theorem Hh(hx:cQ m.ws n=⟨nm,6,v⟩)(hc: ¬m.ca.length=16):Con Tryz.prog 63 [aX m,.int .i64 n] (aa [aX m,.int .i64 n]) (mV ({wF m with ca:=m.ca++[rq m],ip:=v},0)):=by
 have k1:=c62 n 1 ((m.ws.map dc).length:Nat)
 rw[show bh n 1 ((m.ws.map dc).length:Nat)=bh n 1 m.ws.length by rw[List.length_map],hn]at k1
 have hw:=(bu h.ws).2.2
 have i1:=aN hn
 have w1:IntKind.i64.wrap (n-1)=n-1:=ai (by omega) (by omega)
 have ra:=cE hw hn
 rw[hx]at ra
 have ka:=c106 (wF m) (rq m) h.cl
 rw[ry (show ¬(wF m).ca.length=16 from hc)]at ka
 refine rn 128 Tryz.func63 [.cell 4 41,.tmp 5] (g:= ?_)
 conv=>whnf
 refine aP ?_
 (refine ah (ka ..) ?_;conv=>whnf)
 exact go
theorem IM(hx:cQ m.ws n=⟨nm,2,v⟩)(r:Mch × Int)(kf:Con Tryz.prog 103 [aX (wF m),.int .i64 v] (aa [aX (wF m),.int .i64 v]) (mV r)):Con Tryz.prog 63 [aX m,.int .i64 n] (aa [aX m,.int .i64 n]) (mV r):=by
 have k1:=c62 n 1 ((m.ws.map dc).length:Nat)
 rw[show bh n 1 ((m.ws.map dc).length:Nat)=bh n 1 m.ws.length by rw[List.length_map],hn]at k1
 have hw:=(bu h.ws).2.2
 have i1:=aN hn
 have w1:IntKind.i64.wrap (n-1)=n-1:=ai (by omega) (by omega)
 have ra:=cE hw hn
 rw[hx]at ra
 exact rn 128 Tryz.func63 [.cell 4 41,.tmp 5] (g:=go)
theorem J2(hx:cQ m.ws n=⟨nm,3,v⟩)(r:Mch × Int)(kf:Con Tryz.prog 104 [aX (wF m),.int .i64 v] (aa [aX (wF m),.int .i64 v]) (mV r)):Con Tryz.prog 63 [aX m,.int .i64 n] (aa [aX m,.int .i64 n]) (mV r):=by
 have k1:=c62 n 1 ((m.ws.map dc).length:Nat)
 rw[show bh n 1 ((m.ws.map dc).length:Nat)=bh n 1 m.ws.length by rw[List.length_map],hn]at k1
 have hw:=(bu h.ws).2.2
 have i1:=aN hn
 have w1:IntKind.i64.wrap (n-1)=n-1:=ai (by omega) (by omega)
 have ra:=cE hw hn
 rw[hx]at ra
 exact rn 128 Tryz.func63 [.cell 4 41,.tmp 5] (g:=go)
end
theorem DK: ∀(f:Nat)(m:Mch)(n:Int),MI m→m.fu.toNat=f→Con Tryz.prog 63 [aX m,.int .i64 n] (aa [aX m,.int .i64 n]) (mV (dX TX false f m n))
 |0,m,n,h,hf=>Kd (by have:=h.fu;omega)
 |f+1,m,n,h,hf=>by
  have h00:m.fu≠0:=by omega
  have h0:(m.fu==0)=false:=by simpa using h00
  have hM:MI (wF m):=by rw[←yw h h00];exact h.setFu (by have:=h.fu;omega)
  unfold dX pJ
  rw[yw h h00]
  by_cases hn:bh n 1 m.ws.length=false
  ·rw[if_pos hn];exact IR h h0 hn
  rw[if_neg hn]
  rw[Bool.not_eq_false]at hn
  have hw:=sq h.ws hn
  generalize hx:cQ (wF m).ws n=x at hw⊢
  obtain⟨nm,k,v⟩:=x
  have hx:cQ m.ws n=⟨nm,k,v⟩:=hx
  have hfu:(wF m).fu.toNat=f:=by rw[←yw h h00];show(m.fu-1).toNat=f;omega
  have he: ∀m' n',MI m'→m'.fu=(wF m).fu→Con Tryz.prog 63 [aX m',.int .i64 n'] (aa [aX m',.int .i64 n']) (mV (dX TX false f m' n')):=fun m' n' hm' e=>DK f m' n' hm' (by rw[e];exact hfu)
  unfold oT
  by_cases k5:k=5
  ·subst k5;exact J5 h h0 hn hx
  rw[if_neg (show ¬(⟨nm,k,v⟩:Wd).k=5 from k5)]
  by_cases k1:k=1
  ·subst k1
   have hv:(1≤v∧v≤52)∧n=v:=by simpa[lI,bh]using hw
   obtain⟨p,rfl⟩: ∃p:Nat,v=p:=⟨v.toNat,by omega⟩
   rw[if_pos (show(⟨nm,1,p⟩:Wd).k=1 from rfl)]
   exact Iq h h0 hn hx (by unfold cp;omega)
  rw[if_neg (show ¬(⟨nm,k,v⟩:Wd).k=1 from k1)]
  by_cases k4:k=4
  ·subst k4
   have hv:1≤v∧v≤4:=by simpa[lI,bh]using hw
   exact It h h0 hn hx hv
  rw[if_neg (show ¬(⟨nm,k,v⟩:Wd).k=4 from k4)]
  by_cases k7:k=7
  ·subst k7;exact Iv h h0 hn hx
  by_cases k8:k=8
  ·subst k8;exact Jm h h0 hn hx
  rw[if_neg (show ¬((⟨nm,k,v⟩:Wd).k=7∨(⟨nm,k,v⟩:Wd).k=8)from fun e=>e.elim k7 k8)]
  by_cases k6:k=6
  ·subst k6
   rw[if_pos (show(⟨nm,6,v⟩:Wd).k=6 from rfl)]
   unfold uy
   by_cases hc:m.ca.length=16
   ·rw[if_pos (show(wF m).ca.length=16 from hc)];exact HQ h h0 hn hx hc
   ·rw[if_neg (show ¬(wF m).ca.length=16 from hc)]
    have e:rq m=⟨(wF m).ip,(wF m).da.bk.length,0,false⟩:=by simp[rq]
    have k:=Hh h h0 hn hx hc
    rw[e]at k
    exact k
  rw[if_neg (show ¬(⟨nm,k,v⟩:Wd).k=6 from k6)]
  by_cases k2:k=2
  ·subst k2
   have hv:(1≤v∧v≤4)∧n=v+52:=by simpa[lI,bh]using hw
   have kf:=HC (wF m) hM (dX TX false f) he v hv.1
   exact IM h h0 hn hx _ kf
  rw[if_neg (show ¬(⟨nm,k,v⟩:Wd).k=2 from k2)]
  have hv:k=3∧(1≤v∧v≤6)∧n=v+56:=by
   simp only[lI,bh,k5,k1,k4,k7,k8,k6,k2]at hw
   simpa[and_assoc]using hw
  obtain⟨rfl,hv,e⟩:=hv
  have kf:=FO (wF m) hM v hv
  exact J2 h h0 hn hx _ kf
end X14
