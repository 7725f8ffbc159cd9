import Derived.Test.YthfphedhlnoffaaGreatDoorBE
import Derived.Test.YthfphedhlnoffaaGreatDoorBF
import Derived.Test.YthfphedhlnoffaaGreatDoorBG
import Derived.Test.YthfphedhlnoffaaGreatDoorBC
/- A machine's small steps, by the program; contracts. -/
set_option linter.unusedVariables false
set_option maxHeartbeats 4000000
set_option linter.unusedSimpArgs false
set_option maxRecDepth 100000
open Go Go.Abs Go.Proofs V1 H1 H2 K1 K2 K3 K4 M1 M2 N1
namespace X1
theorem mg{m:Mch}(h:m.ca.length≤16)(h0: ¬m.ca.length=0):(IntKind.i64.wrap ((m.ca.length:Int)-1)).toNat=m.ca.length-1:=by rw[ai (by omega) (by omega)];omega
theorem fT{m:Mch}(h:m.ca.length≤16):IntKind.i64.wrap ((m.ca.length:Int)-1)=(m.ca.length:Int)-1:=ai (by omega) (by omega)
theorem yh{m:Mch}(h:m.ca.length=0):bF m=0:=by rw[bF,if_pos h]
theorem xA{m:Mch}(h: ¬m.ca.length=0):bF m=(cj m).fl:=by rw[bF,if_neg h]
theorem c112(m:Mch)(h:m.ca.length≤16):Con Tryz.prog 112 [.obj (aR m)] [.obj (aR m)] (.int .i64 (bF m)):=by
 have w1:=fT h
 refine rp 22 Tryz.func112 [.tmp 2] (g:= ?_)
 conv=>whnf
 repeat' (first|(refine aD (by((try simp only[Int.toNat_natCast]);exact aF bK _ _ _ default (by first|omega|(simp;omega)))) ?_;conv=>whnf)|(focus (refine aq (by rfl) ?_;conv=>whnf))|(focus (refine aq (by((rw[yh (by omega)];first|done|rfl|(simp[aR,cj,mg h (by omega)];done)))) ?_;conv=>whnf))|(focus (refine aq (by((rw[xA (by omega)];first|done|rfl|(simp[aR,cj,mg h (by omega)];done)))) ?_;conv=>whnf))|exact True.intro|refine bJ ?_|refine ie ?_|(refine bN ?_ ?_<;>intro hb))
instance:CC 112:=⟨_,@c112⟩
theorem um{m:Mch}{x:Int}(h:x<0):dP m x=(m,-24):=by rw[dP,if_pos h]
theorem tR{m:Mch}{x:Int}(h: ¬x<0):dP m x=({m with ip:=x},0):=by rw[dP,if_neg h]
theorem c157(m:Mch)(x:Int):Con Tryz.prog 157 [.obj (aR m),.int .i64 x] [.obj (aR (dP m x).1),.undef] (.int .i64 (dP m x).2):=by
 refine rp 11 Tryz.func157 [.tmp 4] (g:= ?_)
 conv=>whnf
 repeat' (first|(focus (refine aq (by((rw[um (by omega)];first|done|rfl|(simp[aR];done)))) ?_;conv=>whnf))|(focus (refine aq (by((rw[tR (by omega)];first|done|rfl|(simp[aR];done)))) ?_;conv=>whnf))|exact True.intro|refine aP ?_|(refine bN ?_ ?_<;>intro hb))
instance:CC 157:=⟨_,@c157⟩
def vA(m:Mch)(c:Cal):Mch × Int:=if m.ca.length=16 then(m,-50)else({m with ca:=m.ca++[c]},0)
theorem sf{m:Mch}{c:Cal}(h:m.ca.length=16):vA m c=(m,-50):=by rw[vA,if_pos h]
theorem ry{m:Mch}{c:Cal}(h: ¬m.ca.length=16):vA m c=({m with ca:=m.ca++[c]},0):=by rw[vA,if_neg h]
theorem c117(m:Mch)(c:Cal)(h:m.ca.length≤16):Con Tryz.prog 117 [.obj (aR m),rt c] [.obj (aR (vA m c).1),.undef] (.int .i64 (vA m c).2):=by
 refine rp 21 Tryz.func117 [.tmp 4] (g:= ?_)
 conv=>whnf
 repeat' (first|(focus (refine aq (by((rw[sf (by omega)];first|done|rfl|(simp[aR,dH,dz,aU,bn,bm,bK,am,List.take_of_length_le,List.map_append];done)))) ?_;conv=>whnf))|(focus (refine aq (by((rw[ry (by omega)];first|done|rfl|(simp[aR,dH,dz,aU,bn,bm,bK,am,List.take_of_length_le,List.map_append];done)))) ?_;conv=>whnf))|exact True.intro|refine aP ?_|(refine bN ?_ ?_<;>intro hb))
instance:CC 117:=⟨_,@c117⟩
theorem c79(m:Mch)(h:m.ca.length≤16)(h0: ¬m.ca.length=0):Con Tryz.prog 79 [.obj (aR m)] [.obj (aR (dropC m))] (.tup []):=by
 have w1:=fT h
 have w:=mg h h0
 refine rp 29 Tryz.func79 [] (g:= ?_)
 conv=>whnf
 repeat' (first|(refine aD (by((try simp only[Int.toNat_natCast]);exact aF bK _ _ _ default (by first|omega|(simp;omega)))) ?_;conv=>whnf)|(focus (refine aq (by rfl) ?_;conv=>whnf))|(focus (refine aq (by solve|simp[aR,dropC,cj,dH,dz,aU,bn,bm,bK,w,am,List.map_take]|fail) ?_;conv=>whnf))|exact True.intro|refine bJ ?_|refine ie ?_)
instance:CC 79:=⟨_,@c79⟩
end X1

/- Loops, by the program; contracts. -/
open Go Go.Abs Go.Proofs V1 H1 F1 F2 T1 T2 T3 P1 P2 P5 H2 N1 X1
namespace X2
theorem Dp(n:Int):wc (IntKind.i64.wrap n)=wc n:=kM (pn _)
theorem oY(n:Int):Con Tryz.prog 165 [.int .i64 n] (aa [.int .i64 n]) (.int .i64 (wc n)):=c165 n
theorem vU{m:Mch}{s x:Int}(h:(m.da.bk.length:Int)-bF m<2):dg m s x=(m,-6):=by rw[dg,if_pos h]
theorem vV{m:Mch}{s x:Int}(h: ¬(m.da.bk.length:Int)-bF m<2)(h2:kO s (wc (kD m-pj m)) (wc (wc (kD m-pj m)+s))=true):dg m s x=({m with da:={m.da with bk:=m.da.bk.take (m.da.bk.length-2)}},0):=by rw[dg,if_neg h,if_pos h2]
theorem vq{m:Mch}{s x:Int}(h: ¬(m.da.bk.length:Int)-bF m<2)(h2: ¬kO s (wc (kD m-pj m)) (wc (wc (kD m-pj m)+s))=true):dg m s x=dP {m with da:={m.da with bk:=m.da.bk.set (m.da.bk.length-1) (wc (kD m+s))}} x:=by rw[dg,if_neg h,if_neg h2]
theorem dy{s d e:Int}:kO s d e=true↔(0≤s∧d<0∧0≤e)∨(s<0∧0≤d∧e<0):=by simp[kO,and_assoc]
theorem iS{l:List Int}(h:aL l=true)(i:Nat): -2147483648≤l.getD i 0∧l.getD i 0≤2147483647:=by
 by_cases hi:i<l.length
 ·have:=List.all_eq_true.1 h l[i] (List.getElem_mem hi)
  rw[show l.getD i 0=l[i] by simp[hi]]
  exact aN this
 ·rw[show l.getD i 0=0 by simp[hi]];omega
theorem Hs(m:Mch)(x:Int)(h:MI m):Con Tryz.prog 158 [.obj (aR m),.int .i64 61,.int .i64 x] [.obj (aR (dg m 1 x).1),.undef,.undef] (.int .i64 (dg m 1 x).2):=by
 have hb0:=h.da.bk
 have hf0:=h.floor
 have kf:=c112 m h.cl
 have w2:IntKind.i64.wrap ((m.da.bk.length:Int)-2)=(m.da.bk.length:Int)-2:=ai (by omega) (by omega)
 have w1:IntKind.i64.wrap ((m.da.bk.length:Int)-1)=(m.da.bk.length:Int)-1:=ai (by omega) (by omega)
 have wf:IntKind.i64.wrap ((m.da.bk.length:Int)-bF m)=(m.da.bk.length:Int)-bF m:=ai (by omega) (by omega)
 by_cases h2:(m.da.bk.length:Int)-bF m<2
 ·rw[vU h2]
  have g0:decide (IntKind.i64.wrap ((((m.da.bk.map aj).length:Nat):Int)-bF m)<2)=true:=by rw[List.length_map,wf];exact decide_eq_true h2
  refine rp 106 Tryz.func158 [.tmp 6] (g:= ?_)
  conv=>whnf
  repeat' (first|(refine ay 112 [some 16] ?_;conv=>whnf)|(focus (apply bj (f:=112);(· repeat' (first|(simp only[List.length_map,Nat.zero_add];rewrite[eS];refine al ?_;simp;done)|(refine al ?_;simp[bc];done)|exact aW _ _ _ _|apply aY|apply bO|apply bC|apply bz|apply cm|apply cB|apply bM|rfl));refine bx (f:=112) rfl (kf ..) ?_;conv=>whnf))|(focus (refine aq (by rfl) ?_;conv=>whnf))|exact True.intro|refine aP ?_)
  all_goals skip
 have g0:decide (IntKind.i64.wrap ((((m.da.bk.map aj).length:Nat):Int)-bF m)<2)=false:=by rw[List.length_map,wf];exact decide_eq_false h2
 have qa:=iS h.da.cbk (m.da.bk.length-2)
 have qb:=iS h.da.cbk (m.da.bk.length-1)
 have ra: ∀z,dm (m.da.bk.map aj) (IntKind.i64.wrap ((m.da.bk.length:Int)-2)).toNat z=[.int .i64 (pj m)]:=fun z=>by
  rw[w2,show((m.da.bk.length:Int)-2).toNat=m.da.bk.length-2 by omega];exact eI _ _ _ (by omega)
 have rb: ∀z,dm (m.da.bk.map aj) (IntKind.i64.wrap ((m.da.bk.length:Int)-1)).toNat z=[.int .i64 (kD m)]:=fun z=>by
  rw[w1,show((m.da.bk.length:Int)-1).toNat=m.da.bk.length-1 by omega];exact eI _ _ _ (by omega)
 have lb:kO 1 (wc (IntKind.i64.wrap (kD m-pj m))) (wc (IntKind.i64.wrap (wc (IntKind.i64.wrap (kD m-pj m))+1)))=true→dg m 1 x=({m with da:={m.da with bk:=m.da.bk.take (m.da.bk.length-2)}},0):=fun p=>vV h2 (by simp only[Dp]at p;exact p)
 have lc: ¬kO 1 (wc (IntKind.i64.wrap (kD m-pj m))) (wc (IntKind.i64.wrap (wc (IntKind.i64.wrap (kD m-pj m))+1)))=true→dg m 1 x=dP {m with da:={m.da with bk:=m.da.bk.set (m.da.bk.length-1) (wc (IntKind.i64.wrap (kD m+1)))}} x:=fun p=>by rw[Dp];exact vq h2 (by simp only[Dp]at p;exact p)
 have eS: ∀z,be (m.da.bk.map aj) (IntKind.i64.wrap ((m.da.bk.length:Int)-1)).toNat 0 z [.int .i64 (wc (IntKind.i64.wrap (kD m+1)))]=(m.da.bk.set (m.da.bk.length-1) (wc (IntKind.i64.wrap (kD m+1)))).map aj:=fun z=>by
  rw[w1,show((m.da.bk.length:Int)-1).toNat=m.da.bk.length-1 by omega];exact gL _ _ _ _ (by omega)
 have kd:=c152 m.da 2 hb0 (by omega)
 have kb:=c157 {m with da:={m.da with bk:=m.da.bk.set (m.da.bk.length-1) (wc (IntKind.i64.wrap (kD m+1)))}} x
 refine rp 106 Tryz.func158 [.tmp 6] (g:= ?_)
 conv=>whnf
 (iterate 5 ((first|apply ac rfl|apply aK rfl|refine ay 112 [some 16] ?_);conv=>whnf));(focus (apply bj (f:=112);(· repeat' (first|(simp only[List.length_map,Nat.zero_add];rewrite[eS];refine al ?_;simp;done)|(refine al ?_;simp[bc];done)|exact aW _ _ _ _|apply aY|apply bO|apply bC|apply bz|apply cm|apply cB|apply bM|rfl));refine bx (f:=112) rfl (kf ..) ?_;conv=>whnf));(iterate 43 ((first|refine ac (by solve|simp only[bc]|fail) ?_|apply ac rfl|refine ac (by refine aO rfl ?_;simp only[cR];omega) ?_|refine ac (by simp only[Bool.and_eq_true,decide_eq_true_eq,List.length_map];omega) ?_|refine aD (by((simp only[List.length_map,Nat.zero_add];exact ra _))) ?_|refine aD (by((simp only[List.length_map,Nat.zero_add];exact rb _))) ?_|refine aG (fun hf=> ?_)|refine ChkS.mk (by kernel_rfl) ?_|refine aK (by assumption) ?_|apply aH|refine ah (oY ..) ?_);conv=>whnf));(iterate 16 (first|(apply ac rfl;(conv=>whnf))|(apply bH rfl;(conv=>whnf))|(refine ck ?_ ?_<;>intro hb<;>(try simp only[ew]at hb)<;>conv=>whnf)|(refine ay 152 [some 6,none] ?_;(conv=>whnf))));(focus (apply bj (f:=152);(· repeat' (first|(simp only[List.length_map,Nat.zero_add];rewrite[eS];refine al ?_;simp;done)|(refine al ?_;simp[bc];done)|exact aW _ _ _ _|apply aY|apply bO|apply bC|apply bz|apply cm|apply cB|apply bM|rfl));refine bx (f:=152) rfl (kd ..) ?_;conv=>whnf));(apply ac rfl;conv=>whnf);(focus (refine aq (by((rw[lb (dy.2 (by omega))];first|done|rfl|(simp[aR,aw];done)))) ?_;conv=>whnf));(iterate 10 (apply ag (al (by simp[bc]));conv=>whnf));(focus (refine aq (by((rw[lb (dy.2 (by omega))];first|done|rfl|(simp[aR,aw];done)))) ?_;conv=>whnf));(iterate 39 (first|(refine ac (by solve|simp only[bc]|fail) ?_;(conv=>whnf))|(apply ac rfl;(conv=>whnf))|(refine ac (by refine aO rfl ?_;simp only[cR];omega) ?_;(conv=>whnf))|(refine ac (by simp only[Bool.and_eq_true,decide_eq_true_eq,List.length_map];omega) ?_;(conv=>whnf))|(apply ag rfl;(conv=>whnf))|(refine aG (fun hf=> ?_);(conv=>whnf))|(refine ChkS.mk (by kernel_rfl) ?_;(conv=>whnf))|(apply aK rfl;(conv=>whnf))|(refine ay 157 [some 16,none] ?_;(conv=>whnf))|(refine ah (oY ..) ?_;(conv=>whnf))|(exact True.intro)));(focus (apply bj (f:=157);(· repeat' (first|(simp only[List.length_map,Nat.zero_add];rewrite[eS];refine al ?_;simp;done)|(refine al ?_;simp[bc];done)|exact aW _ _ _ _|apply aY|apply bO|apply bC|apply bz|apply cm|apply cB|apply bM|rfl));refine bx (f:=157) rfl (kb ..) ?_;conv=>whnf));(refine aG (fun hf=> ?_);conv=>whnf);(apply ac rfl;conv=>whnf);(focus (refine aq (by((rw[lc (mt dy.1 (by omega))];first|done|rfl|(simp[aR,aw];done)))) ?_;conv=>whnf));(iterate 10 (apply ag (al (by simp[bc]));conv=>whnf));(focus (refine aq (by((rw[lc (mt dy.1 (by omega))];first|done|rfl|(simp[aR,aw];done)))) ?_;conv=>whnf));(iterate 42 (first|(refine ac (by solve|simp only[bc]|fail) ?_;(conv=>whnf))|(apply ac rfl;(conv=>whnf))|(refine ac (by refine aO rfl ?_;simp only[cR];omega) ?_;(conv=>whnf))|(refine ac (by simp only[Bool.and_eq_true,decide_eq_true_eq,List.length_map];omega) ?_;(conv=>whnf))|(apply ag rfl;(conv=>whnf))|(refine aG (fun hf=> ?_);(conv=>whnf))|(refine ChkS.mk (by kernel_rfl) ?_;(conv=>whnf))|(apply aK rfl;(conv=>whnf))|(refine ay 157 [some 16,none] ?_;(conv=>whnf))|(refine ah (oY ..) ?_;(conv=>whnf))|(exact True.intro)));(focus (apply bj (f:=157);(· repeat' (first|(simp only[List.length_map,Nat.zero_add];rewrite[eS];refine al ?_;simp;done)|(refine al ?_;simp[bc];done)|exact aW _ _ _ _|apply aY|apply bO|apply bC|apply bz|apply cm|apply cB|apply bM|rfl));refine bx (f:=157) rfl (kb ..) ?_;conv=>whnf));(refine aG (fun hf=> ?_);conv=>whnf);(apply ac rfl;conv=>whnf);(focus (refine aq (by((rw[lc (mt dy.1 (by omega))];first|done|rfl|(simp[aR,aw];done)))) ?_;conv=>whnf));(iterate 10 (apply ag (al (by simp[bc]));conv=>whnf));(focus (refine aq (by((rw[lc (mt dy.1 (by omega))];first|done|rfl|(simp[aR,aw];done)))) ?_;conv=>whnf))
 exact True.intro
theorem G7(m:Mch)(x:Int)(h0:m.da.st.length=0):Con Tryz.prog 158 [.obj (aR m),.int .i64 62,.int .i64 x] [.obj (aR m),.undef,.undef] (.int .i64 (-4)):=by
 have kp:=c156 m.da (by omega)
 rw[qU h0]at kp
 refine rp 106 Tryz.func158 [.tmp 6] (g:= ?_)
 conv=>whnf
 refine aP ?_
 (refine ay 156 [some 6] ?_;conv=>whnf)
 refine aP ?_
 (focus (apply bj (f:=156);(· repeat' (first|(simp only[List.length_map,Nat.zero_add];rewrite[eS];refine al ?_;simp;done)|(refine al ?_;simp[bc];done)|exact aW _ _ _ _|apply aY|apply bO|apply bC|apply bz|apply cm|apply cB|apply bM|rfl));refine bx (f:=156) rfl (kp ..) ?_;conv=>whnf))
 exact go
set_option maxHeartbeats 4000000 in
theorem HJ(m:Mch)(d2:Dat)(t x:Int)(hq:MI {m with da:=d2})(kp:Con Tryz.prog 156 [.obj (aw m.da)] [.obj (aw d2)] (.tup [.int .i64 t,.int .i64 0])):Con Tryz.prog 158 [.obj (aR m),.int .i64 62,.int .i64 x] [.obj (aR (dg {m with da:=d2} t x).1),.undef,.undef] (.int .i64 (dg {m with da:=d2} t x).2):=by
 have hb0:d2.bk.length≤32:=hq.da.bk
 have hf0:0≤bF m∧bF m≤d2.bk.length:=hq.floor
 have kf:Con Tryz.prog 112 [.obj (aR {m with da:=d2})] [.obj (aR {m with da:=d2})] (.int .i64 (bF m)):=c112 {m with da:=d2} hq.cl
 have w2:IntKind.i64.wrap ((d2.bk.length:Int)-2)=(d2.bk.length:Int)-2:=ai (by omega) (by omega)
 have w1:IntKind.i64.wrap ((d2.bk.length:Int)-1)=(d2.bk.length:Int)-1:=ai (by omega) (by omega)
 have wf:IntKind.i64.wrap ((d2.bk.length:Int)-bF m)=(d2.bk.length:Int)-bF m:=ai (by omega) (by omega)
 by_cases h2:(d2.bk.length:Int)-bF m<2
 ·rw[vU (m:={m with da:=d2}) h2]
  have g0:decide (IntKind.i64.wrap ((((d2.bk.map aj).length:Nat):Int)-bF m)<2)=true:=by rw[List.length_map,wf];exact decide_eq_true h2
  refine rp 106 Tryz.func158 [.tmp 6] (g:= ?_)
  conv=>whnf
  repeat' (first|(refine ay 156 [some 6] ?_;conv=>whnf)|(focus (apply bj (f:=156);(· repeat' (first|(simp only[List.length_map,Nat.zero_add];rewrite[eS];refine al ?_;simp;done)|(refine al ?_;simp[bc];done)|exact aW _ _ _ _|apply aY|apply bO|apply bC|apply bz|apply cm|apply cB|apply bM|rfl));refine bx (f:=156) rfl (kp ..) ?_;conv=>whnf))|(refine ay 112 [some 16] ?_;conv=>whnf)|(focus (apply bj (f:=112);(· repeat' (first|(simp only[List.length_map,Nat.zero_add];rewrite[eS];refine al ?_;simp;done)|(refine al ?_;simp[bc];done)|exact aW _ _ _ _|apply aY|apply bO|apply bC|apply bz|apply cm|apply cB|apply bM|rfl));refine bx (f:=112) rfl (kf ..) ?_;conv=>whnf))|(focus (refine aq (by rfl) ?_;conv=>whnf))|exact True.intro|refine aP ?_)
  all_goals skip
 have g0:decide (IntKind.i64.wrap ((((d2.bk.map aj).length:Nat):Int)-bF m)<2)=false:=by rw[List.length_map,wf];exact decide_eq_false h2
 have qa:=iS hq.da.cbk (d2.bk.length-2)
 have qb:=iS hq.da.cbk (d2.bk.length-1)
 have ra: ∀z,dm (d2.bk.map aj) (IntKind.i64.wrap ((d2.bk.length:Int)-2)).toNat z=[.int .i64 (pj {m with da:=d2})]:=fun z=>by
  rw[w2,show((d2.bk.length:Int)-2).toNat=d2.bk.length-2 by omega];exact eI _ _ _ (by omega)
 have rb: ∀z,dm (d2.bk.map aj) (IntKind.i64.wrap ((d2.bk.length:Int)-1)).toNat z=[.int .i64 (kD {m with da:=d2})]:=fun z=>by
  rw[w1,show((d2.bk.length:Int)-1).toNat=d2.bk.length-1 by omega];exact eI _ _ _ (by omega)
 have lb:kO t (wc (IntKind.i64.wrap (kD {m with da:=d2}-pj {m with da:=d2}))) (wc (IntKind.i64.wrap (wc (IntKind.i64.wrap (kD {m with da:=d2}-pj {m with da:=d2}))+t)))=true→dg {m with da:=d2} t x=({m with da:={d2 with bk:=d2.bk.take (d2.bk.length-2)}},0):=fun p=>vV (m:={m with da:=d2}) (s:=t) h2 (by simp only[Dp]at p;exact p)
 have lc: ¬kO t (wc (IntKind.i64.wrap (kD {m with da:=d2}-pj {m with da:=d2}))) (wc (IntKind.i64.wrap (wc (IntKind.i64.wrap (kD {m with da:=d2}-pj {m with da:=d2}))+t)))=true→dg {m with da:=d2} t x=dP {m with da:={d2 with bk:=d2.bk.set (d2.bk.length-1) (wc (IntKind.i64.wrap (kD {m with da:=d2}+t)))}} x:=fun p=>by rw[Dp];exact vq (m:={m with da:=d2}) (s:=t) h2 (by simp only[Dp]at p;exact p)
 have eS: ∀z,be (d2.bk.map aj) (IntKind.i64.wrap ((d2.bk.length:Int)-1)).toNat 0 z [.int .i64 (wc (IntKind.i64.wrap (kD {m with da:=d2}+t)))]=(d2.bk.set (d2.bk.length-1) (wc (IntKind.i64.wrap (kD {m with da:=d2}+t)))).map aj:=fun z=>by
  rw[w1,show((d2.bk.length:Int)-1).toNat=d2.bk.length-1 by omega];exact gL _ _ _ _ (by omega)
 have kd:=c152 d2 2 hb0 (by omega)
 have kb:=c157 {m with da:={d2 with bk:=d2.bk.set (d2.bk.length-1) (wc (IntKind.i64.wrap (kD {m with da:=d2}+t)))}} x
 refine rp 106 Tryz.func158 [.tmp 6] (g:= ?_)
 conv=>whnf
 (iterate 4 ((first|apply ac rfl|apply bH rfl|refine ay 156 [some 6] ?_);conv=>whnf));(focus (apply bj (f:=156);(· repeat' (first|(simp only[List.length_map,Nat.zero_add];rewrite[eS];refine al ?_;simp;done)|(refine al ?_;simp[bc];done)|exact aW _ _ _ _|apply aY|apply bO|apply bC|apply bz|apply cm|apply cB|apply bM|rfl));refine bx (f:=156) rfl (kp ..) ?_;conv=>whnf));(iterate 7 ((first|apply ac rfl|refine aG (fun hf=> ?_)|apply aK rfl|refine ay 112 [some 16] ?_);conv=>whnf));(focus (apply bj (f:=112);(· repeat' (first|(simp only[List.length_map,Nat.zero_add];rewrite[eS];refine al ?_;simp;done)|(refine al ?_;simp[bc];done)|exact aW _ _ _ _|apply aY|apply bO|apply bC|apply bz|apply cm|apply cB|apply bM|rfl));refine bx (f:=112) rfl (kf ..) ?_;conv=>whnf));(iterate 43 ((first|refine ac (by solve|simp only[bc]|fail) ?_|apply ac rfl|refine ac (by refine aO rfl ?_;simp only[cR];omega) ?_|refine ac (by simp only[Bool.and_eq_true,decide_eq_true_eq,List.length_map];omega) ?_|refine aD (by((simp only[List.length_map,Nat.zero_add];exact ra _))) ?_|refine aD (by((simp only[List.length_map,Nat.zero_add];exact rb _))) ?_|refine aG (fun hf=> ?_)|refine ChkS.mk (by kernel_rfl) ?_|refine aK (by assumption) ?_|apply aH|refine ah (oY ..) ?_);conv=>whnf));(iterate 16 (first|(apply ac rfl;(conv=>whnf))|(apply bH rfl;(conv=>whnf))|(refine ck ?_ ?_<;>intro hb<;>(try simp only[ew]at hb)<;>conv=>whnf)|(refine ay 152 [some 6,none] ?_;(conv=>whnf))));(focus (apply bj (f:=152);(· repeat' (first|(simp only[List.length_map,Nat.zero_add];rewrite[eS];refine al ?_;simp;done)|(refine al ?_;simp[bc];done)|exact aW _ _ _ _|apply aY|apply bO|apply bC|apply bz|apply cm|apply cB|apply bM|rfl));refine bx (f:=152) rfl (kd ..) ?_;conv=>whnf));(apply ac rfl;conv=>whnf);(focus (refine aq (by((rw[lb (dy.2 (by omega))];first|done|rfl|(simp[aR,aw];done)))) ?_;conv=>whnf));(iterate 10 (apply ag (al (by simp[bc]));conv=>whnf));(focus (refine aq (by((rw[lb (dy.2 (by omega))];first|done|rfl|(simp[aR,aw];done)))) ?_;conv=>whnf));(iterate 39 (first|(refine ac (by solve|simp only[bc]|fail) ?_;(conv=>whnf))|(apply ac rfl;(conv=>whnf))|(refine ac (by refine aO rfl ?_;simp only[cR];omega) ?_;(conv=>whnf))|(refine ac (by simp only[Bool.and_eq_true,decide_eq_true_eq,List.length_map];omega) ?_;(conv=>whnf))|(apply ag rfl;(conv=>whnf))|(refine aG (fun hf=> ?_);(conv=>whnf))|(refine ChkS.mk (by kernel_rfl) ?_;(conv=>whnf))|(apply aK rfl;(conv=>whnf))|(refine aK (by(exact decide_eq_false (by omega))) ?_;(conv=>whnf))|(refine ay 157 [some 16,none] ?_;(conv=>whnf))|(refine ah (oY ..) ?_;(conv=>whnf))|(exact True.intro)));(focus (apply bj (f:=157);(· repeat' (first|(simp only[List.length_map,Nat.zero_add];rewrite[eS];refine al ?_;simp;done)|(refine al ?_;simp[bc];done)|exact aW _ _ _ _|apply aY|apply bO|apply bC|apply bz|apply cm|apply cB|apply bM|rfl));refine bx (f:=157) rfl (kb ..) ?_;conv=>whnf));(refine aG (fun hf=> ?_);conv=>whnf);(apply ac rfl;conv=>whnf);(focus (refine aq (by((rw[lc (mt dy.1 (by omega))];first|done|rfl|(simp[aR,aw];done)))) ?_;conv=>whnf));(iterate 10 (apply ag (al (by simp[bc]));conv=>whnf));(focus (refine aq (by((rw[lc (mt dy.1 (by omega))];first|done|rfl|(simp[aR,aw];done)))) ?_;conv=>whnf));(iterate 42 (first|(refine ac (by solve|simp only[bc]|fail) ?_;(conv=>whnf))|(apply ac rfl;(conv=>whnf))|(refine ac (by refine aO rfl ?_;simp only[cR];omega) ?_;(conv=>whnf))|(refine ac (by simp only[Bool.and_eq_true,decide_eq_true_eq,List.length_map];omega) ?_;(conv=>whnf))|(apply ag rfl;(conv=>whnf))|(refine aG (fun hf=> ?_);(conv=>whnf))|(refine ChkS.mk (by kernel_rfl) ?_;(conv=>whnf))|(apply aK rfl;(conv=>whnf))|(refine aK (by(exact decide_eq_false (by omega))) ?_;(conv=>whnf))|(refine ay 157 [some 16,none] ?_;(conv=>whnf))|(refine ah (oY ..) ?_;(conv=>whnf))|(exact True.intro)));(focus (apply bj (f:=157);(· repeat' (first|(simp only[List.length_map,Nat.zero_add];rewrite[eS];refine al ?_;simp;done)|(refine al ?_;simp[bc];done)|exact aW _ _ _ _|apply aY|apply bO|apply bC|apply bz|apply cm|apply cB|apply bM|rfl));refine bx (f:=157) rfl (kb ..) ?_;conv=>whnf));(refine aG (fun hf=> ?_);conv=>whnf);(apply ac rfl;conv=>whnf);(focus (refine aq (by((rw[lc (mt dy.1 (by omega))];first|done|rfl|(simp[aR,aw];done)))) ?_;conv=>whnf));(iterate 10 (apply ag (al (by simp[bc]));conv=>whnf));(focus (refine aq (by((rw[lc (mt dy.1 (by omega))];first|done|rfl|(simp[aR,aw];done)))) ?_;conv=>whnf));(iterate 21 (first|(apply ac rfl;(conv=>whnf))|(apply bH rfl;(conv=>whnf))|(apply aK rfl;(conv=>whnf))|(refine bH (by(exact decide_eq_true (by omega))) ?_;(conv=>whnf))|(refine ck ?_ ?_<;>intro hb<;>(try simp only[ew]at hb)<;>conv=>whnf)|(refine ay 152 [some 6,none] ?_;(conv=>whnf))|(exact True.intro)));(focus (apply bj (f:=152);(· repeat' (first|(simp only[List.length_map,Nat.zero_add];rewrite[eS];refine al ?_;simp;done)|(refine al ?_;simp[bc];done)|exact aW _ _ _ _|apply aY|apply bO|apply bC|apply bz|apply cm|apply cB|apply bM|rfl));refine bx (f:=152) rfl (kd ..) ?_;conv=>whnf));(apply ac rfl;conv=>whnf);(focus (refine aq (by((rw[lb (dy.2 (by omega))];first|done|rfl|(simp[aR,aw];done)))) ?_;conv=>whnf));(iterate 10 (apply ag (al (by simp[bc]));conv=>whnf));(focus (refine aq (by((rw[lb (dy.2 (by omega))];first|done|rfl|(simp[aR,aw];done)))) ?_;conv=>whnf));(iterate 27 (first|(refine ac (by solve|simp only[bc]|fail) ?_;(conv=>whnf))|(apply ac rfl;(conv=>whnf))|(refine ac (by refine aO rfl ?_;simp only[cR];omega) ?_;(conv=>whnf))|(refine ac (by simp only[Bool.and_eq_true,decide_eq_true_eq,List.length_map];omega) ?_;(conv=>whnf))|(apply ag rfl;(conv=>whnf))|(refine aG (fun hf=> ?_);(conv=>whnf))|(refine ChkS.mk (by kernel_rfl) ?_;(conv=>whnf))|(refine ay 157 [some 16,none] ?_;(conv=>whnf))|(refine ah (oY ..) ?_;(conv=>whnf))|(exact True.intro)));(focus (apply bj (f:=157);(· repeat' (first|(simp only[List.length_map,Nat.zero_add];rewrite[eS];refine al ?_;simp;done)|(refine al ?_;simp[bc];done)|exact aW _ _ _ _|apply aY|apply bO|apply bC|apply bz|apply cm|apply cB|apply bM|rfl));refine bx (f:=157) rfl (kb ..) ?_;conv=>whnf));(refine aG (fun hf=> ?_);conv=>whnf);(apply ac rfl;conv=>whnf);(focus (refine aq (by((rw[lc (mt dy.1 (by omega))];first|done|rfl|(simp[aR,aw];done)))) ?_;conv=>whnf));(iterate 10 (apply ag (al (by simp[bc]));conv=>whnf));(focus (refine aq (by((rw[lc (mt dy.1 (by omega))];first|done|rfl|(simp[aR,aw];done)))) ?_;conv=>whnf));(iterate 31 (first|(refine ac (by solve|simp only[bc]|fail) ?_;(conv=>whnf))|(apply ac rfl;(conv=>whnf))|(refine ac (by refine aO rfl ?_;simp only[cR];omega) ?_;(conv=>whnf))|(refine ac (by simp only[Bool.and_eq_true,decide_eq_true_eq,List.length_map];omega) ?_;(conv=>whnf))|(apply ag rfl;(conv=>whnf))|(refine aG (fun hf=> ?_);(conv=>whnf))|(refine ChkS.mk (by kernel_rfl) ?_;(conv=>whnf))|(apply aK rfl;(conv=>whnf))|(refine ay 157 [some 16,none] ?_;(conv=>whnf))|(refine ah (oY ..) ?_;(conv=>whnf))|(exact True.intro)));(focus (apply bj (f:=157);(· repeat' (first|(simp only[List.length_map,Nat.zero_add];rewrite[eS];refine al ?_;simp;done)|(refine al ?_;simp[bc];done)|exact aW _ _ _ _|apply aY|apply bO|apply bC|apply bz|apply cm|apply cB|apply bM|rfl));refine bx (f:=157) rfl (kb ..) ?_;conv=>whnf));(refine aG (fun hf=> ?_);conv=>whnf);(apply ac rfl;conv=>whnf);(focus (refine aq (by((rw[lc (mt dy.1 (by omega))];first|done|rfl|(simp[aR,aw];done)))) ?_;conv=>whnf));(iterate 10 (apply ag (al (by simp[bc]));conv=>whnf));(focus (refine aq (by((rw[lc (mt dy.1 (by omega))];first|done|rfl|(simp[aR,aw];done)))) ?_;conv=>whnf))
 exact True.intro
end X2

/- Words of compiled code, by the program; contracts. -/
open Go Go.Abs Go.Proofs V1 H1 H2 F1 F2 T1 T2 T3 P1 P2 P5 N1 X1 X2
namespace X3
theorem Gf{m:Mch}(h:m.da.st.length<2):gl m=(m,-4):=by rw[gl,if_pos h]
theorem Gr{m:Mch}(h: ¬m.da.st.length<2)(h2:32<m.da.bk.length+2):gl m=(m,-5):=by rw[gl,if_neg h,if_pos h2]
theorem GD{m:Mch}(h: ¬m.da.st.length<2)(h2: ¬32<m.da.bk.length+2):gl m=({m with da:={m.da with st:=m.da.st.take (m.da.st.length-2),bk:=m.da.bk++m.da.st.drop (m.da.st.length-2)}},0):=by rw[gl,if_neg h,if_neg h2]
theorem FB(m:Mch)(h:MI m):Con Tryz.prog 119 [.obj (aR m),.int .i64 60] [.obj (aR (gl m).1),.undef] (.int .i64 (gl m).2):=by
 have hs:=h.da.st
 have hb:=h.da.bk
 have wb:IntKind.i64.wrap ((m.da.bk.length:Int)+2)=(m.da.bk.length:Int)+2:=ai (by omega) (by omega)
 by_cases h1:m.da.st.length<2
 ·rw[Gf h1]
  exact rp 124 Tryz.func119 [.tmp 4] (g:=go)
 by_cases h2:32<m.da.bk.length+2
 ·rw[Gr h1 h2]
  have g2:decide (IntKind.i64.wrap ((((m.da.bk.map aj).length:Nat):Int)+2)>32)=true:=by rw[List.length_map,wb];exact decide_eq_true (by omega)
  exact rp 124 Tryz.func119 [.tmp 4] (g:=go)
 rw[GD h1 h2]
 have g2:decide (IntKind.i64.wrap ((((m.da.bk.map aj).length:Nat):Int)+2)>32)=false:=by rw[List.length_map,wb];exact decide_eq_false (by omega)
 have ws:IntKind.i64.wrap ((m.da.st.length:Int)-2)=(m.da.st.length:Int)-2:=ai (by omega) (by omega)
 have e1:(List.take ((IntKind.i64.wrap (((m.da.st.map aj).length:Int)-2)).toNat-0) (List.drop (0+0) m.da.st)).map aj=(m.da.st.take (m.da.st.length-2)).map aj:=by
  rw[List.length_map,ws,show((m.da.st.length:Int)-2).toNat=m.da.st.length-2 by omega];rfl
 have e2:am (am (m.da.bk.map aj) 0 (m.da.bk.map aj).length++am (m.da.st.map aj) (0+(IntKind.i64.wrap (((m.da.st.map aj).length:Int)-2)).toNat) ((m.da.st.map aj).length-(IntKind.i64.wrap (((m.da.st.map aj).length:Int)-2)).toNat)) 0 ((m.da.bk.map aj).length+(am (m.da.st.map aj) (0+(IntKind.i64.wrap (((m.da.st.map aj).length:Int)-2)).toNat) ((m.da.st.map aj).length-(IntKind.i64.wrap (((m.da.st.map aj).length:Int)-2)).toNat)).length)=(m.da.bk++m.da.st.drop (m.da.st.length-2)).map aj:=by
  rw[List.length_map,List.length_map,ws,show((m.da.st.length:Int)-2).toNat=m.da.st.length-2 by omega]
  simp[am,List.take_of_length_le]
 refine rp 124 Tryz.func119 [.tmp 4] (g:= ?_)
 conv=>whnf
 repeat' (first|(apply ac (by(((simp[ao,AV.plain,am,ws];omega))));conv=>whnf)|(focus (refine aq (by rfl) ?_;conv=>whnf))|(focus (refine aq (by(exact bC (aY rfl (aY rfl (aY (bz e1) (aY (bz e2) rfl)))))) ?_;conv=>whnf))|exact True.intro|refine aP ?_)
end X3

/- All words of compiled code, by the program; the contract. -/
open Go Go.Abs Go.Proofs V1 H1 H2 F1 F2 T1 T2 T3 P1 P2 P5 N1 X1 X2 X3
namespace X4
theorem EY(m:Mch)(n:Int)(h0:decide (n=60)=false)(hi:(m.co.length:Int)≤m.ip):Con Tryz.prog 119 [.obj (aR m),.int .i64 n] [.obj (aR m),.undef] (.int .i64 (-24)):=
 rp 124 Tryz.func119 [.tmp 4] (g:=go)
theorem jp{m:Mch}(h:MI m)(hi: ¬(m.co.length:Int)≤m.ip)(z:List AV):dm (m.co.map aj) m.ip.toNat z=[.int .i64 (m.co.getD m.ip.toNat 0)]:=eI _ _ _ (by have:=h.ip;omega)
abbrev wM(m:Mch):Mch:={m with ip:=IntKind.i64.wrap (m.ip+1)}
theorem next_w{m:Mch}(h:MI m):nextM m=wM m:=by
 have:=h.ip
 rw[nextM,wM,ai (by omega) (by omega)]
theorem EK(m:Mch)(h:MI m)(hi: ¬(m.co.length:Int)≤m.ip):Con Tryz.prog 119 [.obj (aR m),.int .i64 57] [.obj (aR (bi (wM m) (m.co.getD m.ip.toNat 0)).1),.undef] (.int .i64 (bi (wM m) (m.co.getD m.ip.toNat 0)).2):=by
 have ra:=jp h hi
 have hp:=h.ip
 have kp:=c80 m.da (m.co.getD m.ip.toNat 0) (by have:=h.da.st;omega)
 refine rp 124 Tryz.func119 [.tmp 4] (g:= ?_)
 conv=>whnf
 refine aP ?_
 (refine ay 80 [some 6,none] ?_;conv=>whnf)
 refine aP ?_
 (refine eH (kp ..) ?_;conv=>whnf)
 exact go
theorem EN(m:Mch)(h:MI m)(hi: ¬(m.co.length:Int)≤m.ip):Con Tryz.prog 119 [.obj (aR m),.int .i64 58] [.obj (aR (dP (wM m) (m.co.getD m.ip.toNat 0)).1),.undef] (.int .i64 (dP (wM m) (m.co.getD m.ip.toNat 0)).2):=by
 have ra:=jp h hi
 have hp:=h.ip
 have kb:=c157 (wM m) (m.co.getD m.ip.toNat 0)
 refine rp 124 Tryz.func119 [.tmp 4] (g:= ?_)
 conv=>whnf
 refine aP ?_
 (refine ay 157 [some 16,none] ?_;conv=>whnf)
 refine aP ?_
 (refine eH (kb ..) ?_;conv=>whnf)
 exact go
theorem C5(m:Mch)(h:MI m)(hi: ¬(m.co.length:Int)≤m.ip)(h0:m.da.st.length=0):Con Tryz.prog 119 [.obj (aR m),.int .i64 59] [.obj (aR (wM m)),.undef] (.int .i64 (-4)):=by
 have ra:=jp h hi
 have hp:=h.ip
 have kp:=c156 m.da (by omega)
 rw[qU h0]at kp
 refine rp 124 Tryz.func119 [.tmp 4] (g:= ?_)
 conv=>whnf
 refine aP ?_
 (refine ay 156 [some 6] ?_;conv=>whnf)
 refine aP ?_
 (refine eH (kp ..) ?_;conv=>whnf)
 exact go
theorem CL(m:Mch)(h:MI m)(hi: ¬(m.co.length:Int)≤m.ip)(h0: ¬m.da.st.length=0)(h1:bp m.da≠0):Con Tryz.prog 119 [.obj (aR m),.int .i64 59] [.obj (aR (cH (wM m))),.undef] (.int .i64 0):=by
 have ra:=jp h hi
 have hp:=h.ip
 have kp:=ku m.da (by have:=h.da.st;omega) h0
 have g1:(bp m.da != 0)=true:=bne_iff_ne.2 h1
 refine rp 124 Tryz.func119 [.tmp 4] (g:= ?_)
 conv=>whnf
 refine aP ?_
 (refine ay 156 [some 6] ?_;conv=>whnf)
 refine aP ?_
 (refine eH (kp ..) ?_;conv=>whnf)
 exact go
theorem CS(m:Mch)(h:MI m)(hi: ¬(m.co.length:Int)≤m.ip)(h0: ¬m.da.st.length=0)(h1:bp m.da=0):Con Tryz.prog 119 [.obj (aR m),.int .i64 59] [.obj (aR (dP (cH (wM m)) (m.co.getD m.ip.toNat 0)).1),.undef] (.int .i64 (dP (cH (wM m)) (m.co.getD m.ip.toNat 0)).2):=by
 have ra:=jp h hi
 have hp:=h.ip
 have kp:=ku m.da (by have:=h.da.st;omega) h0
 rw[h1]at kp
 have kb:=c157 (cH (wM m)) (m.co.getD m.ip.toNat 0)
 refine rp 124 Tryz.func119 [.tmp 4] (g:= ?_)
 conv=>whnf
 iterate 8 (first|(refine eH (kb ..) ?_;conv=>whnf)|(refine ay 157 [some 16,none] ?_;conv=>whnf)|(refine eH (kp ..) ?_;conv=>whnf)|(refine ay 156 [some 6] ?_;conv=>whnf)|refine aP ?_)
 exact go
theorem FC(m:Mch)(h:MI m)(hi: ¬(m.co.length:Int)≤m.ip):Con Tryz.prog 119 [.obj (aR m),.int .i64 61] [.obj (aR (dg (wM m) 1 (m.co.getD m.ip.toNat 0)).1),.undef] (.int .i64 (dg (wM m) 1 (m.co.getD m.ip.toNat 0)).2):=by
 have ra:=jp h hi
 have hp:=h.ip
 have kb:=Hs (wM m) (m.co.getD m.ip.toNat 0) (next_w h▸h.nextM (by omega))
 refine rp 124 Tryz.func119 [.tmp 4] (g:= ?_)
 conv=>whnf
 refine aP ?_
 (refine ay 158 [some 16,none,none] ?_;conv=>whnf)
 refine aP ?_
 (refine eH (kb ..) ?_;conv=>whnf)
 exact go
theorem B0(m:Mch)(h:MI m)(hi: ¬(m.co.length:Int)≤m.ip)(h0:m.da.st.length=0):Con Tryz.prog 119 [.obj (aR m),.int .i64 62] [.obj (aR (wM m)),.undef] (.int .i64 (-4)):=by
 have ra:=jp h hi
 have hp:=h.ip
 have kb:=G7 (wM m) (m.co.getD m.ip.toNat 0) h0
 refine rp 124 Tryz.func119 [.tmp 4] (g:= ?_)
 conv=>whnf
 refine aP ?_
 (refine ay 158 [some 16,none,none] ?_;conv=>whnf)
 refine aP ?_
 (refine eH (kb ..) ?_;conv=>whnf)
 exact go
theorem Cf(m:Mch)(h:MI m)(hi: ¬(m.co.length:Int)≤m.ip)(h0: ¬m.da.st.length=0):Con Tryz.prog 119 [.obj (aR m),.int .i64 62] [.obj (aR (dg (cH (wM m)) (bp m.da) (m.co.getD m.ip.toNat 0)).1),.undef] (.int .i64 (dg (cH (wM m)) (bp m.da) (m.co.getD m.ip.toNat 0)).2):=by
 have ra:=jp h hi
 have hp:=h.ip
 have kp:=ku m.da (by have:=h.da.st;omega) h0
 have kb:=HJ (wM m) {m.da with st:=m.da.st.take (m.da.st.length-1)} (bp m.da) (m.co.getD m.ip.toNat 0) (fU (next_w h▸h.nextM (by omega))) kp
 refine rp 124 Tryz.func119 [.tmp 4] (g:= ?_)
 conv=>whnf
 refine aP ?_
 (refine ay 158 [some 16,none,none] ?_;conv=>whnf)
 refine aP ?_
 (refine eH (kb ..) ?_;conv=>whnf)
 exact go
theorem GJ(m:Mch)(h:MI m)(k:Int)(hk:1≤k∧k≤6):Con Tryz.prog 119 [.obj (aR m),.int .i64 (k+56)] [.obj (aR (fR true m k).1),.undef] (.int .i64 (fR true m k).2):=by
 by_cases h4:k=4
 ·subst h4
  exact FB m h
 unfold fR
 rw[if_neg h4]
 by_cases hi:(m.co.length:Int)≤m.ip
 ·rw[if_pos hi]
  exact EY m (k+56) (decide_eq_false (by omega)) hi
 rw[if_neg hi,if_pos rfl,next_w h]
 have hc:k=1∨k=2∨k=3∨k=5∨k=6:=by omega
 rcases hc with rfl|rfl|rfl|rfl|rfl
 ·exact EK m h hi
 ·exact EN m h hi
 ·by_cases h0:m.da.st.length=0
  ·have e:dl (wM m) (wM m) (m.co.getD m.ip.toNat 0) 3=(wM m,-4):=by simp[dl,h0]
   rw[e];exact C5 m h hi h0
  ·by_cases h1:bp m.da=0
   ·have e:dl (wM m) (wM m) (m.co.getD m.ip.toNat 0) 3=dP (cH (wM m)) (m.co.getD m.ip.toNat 0):=by simp[dl,h0,h1]
    rw[e];exact CS m h hi h0 h1
   ·have e:dl (wM m) (wM m) (m.co.getD m.ip.toNat 0) 3=(cH (wM m),0):=by simp[dl,h0,h1]
    rw[e];exact CL m h hi h0 h1
 ·exact FC m h hi
 ·by_cases h0:m.da.st.length=0
  ·have e:dl (wM m) (wM m) (m.co.getD m.ip.toNat 0) 6=(wM m,-4):=by simp[dl,h0]
   rw[e];exact B0 m h hi h0
  ·have e:dl (wM m) (wM m) (m.co.getD m.ip.toNat 0) 6=dg (cH (wM m)) (bp m.da) (m.co.getD m.ip.toNat 0):=by simp[dl,h0]
   rw[e];exact Cf m h hi h0
end X4

/- Tokens, words of flow, by the program; contracts. -/
open Go Go.Abs Go.Proofs V1 H1 H2 F1 F2 T1 T2 T3 P1 P2 P5 N1 X1 X2 X3 X4
namespace X5
theorem cE{ws:List Wd}{n:Int}(hw:ws.length≤103)(hn:bh n 1 ws.length=true)(z:List AV):dm (ws.map dc) (IntKind.i64.wrap (n-1)).toNat z=dc (cQ ws n):=by
 have:=aN hn
 rw[ai (by omega) (by omega)]
 exact aF dc _ _ _ default (by omega)
theorem c71(ws:List Wd)(n:Int)(hw:ws.length≤103):Con Tryz.prog 71 [fb ws,.int .i64 n] (aa [fb ws,.int .i64 n]) (.bool (cg ws n)):=by
 have k1:=c95 n 1 ((ws.map dc).length:Nat)
 rw[show bh n 1 ((ws.map dc).length:Nat)=bh n 1 ws.length by rw[List.length_map]]at k1
 by_cases h0:bh n 1 ws.length=true
 ·have ra:=cE hw h0
  have h1:=aN h0
  have w1:IntKind.i64.wrap (n-1)=n-1:=ai (by omega) (by omega)
  rw[h0]at k1
  refine rn 27 Tryz.func71 [.tmp 4] (g:= ?_)
  conv=>whnf
  repeat' (first|(focus (refine aA ?_;(first|(simp_all[cg];done)|(simp_all[cg,bne];done)|(simp_all[cg,bne,Bool.beq_eq_decide_eq];done))))|refine aP ?_|(refine bN ?_ ?_<;>intro hb))
 ·rw[Bool.not_eq_true]at h0
  rw[h0]at k1
  refine rn 27 Tryz.func71 [.tmp 4] (g:= ?_)
  conv=>whnf
  refine aP ?_
  (focus (refine aA ?_;(first|(simp_all[cg];done)|(simp_all[cg,bne];done)|(simp_all[cg,bne,Bool.beq_eq_decide_eq];done))))
instance:CC 71:=⟨_,@c71⟩
theorem eG{m:Mch}(h:m.ca.length≤16)(h0: ¬m.ca.length=0)(z:List AV):dm (m.ca.map bK) (IntKind.i64.wrap ((m.ca.length:Int)-1)).toNat z=bK (cj m):=by
 rw[mg h h0]
 exact aF bK _ _ _ default (by omega)
theorem GN(m:Mch)(h:m.ca.length=0):Con Tryz.prog 118 [.obj (aR m),.int .i64 53] [.obj (aR m),.undef] (.int .i64 (-14)):=by
 have g:decide (IntKind.i64.wrap ((((m.ca.map bK).length:Nat):Int)-1)<0)=true:=by rw[List.length_map,h];rfl
 exact rp 115 Tryz.func118 [.tmp 4] (g:=go)
theorem HS(m:Mch)(hl:m.ca.length≤16)(h: ¬m.ca.length=0)(hc:(cj m).ca=true):Con Tryz.prog 118 [.obj (aR m),.int .i64 53] [.obj (aR m),.undef] (.int .i64 (-14)):=by
 have w:=fT hl
 have g:decide (IntKind.i64.wrap ((((m.ca.map bK).length:Nat):Int)-1)<0)=false:=by rw[List.length_map,w];exact decide_eq_false (by omega)
 have ra:=eG hl h
 exact rp 115 Tryz.func118 [.tmp 4] (g:=go)
theorem HO(m:Mch)(hl:m.ca.length≤16)(hb:m.da.bk.length≤32)(h: ¬m.ca.length=0)(hc:(cj m).ca=false)(hf:(m.da.bk.length:Int)≠(cj m).fl):Con Tryz.prog 118 [.obj (aR m),.int .i64 53] [.obj (aR m),.undef] (.int .i64 (-25)):=by
 have w:=fT hl
 have g:decide (IntKind.i64.wrap ((((m.ca.map bK).length:Nat):Int)-1)<0)=false:=by rw[List.length_map,w];exact decide_eq_false (by omega)
 have ra:=eG hl h
 have g2:((((m.da.bk.map aj).length:Nat):Int) != (cj m).fl)=true:=by rw[List.length_map];exact bne_iff_ne.2 hf
 exact rp 115 Tryz.func118 [.tmp 4] (g:=go)
theorem Hv(m:Mch)(hl:m.ca.length≤16)(h: ¬m.ca.length=0)(hc:(cj m).ca=false)(hf:(m.da.bk.length:Int)=(cj m).fl):Con Tryz.prog 118 [.obj (aR m),.int .i64 53] [.obj (aR (dropC m)),.undef] (.int .i64 0):=by
 have w:=fT hl
 have g:decide (IntKind.i64.wrap ((((m.ca.map bK).length:Nat):Int)-1)<0)=false:=by rw[List.length_map,w];exact decide_eq_false (by omega)
 have ra:=eG hl h
 have g2:((((m.da.bk.map aj).length:Nat):Int) != (cj m).fl)=false:=by rw[List.length_map,hf];exact bne_self_eq_false _
 have kl:=c79 m hl h
 refine rp 115 Tryz.func118 [.tmp 4] (g:= ?_)
 conv=>whnf
 refine aP ?_
 (refine ay 79 [some 16] ?_;conv=>whnf)
 refine aP ?_
 (refine eH (kl ..) ?_;conv=>whnf)
 exact go
theorem jn{m:Mch}(h:MI m)(h0: ¬m.da.st.length=0)(z:List AV):dm (m.da.st.map aj) (IntKind.i64.wrap ((m.da.st.length:Int)-1)).toNat z=[.int .i64 (bp m.da)]:=by
 have:=h.da.st
 rw[ai (by omega) (by omega),show((m.da.st.length:Int)-1).toNat=m.da.st.length-1 by omega]
 exact eI _ _ _ (by omega)
theorem HG(m:Mch)(n:Int)(g:(n==53)=false)(h:m.da.st.length=0):Con Tryz.prog 118 [.obj (aR m),.int .i64 n] [.obj (aR m),.undef] (.int .i64 (-4)):=
 rp 115 Tryz.func118 [.tmp 4] (g:=go)
theorem E7(m:Mch)(h:MI m)(h0: ¬m.da.st.length=0)(ht:bp m.da=0):Con Tryz.prog 118 [.obj (aR m),.int .i64 56] [.obj (aR (cH m)),.undef] (.int .i64 0):=by
 have hs:=h.da.st
 have ra:=jn h h0
 have w1:IntKind.i64.wrap ((m.da.st.length:Int)-1)=(m.da.st.length:Int)-1:=ai (by omega) (by omega)
 rw[ht]at ra
 have kp:=ku m.da (by omega) h0
 refine rp 115 Tryz.func118 [.tmp 4] (g:= ?_)
 conv=>whnf
 refine aP ?_
 (refine ay 156 [some 6] ?_;conv=>whnf)
 refine aP ?_
 (refine eH (kp ..) ?_;conv=>whnf)
 exact go
theorem Eh(m:Mch)(h:MI m)(h0: ¬m.da.st.length=0)(ht:bp m.da= -101):Con Tryz.prog 118 [.obj (aR m),.int .i64 56] [.obj (aR m),.undef] (.int .i64 (-24)):=by
 have hs:=h.da.st
 have ra:=jn h h0
 have w1:IntKind.i64.wrap ((m.da.st.length:Int)-1)=(m.da.st.length:Int)-1:=ai (by omega) (by omega)
 rw[ht]at ra
 exact rp 115 Tryz.func118 [.tmp 4] (g:=go)
theorem Ec(m:Mch)(h:MI m)(h0: ¬m.da.st.length=0)(h1:(bp m.da==0)=false)(h2:(bp m.da== -101)=false):Con Tryz.prog 118 [.obj (aR m),.int .i64 56] [.obj (aR m),.undef] (.int .i64 (bp m.da)):=by
 have hs:=h.da.st
 have ra:=jn h h0
 have w1:IntKind.i64.wrap ((m.da.st.length:Int)-1)=(m.da.st.length:Int)-1:=ai (by omega) (by omega)
 exact rp 115 Tryz.func118 [.tmp 4] (g:=go)
end X5

/- Words of flow, and what a word's kinds do, by the program; contracts. -/
open Go Go.Abs Go.Proofs V1 H1 H2 H4 F1 F2 T1 T2 T3 P1 P2 P5 P9 P10 P20 N1 X1 X2 X3 X4 X5
namespace X6
theorem Fb(m:Mch)(h:MI m)(n:Int)(g1:(n==53)=false)(g2:(n==56)=false)(h0: ¬m.da.st.length=0)(ht:cg m.ws (bp m.da)=false):Con Tryz.prog 118 [.obj (aR m),.int .i64 n] [.obj (aR m),.undef] (.int .i64 (-24)):=by
 have hs:=h.da.st
 have ra:=jn h h0
 have w1:IntKind.i64.wrap ((m.da.st.length:Int)-1)=(m.da.st.length:Int)-1:=ai (by omega) (by omega)
 have kt:=c71 m.ws (bp m.da) (bu h.ws).2.2
 rw[ht]at kt
 exact rp 115 Tryz.func118 [.tmp 4] (g:=go)
theorem EC(m:Mch)(h:MI m)(h0: ¬m.da.st.length=0)(ht:cg m.ws (bp m.da)=true)(r:Mch × Int)(ke:Con Tryz.prog 77 [.obj (aR (cH m)),.int .i64 (bp m.da)] [.obj (aR r.1),.undef] (.int .i64 r.2)):Con Tryz.prog 118 [.obj (aR m),.int .i64 54] [.obj (aR r.1),.undef] (.int .i64 r.2):=by
 have hs:=h.da.st
 have ra:=jn h h0
 have w1:IntKind.i64.wrap ((m.da.st.length:Int)-1)=(m.da.st.length:Int)-1:=ai (by omega) (by omega)
 have kt:=c71 m.ws (bp m.da) (bu h.ws).2.2
 rw[ht]at kt
 have kp:=ku m.da (by omega) h0
 refine rp 115 Tryz.func118 [.tmp 4] (g:= ?_)
 conv=>whnf
 repeat' (first|(refine ay 156 [some 6] ?_;conv=>whnf)|(refine eH (kp ..) ?_;conv=>whnf)|(refine ay 77 [some 16,none] ?_;conv=>whnf)|(refine eH (ke ..) ?_;conv=>whnf)|(focus (refine aq (by rfl) ?_;conv=>whnf))|exact True.intro|refine aP ?_)
abbrev oe(m:Mch):Cal:=⟨m.ip,((m.da.bk.map aj).length:Nat),(((m.da.st.take (m.da.st.length-1)).map aj).length:Nat),true⟩
theorem Ej(m:Mch)(h:MI m)(h0: ¬m.da.st.length=0)(ht:cg m.ws (bp m.da)=true)(hc:m.ca.length=16):Con Tryz.prog 118 [.obj (aR m),.int .i64 55] [.obj (aR (cH m)),.undef] (.int .i64 (-50)):=by
 have hs:=h.da.st
 have ra:=jn h h0
 have w1:IntKind.i64.wrap ((m.da.st.length:Int)-1)=(m.da.st.length:Int)-1:=ai (by omega) (by omega)
 have kt:=c71 m.ws (bp m.da) (bu h.ws).2.2
 rw[ht]at kt
 have kp:=ku m.da (by omega) h0
 have ka:=c117 (cH m) (oe m) h.cl
 rw[sf (show(cH m).ca.length=16 from hc)]at ka
 refine rp 115 Tryz.func118 [.tmp 4] (g:= ?_)
 conv=>whnf
 repeat' (first|(refine ay 156 [some 6] ?_;conv=>whnf)|(refine eH (kp ..) ?_;conv=>whnf)|(refine ay 117 [some 16,none] ?_;conv=>whnf)|(refine eH (ka ..) ?_;conv=>whnf)|(focus (refine aq (by rfl) ?_;conv=>whnf))|exact True.intro|refine aP ?_)
theorem EO(m:Mch)(h:MI m)(h0: ¬m.da.st.length=0)(ht:cg m.ws (bp m.da)=true)(hc: ¬m.ca.length=16)(r:Mch × Int)(ke:Con Tryz.prog 77 [.obj (aR {cH m with ca:=m.ca++[oe m]}),.int .i64 (bp m.da)] [.obj (aR r.1),.undef] (.int .i64 r.2)):Con Tryz.prog 118 [.obj (aR m),.int .i64 55] [.obj (aR r.1),.undef] (.int .i64 r.2):=by
 have hs:=h.da.st
 have ra:=jn h h0
 have w1:IntKind.i64.wrap ((m.da.st.length:Int)-1)=(m.da.st.length:Int)-1:=ai (by omega) (by omega)
 have kt:=c71 m.ws (bp m.da) (bu h.ws).2.2
 rw[ht]at kt
 have kp:=ku m.da (by omega) h0
 have ka:=c117 (cH m) (oe m) h.cl
 rw[ry (show ¬(cH m).ca.length=16 from hc)]at ka
 refine rp 115 Tryz.func118 [.tmp 4] (g:= ?_)
 conv=>whnf
 repeat' (first|(refine ay 156 [some 6] ?_;conv=>whnf)|(refine eH (kp ..) ?_;conv=>whnf)|(refine ay 117 [some 16,none] ?_;conv=>whnf)|(refine eH (ka ..) ?_;conv=>whnf)|(refine ay 77 [some 16,none] ?_;conv=>whnf)|(refine eH (ke ..) ?_;conv=>whnf)|(focus (refine aq (by rfl) ?_;conv=>whnf))|exact True.intro|refine aP ?_)
theorem Kr(m:Mch)(h:MI m)(ex:Mch→Int→Mch × Int)(he: ∀m' n',MI m'→m'.fu=m.fu→Con Tryz.prog 77 [.obj (aR m'),.int .i64 n'] [.obj (aR (ex m' n').1),.undef] (.int .i64 (ex m' n').2))(k:Int)(hk:1≤k∧k≤4):
  Con Tryz.prog 118 [.obj (aR m),.int .i64 (k+52)] [.obj (aR (gI ex m k).1),.undef] (.int .i64 (gI ex m k).2):=by
 have hs:=h.da.st
 by_cases h1:k=1
 ·subst h1
  unfold gI sh
  rw[if_pos rfl]
  by_cases h2:m.ca.length=0
  ·rw[if_pos h2];exact GN m h2
  rw[if_neg h2]
  by_cases h3:(cj m).ca=true
  ·rw[if_pos h3];exact HS m h.cl h2 h3
  rw[if_neg h3]
  rw[Bool.not_eq_true]at h3
  by_cases h4:(m.da.bk.length:Int)≠(cj m).fl
  ·rw[if_pos h4];exact HO m h.cl h.da.bk h2 h3 h4
  ·rw[if_neg h4];exact Hv m h.cl h2 h3 (Decidable.not_not.1 h4)
 unfold gI
 rw[if_neg h1]
 by_cases h0:m.da.st.length=0
 ·rw[if_pos h0];exact HG m _ (by simp;omega) h0
 rw[if_neg h0]
 by_cases h4:k=4
 ·subst h4
  rw[if_pos rfl]
  by_cases t0:bp m.da=0
  ·rw[if_pos t0];exact E7 m h h0 t0
  rw[if_neg t0]
  by_cases t1:bp m.da= -101
  ·rw[if_pos t1];exact Eh m h h0 t1
  ·rw[if_neg t1];exact Ec m h h0 (by simpa using t0) (by simpa using t1)
 rw[if_neg h4]
 by_cases ht:cg m.ws (bp m.da)=false
 ·rw[if_pos ht];exact Fb m h _ (by simp;omega) (by simp;omega) h0 ht
 rw[if_neg ht]
 rw[Bool.not_eq_false]at ht
 have hk2:k=2∨k=3:=by omega
 rcases hk2 with rfl|rfl
 ·exact EC m h h0 ht _ (he _ _ (fU h) rfl)
 ·rw[if_pos rfl]
  by_cases hc:m.ca.length=16
  ·rw[if_pos hc];exact Ej m h h0 ht hc
  ·rw[if_neg hc]
   have e:oe m=⟨m.ip,m.da.bk.length,(m.da.st.length:Int)-1,true⟩:=by simp[oe];omega
   have ke:=he {cH m with ca:=m.ca++[oe m]} (bp m.da) (by
    rw[e]
    exact(fU h).addC (by have:=h.cl;show m.ca.length<16;omega) ⟨h.ip,⟨Int.natCast_nonneg _,Int.le_refl _⟩,⟨show(0:Int)≤(m.da.st.length:Int)-1 by omega,show(m.da.st.length:Int)-1≤31 by omega⟩,.inl rfl⟩ h.floor.2) rfl
   have kc:=EO m h h0 ht hc _ ke
   rw[e]at kc
   exact kc
theorem c114(p:Nat)(hp:cp p)(nm:List UInt8)(d:Dat)(fl:Int)(h:DataOk d)(hf:0≤fl∧fl≤d.bk.length):Con Tryz.prog 114 [.obj (aw d),.rp (dc ⟨nm,1,p⟩) 0,.rp [.int .i64 fl] 0] [.obj (aw (ej TX p fl d).1),.undef,.undef] (.int .i64 (ej TX p fl d).2):=by
 have k1:=c115 p hp d fl h hf
 generalize ej TX p fl d=x at k1
 refine rp 10 Tryz.func114 [.tmp 4] (g:= ?_)
 conv=>whnf
 repeat' (first|(refine ay 115 [some 6,none,none] ?_;conv=>whnf)|(refine eH (k1 ..) ?_;conv=>whnf)|(focus (refine aq (by rfl) ?_;conv=>whnf))|exact True.intro|refine aP ?_)
instance:CC 114:=⟨_,@c114⟩
theorem A9(p:Nat)(hp:cp p)(nm:List UInt8)(d:Dat)(fl:Int)(h:DataOk d)(hf:0≤fl∧fl≤d.bk.length):Con Tryz.prog 113 [az d,.fn 114 [.rp (dc ⟨nm,1,p⟩) 0,.rp [.int .i64 fl] 0]] (aa [az d,.fn 114 [.rp (dc ⟨nm,1,p⟩) 0,.rp [.int .i64 fl] 0]]) (.tup [jK (eo TX p fl d).1,.int .i64 (eo TX p fl d).2]):=by
 have k1:=c114 p hp nm d fl h hf
 have k2:=c75 d (vc h)
 unfold eo
 generalize ej TX p fl d=x at k1
 by_cases h0:x.2=0
 ·rw[if_pos h0]
  have g0:(x.2 != 0)=false:=by rw[h0];rfl
  refine rn 18 Tryz.func113 [.cell 4 35,.tmp 5] (g:= ?_)
  conv=>whnf
  iterate 5 (first|(refine eH (k1 ..) ?_;conv=>whnf)|(refine ay 114 [some 6,none,none] ?_;conv=>whnf)|refine aP ?_)
  rotate_left
  exact aA (by rw[h0];rfl)
 ·rw[if_neg h0]
  have g0:(x.2 != 0)=true:=bne_iff_ne.2 h0
  refine rn 18 Tryz.func113 [.cell 4 35,.tmp 5] (g:= ?_)
  conv=>whnf
  iterate 5 (first|(refine eH (k1 ..) ?_;conv=>whnf)|(refine ay 114 [some 6,none,none] ?_;conv=>whnf)|refine aP ?_)
  rotate_left
  exact aA rfl
end X6
