import Derived.Test.YthfphedhlnoffaaGreatDoorBE
import Derived.Test.YthfphedhlnoffaaGreatDoorBF
import Derived.Test.YthfphedhlnoffaaGreatDoorBG
import Derived.Test.YthfphedhlnoffaaGreatDoorBC
/- A machine's small steps, by the program; contracts. -/
set_option linter.unusedVariables false
set_option maxHeartbeats 4000000
set_option linter.unusedSimpArgs false
set_option maxRecDepth 100000
open Go Go.Abs Go.Proofs V1 H1 H2 K1 K2 K3 K4 M1 M2 N1
namespace X1
theorem mI{m:Mch}(h:m.ca.length≤16)(h0: ¬m.ca.length=0):(IntKind.i64.wrap ((m.ca.length:Int)-1)).toNat=m.ca.length-1:=by rw[ai (by omega) (by omega)];omega
theorem fZ{m:Mch}(h:m.ca.length≤16):IntKind.i64.wrap ((m.ca.length:Int)-1)=(m.ca.length:Int)-1:=ai (by omega) (by omega)
theorem yl{m:Mch}(h:m.ca.length=0):bJ m=0:=by rw[bJ,if_pos h]
theorem yM{m:Mch}(h: ¬m.ca.length=0):bJ m=(cp m).fl:=by rw[bJ,if_neg h]
theorem c112(m:Mch)(h:m.ca.length≤16):Con Tryz.prog 112 [.obj (aY m)] [.obj (aY m)] (.int .i64 (bJ m)):=by
 have w1:=fZ h
 refine rp 22 Tryz.func112 [.tmp 2] (g:= ?_)
 conv=>whnf
 repeat' (first|(refine aH (by((try simp only[Int.toNat_natCast]);exact aI bF _ _ _ default (by first|omega|(simp;omega)))) ?_;conv=>whnf)|(focus (refine aq (by rfl) ?_;conv=>whnf))|(focus (refine aq (by((rw[yl (by omega)];first|done|rfl|(simp[aY,cp,mI h (by omega)];done)))) ?_;conv=>whnf))|(focus (refine aq (by((rw[yM (by omega)];first|done|rfl|(simp[aY,cp,mI h (by omega)];done)))) ?_;conv=>whnf))|exact True.intro|refine bN ?_|refine im ?_|(refine bS ?_ ?_<;>intro hb))
instance:CC 112:=⟨_,@c112⟩
theorem vm{m:Mch}{x:Int}(h:x<0):dV m x=(m,-24):=by rw[dV,if_pos h]
theorem vP{m:Mch}{x:Int}(h: ¬x<0):dV m x=({m with ip:=x},0):=by rw[dV,if_neg h]
theorem c157(m:Mch)(x:Int):Con Tryz.prog 157 [.obj (aY m),.int .i64 x] [.obj (aY (dV m x).1),.undef] (.int .i64 (dV m x).2):=by
 refine rp 11 Tryz.func157 [.tmp 4] (g:= ?_)
 conv=>whnf
 repeat' (first|(focus (refine aq (by((rw[vm (by omega)];first|done|rfl|(simp[aY];done)))) ?_;conv=>whnf))|(focus (refine aq (by((rw[vP (by omega)];first|done|rfl|(simp[aY];done)))) ?_;conv=>whnf))|exact True.intro|refine aO ?_|(refine bS ?_ ?_<;>intro hb))
instance:CC 157:=⟨_,@c157⟩
def xp(m:Mch)(c:Cal):Mch × Int:=if m.ca.length=16 then(m,-50)else({m with ca:=m.ca++[c]},0)
theorem rS{m:Mch}{c:Cal}(h:m.ca.length=16):xp m c=(m,-50):=by rw[xp,if_pos h]
theorem sw{m:Mch}{c:Cal}(h: ¬m.ca.length=16):xp m c=({m with ca:=m.ca++[c]},0):=by rw[xp,if_neg h]
theorem c117(m:Mch)(c:Cal)(h:m.ca.length≤16):Con Tryz.prog 117 [.obj (aY m),rI c] [.obj (aY (xp m c).1),.undef] (.int .i64 (xp m c).2):=by
 refine rp 21 Tryz.func117 [.tmp 4] (g:= ?_)
 conv=>whnf
 repeat' (first|(focus (refine aq (by((rw[rS (by omega)];first|done|rfl|(simp[aY,bR,bO,aK,aX,aW,bF,am,List.take_of_length_le,List.map_append];done)))) ?_;conv=>whnf))|(focus (refine aq (by((rw[sw (by omega)];first|done|rfl|(simp[aY,bR,bO,aK,aX,aW,bF,am,List.take_of_length_le,List.map_append];done)))) ?_;conv=>whnf))|exact True.intro|refine aO ?_|(refine bS ?_ ?_<;>intro hb))
instance:CC 117:=⟨_,@c117⟩
theorem c79(m:Mch)(h:m.ca.length≤16)(h0: ¬m.ca.length=0):Con Tryz.prog 79 [.obj (aY m)] [.obj (aY (dropC m))] (.tup []):=by
 have w1:=fZ h
 have w:=mI h h0
 refine rp 29 Tryz.func79 [] (g:= ?_)
 conv=>whnf
 repeat' (first|(refine aH (by((try simp only[Int.toNat_natCast]);exact aI bF _ _ _ default (by first|omega|(simp;omega)))) ?_;conv=>whnf)|(focus (refine aq (by rfl) ?_;conv=>whnf))|(focus (refine aq (by solve|simp[aY,dropC,cp,bR,bO,aK,aX,aW,bF,w,am,List.map_take]|fail) ?_;conv=>whnf))|exact True.intro|refine bN ?_|refine im ?_)
instance:CC 79:=⟨_,@c79⟩
end X1

/- Loops, by the program; contracts. -/
open Go Go.Abs Go.Proofs V1 H1 F1 F2 T1 T2 T3 P1 P2 P5 H2 N1 X1
namespace X2
theorem DQ(n:Int):wc (IntKind.i64.wrap n)=wc n:=li (pO _)
theorem pj(n:Int):Con Tryz.prog 165 [.int .i64 n] (aa [.int .i64 n]) (.int .i64 (wc n)):=c165 n
theorem xb{m:Mch}{s x:Int}(h:(m.da.bk.length:Int)-bJ m<2):dm m s x=(m,-6):=by rw[dm,if_pos h]
theorem xa{m:Mch}{s x:Int}(h: ¬(m.da.bk.length:Int)-bJ m<2)(h2:lu s (wc (kL m-pH m)) (wc (wc (kL m-pH m)+s))=true):dm m s x=({m with da:={m.da with bk:=m.da.bk.take (m.da.bk.length-2)}},0):=by rw[dm,if_neg h,if_pos h2]
theorem wd{m:Mch}{s x:Int}(h: ¬(m.da.bk.length:Int)-bJ m<2)(h2: ¬lu s (wc (kL m-pH m)) (wc (wc (kL m-pH m)+s))=true):dm m s x=dV {m with da:={m.da with bk:=m.da.bk.set (m.da.bk.length-1) (wc (kL m+s))}} x:=by rw[dm,if_neg h,if_neg h2]
theorem dF{s d e:Int}:lu s d e=true↔(0≤s∧d<0∧0≤e)∨(s<0∧0≤d∧e<0):=by simp[lu,and_assoc]
theorem jr{l:List Int}(h:aN l=true)(i:Nat): -2147483648≤l.getD i 0∧l.getD i 0≤2147483647:=by
 by_cases hi:i<l.length
 ·have:=List.all_eq_true.1 h l[i] (List.getElem_mem hi)
  rw[show l.getD i 0=l[i] by simp[hi]]
  exact aQ this
 ·rw[show l.getD i 0=0 by simp[hi]];omega
theorem Ic(m:Mch)(x:Int)(h:MI m):Con Tryz.prog 158 [.obj (aY m),.int .i64 61,.int .i64 x] [.obj (aY (dm m 1 x).1),.undef,.undef] (.int .i64 (dm m 1 x).2):=by
 have hb0:=h.da.bk
 have hf0:=h.floor
 have kf:=c112 m h.cl
 have w2:IntKind.i64.wrap ((m.da.bk.length:Int)-2)=(m.da.bk.length:Int)-2:=ai (by omega) (by omega)
 have w1:IntKind.i64.wrap ((m.da.bk.length:Int)-1)=(m.da.bk.length:Int)-1:=ai (by omega) (by omega)
 have wf:IntKind.i64.wrap ((m.da.bk.length:Int)-bJ m)=(m.da.bk.length:Int)-bJ m:=ai (by omega) (by omega)
 by_cases h2:(m.da.bk.length:Int)-bJ m<2
 ·rw[xb h2]
  have g0:decide (IntKind.i64.wrap ((((m.da.bk.map aj).length:Nat):Int)-bJ m)<2)=true:=by rw[List.length_map,wf];exact decide_eq_true h2
  refine rp 106 Tryz.func158 [.tmp 6] (g:= ?_)
  conv=>whnf
  repeat' (first|(refine ax 112 [some 16] ?_;conv=>whnf)|(focus (apply bo (f:=112);(· repeat' (first|(simp only[List.length_map,Nat.zero_add];rewrite[eS];refine ak ?_;simp;done)|(refine ak ?_;simp[bj];done)|exact be _ _ _ _|apply bg|apply bU|apply bE|apply bB|apply cr|apply cH|apply bT|rfl));refine bz (f:=112) rfl (kf ..) ?_;conv=>whnf))|(focus (refine aq (by rfl) ?_;conv=>whnf))|exact True.intro|refine aO ?_)
  all_goals skip
 have g0:decide (IntKind.i64.wrap ((((m.da.bk.map aj).length:Nat):Int)-bJ m)<2)=false:=by rw[List.length_map,wf];exact decide_eq_false h2
 have qa:=jr h.da.cbk (m.da.bk.length-2)
 have qb:=jr h.da.cbk (m.da.bk.length-1)
 have ra: ∀z,dn (m.da.bk.map aj) (IntKind.i64.wrap ((m.da.bk.length:Int)-2)).toNat z=[.int .i64 (pH m)]:=fun z=>by
  rw[w2,show((m.da.bk.length:Int)-2).toNat=m.da.bk.length-2 by omega];exact eQ _ _ _ (by omega)
 have rb: ∀z,dn (m.da.bk.map aj) (IntKind.i64.wrap ((m.da.bk.length:Int)-1)).toNat z=[.int .i64 (kL m)]:=fun z=>by
  rw[w1,show((m.da.bk.length:Int)-1).toNat=m.da.bk.length-1 by omega];exact eQ _ _ _ (by omega)
 have lb:lu 1 (wc (IntKind.i64.wrap (kL m-pH m))) (wc (IntKind.i64.wrap (wc (IntKind.i64.wrap (kL m-pH m))+1)))=true→dm m 1 x=({m with da:={m.da with bk:=m.da.bk.take (m.da.bk.length-2)}},0):=fun p=>xa h2 (by simp only[DQ]at p;exact p)
 have lc: ¬lu 1 (wc (IntKind.i64.wrap (kL m-pH m))) (wc (IntKind.i64.wrap (wc (IntKind.i64.wrap (kL m-pH m))+1)))=true→dm m 1 x=dV {m with da:={m.da with bk:=m.da.bk.set (m.da.bk.length-1) (wc (IntKind.i64.wrap (kL m+1)))}} x:=fun p=>by rw[DQ];exact wd h2 (by simp only[DQ]at p;exact p)
 have eS: ∀z,bl (m.da.bk.map aj) (IntKind.i64.wrap ((m.da.bk.length:Int)-1)).toNat 0 z [.int .i64 (wc (IntKind.i64.wrap (kL m+1)))]=(m.da.bk.set (m.da.bk.length-1) (wc (IntKind.i64.wrap (kL m+1)))).map aj:=fun z=>by
  rw[w1,show((m.da.bk.length:Int)-1).toNat=m.da.bk.length-1 by omega];exact gS _ _ _ _ (by omega)
 have kd:=c152 m.da 2 hb0 (by omega)
 have kb:=c157 {m with da:={m.da with bk:=m.da.bk.set (m.da.bk.length-1) (wc (IntKind.i64.wrap (kL m+1)))}} x
 refine rp 106 Tryz.func158 [.tmp 6] (g:= ?_)
 conv=>whnf
 (iterate 5 ((first|apply ac rfl|apply aJ rfl|refine ax 112 [some 16] ?_);conv=>whnf));(focus (apply bo (f:=112);(· repeat' (first|(simp only[List.length_map,Nat.zero_add];rewrite[eS];refine ak ?_;simp;done)|(refine ak ?_;simp[bj];done)|exact be _ _ _ _|apply bg|apply bU|apply bE|apply bB|apply cr|apply cH|apply bT|rfl));refine bz (f:=112) rfl (kf ..) ?_;conv=>whnf));(iterate 43 ((first|refine ac (by solve|simp only[bj]|fail) ?_|apply ac rfl|refine ac (by refine aU rfl ?_;simp only[cB];omega) ?_|refine ac (by simp only[Bool.and_eq_true,decide_eq_true_eq,List.length_map];omega) ?_|refine aH (by((simp only[List.length_map,Nat.zero_add];exact ra _))) ?_|refine aH (by((simp only[List.length_map,Nat.zero_add];exact rb _))) ?_|refine aG (fun hf=> ?_)|refine ChkS.mk (by kernel_rfl) ?_|refine aJ (by assumption) ?_|apply aB|refine ag (pj ..) ?_);conv=>whnf));(iterate 16 (first|(apply ac rfl;(conv=>whnf))|(apply bL rfl;(conv=>whnf))|(refine cm ?_ ?_<;>intro hb<;>(try simp only[eH]at hb)<;>conv=>whnf)|(refine ax 152 [some 6,none] ?_;(conv=>whnf))));(focus (apply bo (f:=152);(· repeat' (first|(simp only[List.length_map,Nat.zero_add];rewrite[eS];refine ak ?_;simp;done)|(refine ak ?_;simp[bj];done)|exact be _ _ _ _|apply bg|apply bU|apply bE|apply bB|apply cr|apply cH|apply bT|rfl));refine bz (f:=152) rfl (kd ..) ?_;conv=>whnf));(apply ac rfl;conv=>whnf);(focus (refine aq (by((rw[lb (dF.2 (by omega))];first|done|rfl|(simp[aY,aw];done)))) ?_;conv=>whnf));(iterate 10 (apply af (ak (by simp[bj]));conv=>whnf));(focus (refine aq (by((rw[lb (dF.2 (by omega))];first|done|rfl|(simp[aY,aw];done)))) ?_;conv=>whnf));(iterate 39 (first|(refine ac (by solve|simp only[bj]|fail) ?_;(conv=>whnf))|(apply ac rfl;(conv=>whnf))|(refine ac (by refine aU rfl ?_;simp only[cB];omega) ?_;(conv=>whnf))|(refine ac (by simp only[Bool.and_eq_true,decide_eq_true_eq,List.length_map];omega) ?_;(conv=>whnf))|(apply af rfl;(conv=>whnf))|(refine aG (fun hf=> ?_);(conv=>whnf))|(refine ChkS.mk (by kernel_rfl) ?_;(conv=>whnf))|(apply aJ rfl;(conv=>whnf))|(refine ax 157 [some 16,none] ?_;(conv=>whnf))|(refine ag (pj ..) ?_;(conv=>whnf))|(exact True.intro)));(focus (apply bo (f:=157);(· repeat' (first|(simp only[List.length_map,Nat.zero_add];rewrite[eS];refine ak ?_;simp;done)|(refine ak ?_;simp[bj];done)|exact be _ _ _ _|apply bg|apply bU|apply bE|apply bB|apply cr|apply cH|apply bT|rfl));refine bz (f:=157) rfl (kb ..) ?_;conv=>whnf));(refine aG (fun hf=> ?_);conv=>whnf);(apply ac rfl;conv=>whnf);(focus (refine aq (by((rw[lc (mt dF.1 (by omega))];first|done|rfl|(simp[aY,aw];done)))) ?_;conv=>whnf));(iterate 10 (apply af (ak (by simp[bj]));conv=>whnf));(focus (refine aq (by((rw[lc (mt dF.1 (by omega))];first|done|rfl|(simp[aY,aw];done)))) ?_;conv=>whnf));(iterate 42 (first|(refine ac (by solve|simp only[bj]|fail) ?_;(conv=>whnf))|(apply ac rfl;(conv=>whnf))|(refine ac (by refine aU rfl ?_;simp only[cB];omega) ?_;(conv=>whnf))|(refine ac (by simp only[Bool.and_eq_true,decide_eq_true_eq,List.length_map];omega) ?_;(conv=>whnf))|(apply af rfl;(conv=>whnf))|(refine aG (fun hf=> ?_);(conv=>whnf))|(refine ChkS.mk (by kernel_rfl) ?_;(conv=>whnf))|(apply aJ rfl;(conv=>whnf))|(refine ax 157 [some 16,none] ?_;(conv=>whnf))|(refine ag (pj ..) ?_;(conv=>whnf))|(exact True.intro)));(focus (apply bo (f:=157);(· repeat' (first|(simp only[List.length_map,Nat.zero_add];rewrite[eS];refine ak ?_;simp;done)|(refine ak ?_;simp[bj];done)|exact be _ _ _ _|apply bg|apply bU|apply bE|apply bB|apply cr|apply cH|apply bT|rfl));refine bz (f:=157) rfl (kb ..) ?_;conv=>whnf));(refine aG (fun hf=> ?_);conv=>whnf);(apply ac rfl;conv=>whnf);(focus (refine aq (by((rw[lc (mt dF.1 (by omega))];first|done|rfl|(simp[aY,aw];done)))) ?_;conv=>whnf));(iterate 10 (apply af (ak (by simp[bj]));conv=>whnf));(focus (refine aq (by((rw[lc (mt dF.1 (by omega))];first|done|rfl|(simp[aY,aw];done)))) ?_;conv=>whnf))
 exact True.intro
theorem IX(m:Mch)(x:Int)(h0:m.da.st.length=0):Con Tryz.prog 158 [.obj (aY m),.int .i64 62,.int .i64 x] [.obj (aY m),.undef,.undef] (.int .i64 (-4)):=by
 have kp:=c156 m.da (by omega)
 rw[qw h0]at kp
 refine rp 106 Tryz.func158 [.tmp 6] (g:= ?_)
 conv=>whnf
 refine aO ?_
 (refine ax 156 [some 6] ?_;conv=>whnf)
 refine aO ?_
 (focus (apply bo (f:=156);(· repeat' (first|(simp only[List.length_map,Nat.zero_add];rewrite[eS];refine ak ?_;simp;done)|(refine ak ?_;simp[bj];done)|exact be _ _ _ _|apply bg|apply bU|apply bE|apply bB|apply cr|apply cH|apply bT|rfl));refine bz (f:=156) rfl (kp ..) ?_;conv=>whnf))
 exact go
set_option maxHeartbeats 4000000 in
theorem IE(m:Mch)(d2:Dat)(t x:Int)(hq:MI {m with da:=d2})(kp:Con Tryz.prog 156 [.obj (aw m.da)] [.obj (aw d2)] (.tup [.int .i64 t,.int .i64 0])):Con Tryz.prog 158 [.obj (aY m),.int .i64 62,.int .i64 x] [.obj (aY (dm {m with da:=d2} t x).1),.undef,.undef] (.int .i64 (dm {m with da:=d2} t x).2):=by
 have hb0:d2.bk.length≤32:=hq.da.bk
 have hf0:0≤bJ m∧bJ m≤d2.bk.length:=hq.floor
 have kf:Con Tryz.prog 112 [.obj (aY {m with da:=d2})] [.obj (aY {m with da:=d2})] (.int .i64 (bJ m)):=c112 {m with da:=d2} hq.cl
 have w2:IntKind.i64.wrap ((d2.bk.length:Int)-2)=(d2.bk.length:Int)-2:=ai (by omega) (by omega)
 have w1:IntKind.i64.wrap ((d2.bk.length:Int)-1)=(d2.bk.length:Int)-1:=ai (by omega) (by omega)
 have wf:IntKind.i64.wrap ((d2.bk.length:Int)-bJ m)=(d2.bk.length:Int)-bJ m:=ai (by omega) (by omega)
 by_cases h2:(d2.bk.length:Int)-bJ m<2
 ·rw[xb (m:={m with da:=d2}) h2]
  have g0:decide (IntKind.i64.wrap ((((d2.bk.map aj).length:Nat):Int)-bJ m)<2)=true:=by rw[List.length_map,wf];exact decide_eq_true h2
  refine rp 106 Tryz.func158 [.tmp 6] (g:= ?_)
  conv=>whnf
  repeat' (first|(refine ax 156 [some 6] ?_;conv=>whnf)|(focus (apply bo (f:=156);(· repeat' (first|(simp only[List.length_map,Nat.zero_add];rewrite[eS];refine ak ?_;simp;done)|(refine ak ?_;simp[bj];done)|exact be _ _ _ _|apply bg|apply bU|apply bE|apply bB|apply cr|apply cH|apply bT|rfl));refine bz (f:=156) rfl (kp ..) ?_;conv=>whnf))|(refine ax 112 [some 16] ?_;conv=>whnf)|(focus (apply bo (f:=112);(· repeat' (first|(simp only[List.length_map,Nat.zero_add];rewrite[eS];refine ak ?_;simp;done)|(refine ak ?_;simp[bj];done)|exact be _ _ _ _|apply bg|apply bU|apply bE|apply bB|apply cr|apply cH|apply bT|rfl));refine bz (f:=112) rfl (kf ..) ?_;conv=>whnf))|(focus (refine aq (by rfl) ?_;conv=>whnf))|exact True.intro|refine aO ?_)
  all_goals skip
 have g0:decide (IntKind.i64.wrap ((((d2.bk.map aj).length:Nat):Int)-bJ m)<2)=false:=by rw[List.length_map,wf];exact decide_eq_false h2
 have qa:=jr hq.da.cbk (d2.bk.length-2)
 have qb:=jr hq.da.cbk (d2.bk.length-1)
 have ra: ∀z,dn (d2.bk.map aj) (IntKind.i64.wrap ((d2.bk.length:Int)-2)).toNat z=[.int .i64 (pH {m with da:=d2})]:=fun z=>by
  rw[w2,show((d2.bk.length:Int)-2).toNat=d2.bk.length-2 by omega];exact eQ _ _ _ (by omega)
 have rb: ∀z,dn (d2.bk.map aj) (IntKind.i64.wrap ((d2.bk.length:Int)-1)).toNat z=[.int .i64 (kL {m with da:=d2})]:=fun z=>by
  rw[w1,show((d2.bk.length:Int)-1).toNat=d2.bk.length-1 by omega];exact eQ _ _ _ (by omega)
 have lb:lu t (wc (IntKind.i64.wrap (kL {m with da:=d2}-pH {m with da:=d2}))) (wc (IntKind.i64.wrap (wc (IntKind.i64.wrap (kL {m with da:=d2}-pH {m with da:=d2}))+t)))=true→dm {m with da:=d2} t x=({m with da:={d2 with bk:=d2.bk.take (d2.bk.length-2)}},0):=fun p=>xa (m:={m with da:=d2}) (s:=t) h2 (by simp only[DQ]at p;exact p)
 have lc: ¬lu t (wc (IntKind.i64.wrap (kL {m with da:=d2}-pH {m with da:=d2}))) (wc (IntKind.i64.wrap (wc (IntKind.i64.wrap (kL {m with da:=d2}-pH {m with da:=d2}))+t)))=true→dm {m with da:=d2} t x=dV {m with da:={d2 with bk:=d2.bk.set (d2.bk.length-1) (wc (IntKind.i64.wrap (kL {m with da:=d2}+t)))}} x:=fun p=>by rw[DQ];exact wd (m:={m with da:=d2}) (s:=t) h2 (by simp only[DQ]at p;exact p)
 have eS: ∀z,bl (d2.bk.map aj) (IntKind.i64.wrap ((d2.bk.length:Int)-1)).toNat 0 z [.int .i64 (wc (IntKind.i64.wrap (kL {m with da:=d2}+t)))]=(d2.bk.set (d2.bk.length-1) (wc (IntKind.i64.wrap (kL {m with da:=d2}+t)))).map aj:=fun z=>by
  rw[w1,show((d2.bk.length:Int)-1).toNat=d2.bk.length-1 by omega];exact gS _ _ _ _ (by omega)
 have kd:=c152 d2 2 hb0 (by omega)
 have kb:=c157 {m with da:={d2 with bk:=d2.bk.set (d2.bk.length-1) (wc (IntKind.i64.wrap (kL {m with da:=d2}+t)))}} x
 refine rp 106 Tryz.func158 [.tmp 6] (g:= ?_)
 conv=>whnf
 (iterate 4 ((first|apply ac rfl|apply bL rfl|refine ax 156 [some 6] ?_);conv=>whnf));(focus (apply bo (f:=156);(· repeat' (first|(simp only[List.length_map,Nat.zero_add];rewrite[eS];refine ak ?_;simp;done)|(refine ak ?_;simp[bj];done)|exact be _ _ _ _|apply bg|apply bU|apply bE|apply bB|apply cr|apply cH|apply bT|rfl));refine bz (f:=156) rfl (kp ..) ?_;conv=>whnf));(iterate 7 ((first|apply ac rfl|refine aG (fun hf=> ?_)|apply aJ rfl|refine ax 112 [some 16] ?_);conv=>whnf));(focus (apply bo (f:=112);(· repeat' (first|(simp only[List.length_map,Nat.zero_add];rewrite[eS];refine ak ?_;simp;done)|(refine ak ?_;simp[bj];done)|exact be _ _ _ _|apply bg|apply bU|apply bE|apply bB|apply cr|apply cH|apply bT|rfl));refine bz (f:=112) rfl (kf ..) ?_;conv=>whnf));(iterate 43 ((first|refine ac (by solve|simp only[bj]|fail) ?_|apply ac rfl|refine ac (by refine aU rfl ?_;simp only[cB];omega) ?_|refine ac (by simp only[Bool.and_eq_true,decide_eq_true_eq,List.length_map];omega) ?_|refine aH (by((simp only[List.length_map,Nat.zero_add];exact ra _))) ?_|refine aH (by((simp only[List.length_map,Nat.zero_add];exact rb _))) ?_|refine aG (fun hf=> ?_)|refine ChkS.mk (by kernel_rfl) ?_|refine aJ (by assumption) ?_|apply aB|refine ag (pj ..) ?_);conv=>whnf));(iterate 16 (first|(apply ac rfl;(conv=>whnf))|(apply bL rfl;(conv=>whnf))|(refine cm ?_ ?_<;>intro hb<;>(try simp only[eH]at hb)<;>conv=>whnf)|(refine ax 152 [some 6,none] ?_;(conv=>whnf))));(focus (apply bo (f:=152);(· repeat' (first|(simp only[List.length_map,Nat.zero_add];rewrite[eS];refine ak ?_;simp;done)|(refine ak ?_;simp[bj];done)|exact be _ _ _ _|apply bg|apply bU|apply bE|apply bB|apply cr|apply cH|apply bT|rfl));refine bz (f:=152) rfl (kd ..) ?_;conv=>whnf));(apply ac rfl;conv=>whnf);(focus (refine aq (by((rw[lb (dF.2 (by omega))];first|done|rfl|(simp[aY,aw];done)))) ?_;conv=>whnf));(iterate 10 (apply af (ak (by simp[bj]));conv=>whnf));(focus (refine aq (by((rw[lb (dF.2 (by omega))];first|done|rfl|(simp[aY,aw];done)))) ?_;conv=>whnf));(iterate 39 (first|(refine ac (by solve|simp only[bj]|fail) ?_;(conv=>whnf))|(apply ac rfl;(conv=>whnf))|(refine ac (by refine aU rfl ?_;simp only[cB];omega) ?_;(conv=>whnf))|(refine ac (by simp only[Bool.and_eq_true,decide_eq_true_eq,List.length_map];omega) ?_;(conv=>whnf))|(apply af rfl;(conv=>whnf))|(refine aG (fun hf=> ?_);(conv=>whnf))|(refine ChkS.mk (by kernel_rfl) ?_;(conv=>whnf))|(apply aJ rfl;(conv=>whnf))|(refine aJ (by(exact decide_eq_false (by omega))) ?_;(conv=>whnf))|(refine ax 157 [some 16,none] ?_;(conv=>whnf))|(refine ag (pj ..) ?_;(conv=>whnf))|(exact True.intro)));(focus (apply bo (f:=157);(· repeat' (first|(simp only[List.length_map,Nat.zero_add];rewrite[eS];refine ak ?_;simp;done)|(refine ak ?_;simp[bj];done)|exact be _ _ _ _|apply bg|apply bU|apply bE|apply bB|apply cr|apply cH|apply bT|rfl));refine bz (f:=157) rfl (kb ..) ?_;conv=>whnf));(refine aG (fun hf=> ?_);conv=>whnf);(apply ac rfl;conv=>whnf);(focus (refine aq (by((rw[lc (mt dF.1 (by omega))];first|done|rfl|(simp[aY,aw];done)))) ?_;conv=>whnf));(iterate 10 (apply af (ak (by simp[bj]));conv=>whnf));(focus (refine aq (by((rw[lc (mt dF.1 (by omega))];first|done|rfl|(simp[aY,aw];done)))) ?_;conv=>whnf));(iterate 42 (first|(refine ac (by solve|simp only[bj]|fail) ?_;(conv=>whnf))|(apply ac rfl;(conv=>whnf))|(refine ac (by refine aU rfl ?_;simp only[cB];omega) ?_;(conv=>whnf))|(refine ac (by simp only[Bool.and_eq_true,decide_eq_true_eq,List.length_map];omega) ?_;(conv=>whnf))|(apply af rfl;(conv=>whnf))|(refine aG (fun hf=> ?_);(conv=>whnf))|(refine ChkS.mk (by kernel_rfl) ?_;(conv=>whnf))|(apply aJ rfl;(conv=>whnf))|(refine aJ (by(exact decide_eq_false (by omega))) ?_;(conv=>whnf))|(refine ax 157 [some 16,none] ?_;(conv=>whnf))|(refine ag (pj ..) ?_;(conv=>whnf))|(exact True.intro)));(focus (apply bo (f:=157);(· repeat' (first|(simp only[List.length_map,Nat.zero_add];rewrite[eS];refine ak ?_;simp;done)|(refine ak ?_;simp[bj];done)|exact be _ _ _ _|apply bg|apply bU|apply bE|apply bB|apply cr|apply cH|apply bT|rfl));refine bz (f:=157) rfl (kb ..) ?_;conv=>whnf));(refine aG (fun hf=> ?_);conv=>whnf);(apply ac rfl;conv=>whnf);(focus (refine aq (by((rw[lc (mt dF.1 (by omega))];first|done|rfl|(simp[aY,aw];done)))) ?_;conv=>whnf));(iterate 10 (apply af (ak (by simp[bj]));conv=>whnf));(focus (refine aq (by((rw[lc (mt dF.1 (by omega))];first|done|rfl|(simp[aY,aw];done)))) ?_;conv=>whnf));(iterate 21 (first|(apply ac rfl;(conv=>whnf))|(apply bL rfl;(conv=>whnf))|(apply aJ rfl;(conv=>whnf))|(refine bL (by(exact decide_eq_true (by omega))) ?_;(conv=>whnf))|(refine cm ?_ ?_<;>intro hb<;>(try simp only[eH]at hb)<;>conv=>whnf)|(refine ax 152 [some 6,none] ?_;(conv=>whnf))|(exact True.intro)));(focus (apply bo (f:=152);(· repeat' (first|(simp only[List.length_map,Nat.zero_add];rewrite[eS];refine ak ?_;simp;done)|(refine ak ?_;simp[bj];done)|exact be _ _ _ _|apply bg|apply bU|apply bE|apply bB|apply cr|apply cH|apply bT|rfl));refine bz (f:=152) rfl (kd ..) ?_;conv=>whnf));(apply ac rfl;conv=>whnf);(focus (refine aq (by((rw[lb (dF.2 (by omega))];first|done|rfl|(simp[aY,aw];done)))) ?_;conv=>whnf));(iterate 10 (apply af (ak (by simp[bj]));conv=>whnf));(focus (refine aq (by((rw[lb (dF.2 (by omega))];first|done|rfl|(simp[aY,aw];done)))) ?_;conv=>whnf));(iterate 27 (first|(refine ac (by solve|simp only[bj]|fail) ?_;(conv=>whnf))|(apply ac rfl;(conv=>whnf))|(refine ac (by refine aU rfl ?_;simp only[cB];omega) ?_;(conv=>whnf))|(refine ac (by simp only[Bool.and_eq_true,decide_eq_true_eq,List.length_map];omega) ?_;(conv=>whnf))|(apply af rfl;(conv=>whnf))|(refine aG (fun hf=> ?_);(conv=>whnf))|(refine ChkS.mk (by kernel_rfl) ?_;(conv=>whnf))|(refine ax 157 [some 16,none] ?_;(conv=>whnf))|(refine ag (pj ..) ?_;(conv=>whnf))|(exact True.intro)));(focus (apply bo (f:=157);(· repeat' (first|(simp only[List.length_map,Nat.zero_add];rewrite[eS];refine ak ?_;simp;done)|(refine ak ?_;simp[bj];done)|exact be _ _ _ _|apply bg|apply bU|apply bE|apply bB|apply cr|apply cH|apply bT|rfl));refine bz (f:=157) rfl (kb ..) ?_;conv=>whnf));(refine aG (fun hf=> ?_);conv=>whnf);(apply ac rfl;conv=>whnf);(focus (refine aq (by((rw[lc (mt dF.1 (by omega))];first|done|rfl|(simp[aY,aw];done)))) ?_;conv=>whnf));(iterate 10 (apply af (ak (by simp[bj]));conv=>whnf));(focus (refine aq (by((rw[lc (mt dF.1 (by omega))];first|done|rfl|(simp[aY,aw];done)))) ?_;conv=>whnf));(iterate 31 (first|(refine ac (by solve|simp only[bj]|fail) ?_;(conv=>whnf))|(apply ac rfl;(conv=>whnf))|(refine ac (by refine aU rfl ?_;simp only[cB];omega) ?_;(conv=>whnf))|(refine ac (by simp only[Bool.and_eq_true,decide_eq_true_eq,List.length_map];omega) ?_;(conv=>whnf))|(apply af rfl;(conv=>whnf))|(refine aG (fun hf=> ?_);(conv=>whnf))|(refine ChkS.mk (by kernel_rfl) ?_;(conv=>whnf))|(apply aJ rfl;(conv=>whnf))|(refine ax 157 [some 16,none] ?_;(conv=>whnf))|(refine ag (pj ..) ?_;(conv=>whnf))|(exact True.intro)));(focus (apply bo (f:=157);(· repeat' (first|(simp only[List.length_map,Nat.zero_add];rewrite[eS];refine ak ?_;simp;done)|(refine ak ?_;simp[bj];done)|exact be _ _ _ _|apply bg|apply bU|apply bE|apply bB|apply cr|apply cH|apply bT|rfl));refine bz (f:=157) rfl (kb ..) ?_;conv=>whnf));(refine aG (fun hf=> ?_);conv=>whnf);(apply ac rfl;conv=>whnf);(focus (refine aq (by((rw[lc (mt dF.1 (by omega))];first|done|rfl|(simp[aY,aw];done)))) ?_;conv=>whnf));(iterate 10 (apply af (ak (by simp[bj]));conv=>whnf));(focus (refine aq (by((rw[lc (mt dF.1 (by omega))];first|done|rfl|(simp[aY,aw];done)))) ?_;conv=>whnf))
 exact True.intro
end X2

/- Words of compiled code, by the program; contracts. -/
open Go Go.Abs Go.Proofs V1 H1 H2 F1 F2 T1 T2 T3 P1 P2 P5 N1 X1 X2
namespace X3
theorem I2{m:Mch}(h:m.da.st.length<2):we m=(m,-4):=by rw[we,if_pos h]
theorem Hf{m:Mch}(h: ¬m.da.st.length<2)(h2:32<m.da.bk.length+2):we m=(m,-5):=by rw[we,if_neg h,if_pos h2]
theorem G4{m:Mch}(h: ¬m.da.st.length<2)(h2: ¬32<m.da.bk.length+2):we m=({m with da:={m.da with st:=m.da.st.take (m.da.st.length-2),bk:=m.da.bk++m.da.st.drop (m.da.st.length-2)}},0):=by rw[we,if_neg h,if_neg h2]
theorem GN(m:Mch)(h:MI m):Con Tryz.prog 119 [.obj (aY m),.int .i64 60] [.obj (aY (we m).1),.undef] (.int .i64 (we m).2):=by
 have hs:=h.da.st
 have hb:=h.da.bk
 have wb:IntKind.i64.wrap ((m.da.bk.length:Int)+2)=(m.da.bk.length:Int)+2:=ai (by omega) (by omega)
 by_cases h1:m.da.st.length<2
 ·rw[I2 h1]
  exact rp 124 Tryz.func119 [.tmp 4] (g:=go)
 by_cases h2:32<m.da.bk.length+2
 ·rw[Hf h1 h2]
  have g2:decide (IntKind.i64.wrap ((((m.da.bk.map aj).length:Nat):Int)+2)>32)=true:=by rw[List.length_map,wb];exact decide_eq_true (by omega)
  exact rp 124 Tryz.func119 [.tmp 4] (g:=go)
 rw[G4 h1 h2]
 have g2:decide (IntKind.i64.wrap ((((m.da.bk.map aj).length:Nat):Int)+2)>32)=false:=by rw[List.length_map,wb];exact decide_eq_false (by omega)
 have ws:IntKind.i64.wrap ((m.da.st.length:Int)-2)=(m.da.st.length:Int)-2:=ai (by omega) (by omega)
 have e1:(List.take ((IntKind.i64.wrap (((m.da.st.map aj).length:Int)-2)).toNat-0) (List.drop (0+0) m.da.st)).map aj=(m.da.st.take (m.da.st.length-2)).map aj:=by
  rw[List.length_map,ws,show((m.da.st.length:Int)-2).toNat=m.da.st.length-2 by omega];rfl
 have e2:am (am (m.da.bk.map aj) 0 (m.da.bk.map aj).length++am (m.da.st.map aj) (0+(IntKind.i64.wrap (((m.da.st.map aj).length:Int)-2)).toNat) ((m.da.st.map aj).length-(IntKind.i64.wrap (((m.da.st.map aj).length:Int)-2)).toNat)) 0 ((m.da.bk.map aj).length+(am (m.da.st.map aj) (0+(IntKind.i64.wrap (((m.da.st.map aj).length:Int)-2)).toNat) ((m.da.st.map aj).length-(IntKind.i64.wrap (((m.da.st.map aj).length:Int)-2)).toNat)).length)=(m.da.bk++m.da.st.drop (m.da.st.length-2)).map aj:=by
  rw[List.length_map,List.length_map,ws,show((m.da.st.length:Int)-2).toNat=m.da.st.length-2 by omega]
  simp[am,List.take_of_length_le]
 refine rp 124 Tryz.func119 [.tmp 4] (g:= ?_)
 conv=>whnf
 repeat' (first|(apply ac (by(((simp[ao,AV.plain,am,ws];omega))));conv=>whnf)|(focus (refine aq (by rfl) ?_;conv=>whnf))|(focus (refine aq (by(exact bE (bg rfl (bg rfl (bg (bB e1) (bg (bB e2) rfl)))))) ?_;conv=>whnf))|exact True.intro|refine aO ?_)
end X3

/- All words of compiled code, by the program; the contract. -/
open Go Go.Abs Go.Proofs V1 H1 H2 F1 F2 T1 T2 T3 P1 P2 P5 N1 X1 X2 X3
namespace X4
theorem Gd(m:Mch)(n:Int)(h0:decide (n=60)=false)(hi:(m.co.length:Int)≤m.ip):Con Tryz.prog 119 [.obj (aY m),.int .i64 n] [.obj (aY m),.undef] (.int .i64 (-24)):=
 rp 124 Tryz.func119 [.tmp 4] (g:=go)
theorem iT{m:Mch}(h:MI m)(hi: ¬(m.co.length:Int)≤m.ip)(z:List AV):dn (m.co.map aj) m.ip.toNat z=[.int .i64 (m.co.getD m.ip.toNat 0)]:=eQ _ _ _ (by have:=h.ip;omega)
abbrev wM(m:Mch):Mch:={m with ip:=IntKind.i64.wrap (m.ip+1)}
theorem next_w{m:Mch}(h:MI m):nextM m=wM m:=by
 have:=h.ip
 rw[nextM,wM,ai (by omega) (by omega)]
theorem GJ(m:Mch)(h:MI m)(hi: ¬(m.co.length:Int)≤m.ip):Con Tryz.prog 119 [.obj (aY m),.int .i64 57] [.obj (aY (bn (wM m) (m.co.getD m.ip.toNat 0)).1),.undef] (.int .i64 (bn (wM m) (m.co.getD m.ip.toNat 0)).2):=by
 have ra:=iT h hi
 have hp:=h.ip
 have kp:=c80 m.da (m.co.getD m.ip.toNat 0) (by have:=h.da.st;omega)
 refine rp 124 Tryz.func119 [.tmp 4] (g:= ?_)
 conv=>whnf
 refine aO ?_
 (refine ax 80 [some 6,none] ?_;conv=>whnf)
 refine aO ?_
 (refine eo (kp ..) ?_;conv=>whnf)
 exact go
theorem FI(m:Mch)(h:MI m)(hi: ¬(m.co.length:Int)≤m.ip):Con Tryz.prog 119 [.obj (aY m),.int .i64 58] [.obj (aY (dV (wM m) (m.co.getD m.ip.toNat 0)).1),.undef] (.int .i64 (dV (wM m) (m.co.getD m.ip.toNat 0)).2):=by
 have ra:=iT h hi
 have hp:=h.ip
 have kb:=c157 (wM m) (m.co.getD m.ip.toNat 0)
 refine rp 124 Tryz.func119 [.tmp 4] (g:= ?_)
 conv=>whnf
 refine aO ?_
 (refine ax 157 [some 16,none] ?_;conv=>whnf)
 refine aO ?_
 (refine eo (kb ..) ?_;conv=>whnf)
 exact go
theorem Ej(m:Mch)(h:MI m)(hi: ¬(m.co.length:Int)≤m.ip)(h0:m.da.st.length=0):Con Tryz.prog 119 [.obj (aY m),.int .i64 59] [.obj (aY (wM m)),.undef] (.int .i64 (-4)):=by
 have ra:=iT h hi
 have hp:=h.ip
 have kp:=c156 m.da (by omega)
 rw[qw h0]at kp
 refine rp 124 Tryz.func119 [.tmp 4] (g:= ?_)
 conv=>whnf
 refine aO ?_
 (refine ax 156 [some 6] ?_;conv=>whnf)
 refine aO ?_
 (refine eo (kp ..) ?_;conv=>whnf)
 exact go
theorem Ef(m:Mch)(h:MI m)(hi: ¬(m.co.length:Int)≤m.ip)(h0: ¬m.da.st.length=0)(h1:bu m.da≠0):Con Tryz.prog 119 [.obj (aY m),.int .i64 59] [.obj (aY (cP (wM m))),.undef] (.int .i64 0):=by
 have ra:=iT h hi
 have hp:=h.ip
 have kp:=kT m.da (by have:=h.da.st;omega) h0
 have g1:(bu m.da != 0)=true:=bne_iff_ne.2 h1
 refine rp 124 Tryz.func119 [.tmp 4] (g:= ?_)
 conv=>whnf
 refine aO ?_
 (refine ax 156 [some 6] ?_;conv=>whnf)
 refine aO ?_
 (refine eo (kp ..) ?_;conv=>whnf)
 exact go
theorem CZ(m:Mch)(h:MI m)(hi: ¬(m.co.length:Int)≤m.ip)(h0: ¬m.da.st.length=0)(h1:bu m.da=0):Con Tryz.prog 119 [.obj (aY m),.int .i64 59] [.obj (aY (dV (cP (wM m)) (m.co.getD m.ip.toNat 0)).1),.undef] (.int .i64 (dV (cP (wM m)) (m.co.getD m.ip.toNat 0)).2):=by
 have ra:=iT h hi
 have hp:=h.ip
 have kp:=kT m.da (by have:=h.da.st;omega) h0
 rw[h1]at kp
 have kb:=c157 (cP (wM m)) (m.co.getD m.ip.toNat 0)
 refine rp 124 Tryz.func119 [.tmp 4] (g:= ?_)
 conv=>whnf
 iterate 8 (first|(refine eo (kb ..) ?_;conv=>whnf)|(refine ax 157 [some 16,none] ?_;conv=>whnf)|(refine eo (kp ..) ?_;conv=>whnf)|(refine ax 156 [some 6] ?_;conv=>whnf)|refine aO ?_)
 exact go
theorem FU(m:Mch)(h:MI m)(hi: ¬(m.co.length:Int)≤m.ip):Con Tryz.prog 119 [.obj (aY m),.int .i64 61] [.obj (aY (dm (wM m) 1 (m.co.getD m.ip.toNat 0)).1),.undef] (.int .i64 (dm (wM m) 1 (m.co.getD m.ip.toNat 0)).2):=by
 have ra:=iT h hi
 have hp:=h.ip
 have kb:=Ic (wM m) (m.co.getD m.ip.toNat 0) (next_w h▸h.nextM (by omega))
 refine rp 124 Tryz.func119 [.tmp 4] (g:= ?_)
 conv=>whnf
 refine aO ?_
 (refine ax 158 [some 16,none,none] ?_;conv=>whnf)
 refine aO ?_
 (refine eo (kb ..) ?_;conv=>whnf)
 exact go
theorem Dv(m:Mch)(h:MI m)(hi: ¬(m.co.length:Int)≤m.ip)(h0:m.da.st.length=0):Con Tryz.prog 119 [.obj (aY m),.int .i64 62] [.obj (aY (wM m)),.undef] (.int .i64 (-4)):=by
 have ra:=iT h hi
 have hp:=h.ip
 have kb:=IX (wM m) (m.co.getD m.ip.toNat 0) h0
 refine rp 124 Tryz.func119 [.tmp 4] (g:= ?_)
 conv=>whnf
 refine aO ?_
 (refine ax 158 [some 16,none,none] ?_;conv=>whnf)
 refine aO ?_
 (refine eo (kb ..) ?_;conv=>whnf)
 exact go
theorem Dm(m:Mch)(h:MI m)(hi: ¬(m.co.length:Int)≤m.ip)(h0: ¬m.da.st.length=0):Con Tryz.prog 119 [.obj (aY m),.int .i64 62] [.obj (aY (dm (cP (wM m)) (bu m.da) (m.co.getD m.ip.toNat 0)).1),.undef] (.int .i64 (dm (cP (wM m)) (bu m.da) (m.co.getD m.ip.toNat 0)).2):=by
 have ra:=iT h hi
 have hp:=h.ip
 have kp:=kT m.da (by have:=h.da.st;omega) h0
 have kb:=IE (wM m) {m.da with st:=m.da.st.take (m.da.st.length-1)} (bu m.da) (m.co.getD m.ip.toNat 0) (fV (next_w h▸h.nextM (by omega))) kp
 refine rp 124 Tryz.func119 [.tmp 4] (g:= ?_)
 conv=>whnf
 refine aO ?_
 (refine ax 158 [some 16,none,none] ?_;conv=>whnf)
 refine aO ?_
 (refine eo (kb ..) ?_;conv=>whnf)
 exact go
theorem Hk(m:Mch)(h:MI m)(k:Int)(hk:1≤k∧k≤6):Con Tryz.prog 119 [.obj (aY m),.int .i64 (k+56)] [.obj (aY (fO true m k).1),.undef] (.int .i64 (fO true m k).2):=by
 by_cases h4:k=4
 ·subst h4
  exact GN m h
 unfold fO
 rw[if_neg h4]
 by_cases hi:(m.co.length:Int)≤m.ip
 ·rw[if_pos hi]
  exact Gd m (k+56) (decide_eq_false (by omega)) hi
 rw[if_neg hi,if_pos rfl,next_w h]
 have hc:k=1∨k=2∨k=3∨k=5∨k=6:=by omega
 rcases hc with rfl|rfl|rfl|rfl|rfl
 ·exact GJ m h hi
 ·exact FI m h hi
 ·by_cases h0:m.da.st.length=0
  ·have e:dv (wM m) (wM m) (m.co.getD m.ip.toNat 0) 3=(wM m,-4):=by simp[dv,h0]
   rw[e];exact Ej m h hi h0
  ·by_cases h1:bu m.da=0
   ·have e:dv (wM m) (wM m) (m.co.getD m.ip.toNat 0) 3=dV (cP (wM m)) (m.co.getD m.ip.toNat 0):=by simp[dv,h0,h1]
    rw[e];exact CZ m h hi h0 h1
   ·have e:dv (wM m) (wM m) (m.co.getD m.ip.toNat 0) 3=(cP (wM m),0):=by simp[dv,h0,h1]
    rw[e];exact Ef m h hi h0 h1
 ·exact FU m h hi
 ·by_cases h0:m.da.st.length=0
  ·have e:dv (wM m) (wM m) (m.co.getD m.ip.toNat 0) 6=(wM m,-4):=by simp[dv,h0]
   rw[e];exact Dv m h hi h0
  ·have e:dv (wM m) (wM m) (m.co.getD m.ip.toNat 0) 6=dm (cP (wM m)) (bu m.da) (m.co.getD m.ip.toNat 0):=by simp[dv,h0]
   rw[e];exact Dm m h hi h0
end X4

/- Tokens, words of flow, by the program; contracts. -/
open Go Go.Abs Go.Proofs V1 H1 H2 F1 F2 T1 T2 T3 P1 P2 P5 N1 X1 X2 X3 X4
namespace X5
theorem cF{ws:List Wd}{n:Int}(hw:ws.length≤103)(hn:bm n 1 ws.length=true)(z:List AV):dn (ws.map dl) (IntKind.i64.wrap (n-1)).toNat z=dl (cT ws n):=by
 have:=aQ hn
 rw[ai (by omega) (by omega)]
 exact aI dl _ _ _ default (by omega)
theorem c71(ws:List Wd)(n:Int)(hw:ws.length≤103):Con Tryz.prog 71 [fq ws,.int .i64 n] (aa [fq ws,.int .i64 n]) (.bool (ck ws n)):=by
 have k1:=c95 n 1 ((ws.map dl).length:Nat)
 rw[show bm n 1 ((ws.map dl).length:Nat)=bm n 1 ws.length by rw[List.length_map]]at k1
 by_cases h0:bm n 1 ws.length=true
 ·have ra:=cF hw h0
  have h1:=aQ h0
  have w1:IntKind.i64.wrap (n-1)=n-1:=ai (by omega) (by omega)
  rw[h0]at k1
  refine rn 27 Tryz.func71 [.tmp 4] (g:= ?_)
  conv=>whnf
  repeat' (first|(focus (refine aA ?_;(first|(simp_all[ck];done)|(simp_all[ck,bne];done)|(simp_all[ck,bne,Bool.beq_eq_decide_eq];done))))|refine aO ?_|(refine bS ?_ ?_<;>intro hb))
 ·rw[Bool.not_eq_true]at h0
  rw[h0]at k1
  refine rn 27 Tryz.func71 [.tmp 4] (g:= ?_)
  conv=>whnf
  refine aO ?_
  (focus (refine aA ?_;(first|(simp_all[ck];done)|(simp_all[ck,bne];done)|(simp_all[ck,bne,Bool.beq_eq_decide_eq];done))))
instance:CC 71:=⟨_,@c71⟩
theorem eO{m:Mch}(h:m.ca.length≤16)(h0: ¬m.ca.length=0)(z:List AV):dn (m.ca.map bF) (IntKind.i64.wrap ((m.ca.length:Int)-1)).toNat z=bF (cp m):=by
 rw[mI h h0]
 exact aI bF _ _ _ default (by omega)
theorem HL(m:Mch)(h:m.ca.length=0):Con Tryz.prog 118 [.obj (aY m),.int .i64 53] [.obj (aY m),.undef] (.int .i64 (-14)):=by
 have g:decide (IntKind.i64.wrap ((((m.ca.map bF).length:Nat):Int)-1)<0)=true:=by rw[List.length_map,h];rfl
 exact rp 115 Tryz.func118 [.tmp 4] (g:=go)
theorem Hw(m:Mch)(hl:m.ca.length≤16)(h: ¬m.ca.length=0)(hc:(cp m).ca=true):Con Tryz.prog 118 [.obj (aY m),.int .i64 53] [.obj (aY m),.undef] (.int .i64 (-14)):=by
 have w:=fZ hl
 have g:decide (IntKind.i64.wrap ((((m.ca.map bF).length:Nat):Int)-1)<0)=false:=by rw[List.length_map,w];exact decide_eq_false (by omega)
 have ra:=eO hl h
 exact rp 115 Tryz.func118 [.tmp 4] (g:=go)
theorem H8(m:Mch)(hl:m.ca.length≤16)(hb:m.da.bk.length≤32)(h: ¬m.ca.length=0)(hc:(cp m).ca=false)(hf:(m.da.bk.length:Int)≠(cp m).fl):Con Tryz.prog 118 [.obj (aY m),.int .i64 53] [.obj (aY m),.undef] (.int .i64 (-25)):=by
 have w:=fZ hl
 have g:decide (IntKind.i64.wrap ((((m.ca.map bF).length:Nat):Int)-1)<0)=false:=by rw[List.length_map,w];exact decide_eq_false (by omega)
 have ra:=eO hl h
 have g2:((((m.da.bk.map aj).length:Nat):Int) != (cp m).fl)=true:=by rw[List.length_map];exact bne_iff_ne.2 hf
 exact rp 115 Tryz.func118 [.tmp 4] (g:=go)
theorem Iu(m:Mch)(hl:m.ca.length≤16)(h: ¬m.ca.length=0)(hc:(cp m).ca=false)(hf:(m.da.bk.length:Int)=(cp m).fl):Con Tryz.prog 118 [.obj (aY m),.int .i64 53] [.obj (aY (dropC m)),.undef] (.int .i64 0):=by
 have w:=fZ hl
 have g:decide (IntKind.i64.wrap ((((m.ca.map bF).length:Nat):Int)-1)<0)=false:=by rw[List.length_map,w];exact decide_eq_false (by omega)
 have ra:=eO hl h
 have g2:((((m.da.bk.map aj).length:Nat):Int) != (cp m).fl)=false:=by rw[List.length_map,hf];exact bne_self_eq_false _
 have kl:=c79 m hl h
 refine rp 115 Tryz.func118 [.tmp 4] (g:= ?_)
 conv=>whnf
 refine aO ?_
 (refine ax 79 [some 16] ?_;conv=>whnf)
 refine aO ?_
 (refine eo (kl ..) ?_;conv=>whnf)
 exact go
theorem jP{m:Mch}(h:MI m)(h0: ¬m.da.st.length=0)(z:List AV):dn (m.da.st.map aj) (IntKind.i64.wrap ((m.da.st.length:Int)-1)).toNat z=[.int .i64 (bu m.da)]:=by
 have:=h.da.st
 rw[ai (by omega) (by omega),show((m.da.st.length:Int)-1).toNat=m.da.st.length-1 by omega]
 exact eQ _ _ _ (by omega)
theorem Ih(m:Mch)(n:Int)(g:(n==53)=false)(h:m.da.st.length=0):Con Tryz.prog 118 [.obj (aY m),.int .i64 n] [.obj (aY m),.undef] (.int .i64 (-4)):=
 rp 115 Tryz.func118 [.tmp 4] (g:=go)
theorem GP(m:Mch)(h:MI m)(h0: ¬m.da.st.length=0)(ht:bu m.da=0):Con Tryz.prog 118 [.obj (aY m),.int .i64 56] [.obj (aY (cP m)),.undef] (.int .i64 0):=by
 have hs:=h.da.st
 have ra:=jP h h0
 have w1:IntKind.i64.wrap ((m.da.st.length:Int)-1)=(m.da.st.length:Int)-1:=ai (by omega) (by omega)
 rw[ht]at ra
 have kp:=kT m.da (by omega) h0
 refine rp 115 Tryz.func118 [.tmp 4] (g:= ?_)
 conv=>whnf
 refine aO ?_
 (refine ax 156 [some 6] ?_;conv=>whnf)
 refine aO ?_
 (refine eo (kp ..) ?_;conv=>whnf)
 exact go
theorem F6(m:Mch)(h:MI m)(h0: ¬m.da.st.length=0)(ht:bu m.da= -101):Con Tryz.prog 118 [.obj (aY m),.int .i64 56] [.obj (aY m),.undef] (.int .i64 (-24)):=by
 have hs:=h.da.st
 have ra:=jP h h0
 have w1:IntKind.i64.wrap ((m.da.st.length:Int)-1)=(m.da.st.length:Int)-1:=ai (by omega) (by omega)
 rw[ht]at ra
 exact rp 115 Tryz.func118 [.tmp 4] (g:=go)
theorem E9(m:Mch)(h:MI m)(h0: ¬m.da.st.length=0)(h1:(bu m.da==0)=false)(h2:(bu m.da== -101)=false):Con Tryz.prog 118 [.obj (aY m),.int .i64 56] [.obj (aY m),.undef] (.int .i64 (bu m.da)):=by
 have hs:=h.da.st
 have ra:=jP h h0
 have w1:IntKind.i64.wrap ((m.da.st.length:Int)-1)=(m.da.st.length:Int)-1:=ai (by omega) (by omega)
 exact rp 115 Tryz.func118 [.tmp 4] (g:=go)
end X5

/- Words of flow, and what a word's kinds do, by the program; contracts. -/
open Go Go.Abs Go.Proofs V1 H1 H2 H4 F1 F2 T1 T2 T3 P1 P2 P5 P9 P10 P20 N1 X1 X2 X3 X4 X5
namespace X6
theorem FY(m:Mch)(h:MI m)(n:Int)(g1:(n==53)=false)(g2:(n==56)=false)(h0: ¬m.da.st.length=0)(ht:ck m.ws (bu m.da)=false):Con Tryz.prog 118 [.obj (aY m),.int .i64 n] [.obj (aY m),.undef] (.int .i64 (-24)):=by
 have hs:=h.da.st
 have ra:=jP h h0
 have w1:IntKind.i64.wrap ((m.da.st.length:Int)-1)=(m.da.st.length:Int)-1:=ai (by omega) (by omega)
 have kt:=c71 m.ws (bu m.da) (bv h.ws).2.2
 rw[ht]at kt
 exact rp 115 Tryz.func118 [.tmp 4] (g:=go)
theorem Gf(m:Mch)(h:MI m)(h0: ¬m.da.st.length=0)(ht:ck m.ws (bu m.da)=true)(r:Mch × Int)(ke:Con Tryz.prog 77 [.obj (aY (cP m)),.int .i64 (bu m.da)] [.obj (aY r.1),.undef] (.int .i64 r.2)):Con Tryz.prog 118 [.obj (aY m),.int .i64 54] [.obj (aY r.1),.undef] (.int .i64 r.2):=by
 have hs:=h.da.st
 have ra:=jP h h0
 have w1:IntKind.i64.wrap ((m.da.st.length:Int)-1)=(m.da.st.length:Int)-1:=ai (by omega) (by omega)
 have kt:=c71 m.ws (bu m.da) (bv h.ws).2.2
 rw[ht]at kt
 have kp:=kT m.da (by omega) h0
 refine rp 115 Tryz.func118 [.tmp 4] (g:= ?_)
 conv=>whnf
 repeat' (first|(refine ax 156 [some 6] ?_;conv=>whnf)|(refine eo (kp ..) ?_;conv=>whnf)|(refine ax 77 [some 16,none] ?_;conv=>whnf)|(refine eo (ke ..) ?_;conv=>whnf)|(focus (refine aq (by rfl) ?_;conv=>whnf))|exact True.intro|refine aO ?_)
abbrev oI(m:Mch):Cal:=⟨m.ip,((m.da.bk.map aj).length:Nat),(((m.da.st.take (m.da.st.length-1)).map aj).length:Nat),true⟩
theorem Fy(m:Mch)(h:MI m)(h0: ¬m.da.st.length=0)(ht:ck m.ws (bu m.da)=true)(hc:m.ca.length=16):Con Tryz.prog 118 [.obj (aY m),.int .i64 55] [.obj (aY (cP m)),.undef] (.int .i64 (-50)):=by
 have hs:=h.da.st
 have ra:=jP h h0
 have w1:IntKind.i64.wrap ((m.da.st.length:Int)-1)=(m.da.st.length:Int)-1:=ai (by omega) (by omega)
 have kt:=c71 m.ws (bu m.da) (bv h.ws).2.2
 rw[ht]at kt
 have kp:=kT m.da (by omega) h0
 have ka:=c117 (cP m) (oI m) h.cl
 rw[rS (show(cP m).ca.length=16 from hc)]at ka
 refine rp 115 Tryz.func118 [.tmp 4] (g:= ?_)
 conv=>whnf
 repeat' (first|(refine ax 156 [some 6] ?_;conv=>whnf)|(refine eo (kp ..) ?_;conv=>whnf)|(refine ax 117 [some 16,none] ?_;conv=>whnf)|(refine eo (ka ..) ?_;conv=>whnf)|(focus (refine aq (by rfl) ?_;conv=>whnf))|exact True.intro|refine aO ?_)
theorem Gz(m:Mch)(h:MI m)(h0: ¬m.da.st.length=0)(ht:ck m.ws (bu m.da)=true)(hc: ¬m.ca.length=16)(r:Mch × Int)(ke:Con Tryz.prog 77 [.obj (aY {cP m with ca:=m.ca++[oI m]}),.int .i64 (bu m.da)] [.obj (aY r.1),.undef] (.int .i64 r.2)):Con Tryz.prog 118 [.obj (aY m),.int .i64 55] [.obj (aY r.1),.undef] (.int .i64 r.2):=by
 have hs:=h.da.st
 have ra:=jP h h0
 have w1:IntKind.i64.wrap ((m.da.st.length:Int)-1)=(m.da.st.length:Int)-1:=ai (by omega) (by omega)
 have kt:=c71 m.ws (bu m.da) (bv h.ws).2.2
 rw[ht]at kt
 have kp:=kT m.da (by omega) h0
 have ka:=c117 (cP m) (oI m) h.cl
 rw[sw (show ¬(cP m).ca.length=16 from hc)]at ka
 refine rp 115 Tryz.func118 [.tmp 4] (g:= ?_)
 conv=>whnf
 repeat' (first|(refine ax 156 [some 6] ?_;conv=>whnf)|(refine eo (kp ..) ?_;conv=>whnf)|(refine ax 117 [some 16,none] ?_;conv=>whnf)|(refine eo (ka ..) ?_;conv=>whnf)|(refine ax 77 [some 16,none] ?_;conv=>whnf)|(refine eo (ke ..) ?_;conv=>whnf)|(focus (refine aq (by rfl) ?_;conv=>whnf))|exact True.intro|refine aO ?_)
theorem KC(m:Mch)(h:MI m)(ex:Mch→Int→Mch × Int)(he: ∀m' n',MI m'→m'.fu=m.fu→Con Tryz.prog 77 [.obj (aY m'),.int .i64 n'] [.obj (aY (ex m' n').1),.undef] (.int .i64 (ex m' n').2))(k:Int)(hk:1≤k∧k≤4):
  Con Tryz.prog 118 [.obj (aY m),.int .i64 (k+52)] [.obj (aY (hJ ex m k).1),.undef] (.int .i64 (hJ ex m k).2):=by
 have hs:=h.da.st
 by_cases h1:k=1
 ·subst h1
  unfold hJ sf
  rw[if_pos rfl]
  by_cases h2:m.ca.length=0
  ·rw[if_pos h2];exact HL m h2
  rw[if_neg h2]
  by_cases h3:(cp m).ca=true
  ·rw[if_pos h3];exact Hw m h.cl h2 h3
  rw[if_neg h3]
  rw[Bool.not_eq_true]at h3
  by_cases h4:(m.da.bk.length:Int)≠(cp m).fl
  ·rw[if_pos h4];exact H8 m h.cl h.da.bk h2 h3 h4
  ·rw[if_neg h4];exact Iu m h.cl h2 h3 (Decidable.not_not.1 h4)
 unfold hJ
 rw[if_neg h1]
 by_cases h0:m.da.st.length=0
 ·rw[if_pos h0];exact Ih m _ (by simp;omega) h0
 rw[if_neg h0]
 by_cases h4:k=4
 ·subst h4
  rw[if_pos rfl]
  by_cases t0:bu m.da=0
  ·rw[if_pos t0];exact GP m h h0 t0
  rw[if_neg t0]
  by_cases t1:bu m.da= -101
  ·rw[if_pos t1];exact F6 m h h0 t1
  ·rw[if_neg t1];exact E9 m h h0 (by simpa using t0) (by simpa using t1)
 rw[if_neg h4]
 by_cases ht:ck m.ws (bu m.da)=false
 ·rw[if_pos ht];exact FY m h _ (by simp;omega) (by simp;omega) h0 ht
 rw[if_neg ht]
 rw[Bool.not_eq_false]at ht
 have hk2:k=2∨k=3:=by omega
 rcases hk2 with rfl|rfl
 ·exact Gf m h h0 ht _ (he _ _ (fV h) rfl)
 ·rw[if_pos rfl]
  by_cases hc:m.ca.length=16
  ·rw[if_pos hc];exact Fy m h h0 ht hc
  ·rw[if_neg hc]
   have e:oI m=⟨m.ip,m.da.bk.length,(m.da.st.length:Int)-1,true⟩:=by simp[oI];omega
   have ke:=he {cP m with ca:=m.ca++[oI m]} (bu m.da) (by
    rw[e]
    exact(fV h).addC (by have:=h.cl;show m.ca.length<16;omega) ⟨h.ip,⟨Int.natCast_nonneg _,Int.le_refl _⟩,⟨show(0:Int)≤(m.da.st.length:Int)-1 by omega,show(m.da.st.length:Int)-1≤31 by omega⟩,.inl rfl⟩ h.floor.2) rfl
   have kc:=Gz m h h0 ht hc _ ke
   rw[e]at kc
   exact kc
theorem c114(p:Nat)(hp:cu p)(nm:List UInt8)(d:Dat)(fl:Int)(h:DataOk d)(hf:0≤fl∧fl≤d.bk.length):Con Tryz.prog 114 [.obj (aw d),.rp (dl ⟨nm,1,p⟩) 0,.rp [.int .i64 fl] 0] [.obj (aw (ew TX p fl d).1),.undef,.undef] (.int .i64 (ew TX p fl d).2):=by
 have k1:=c115 p hp d fl h hf
 generalize ew TX p fl d=x at k1
 refine rp 10 Tryz.func114 [.tmp 4] (g:= ?_)
 conv=>whnf
 repeat' (first|(refine ax 115 [some 6,none,none] ?_;conv=>whnf)|(refine eo (k1 ..) ?_;conv=>whnf)|(focus (refine aq (by rfl) ?_;conv=>whnf))|exact True.intro|refine aO ?_)
instance:CC 114:=⟨_,@c114⟩
theorem AJ(p:Nat)(hp:cu p)(nm:List UInt8)(d:Dat)(fl:Int)(h:DataOk d)(hf:0≤fl∧fl≤d.bk.length):Con Tryz.prog 113 [az d,.fn 114 [.rp (dl ⟨nm,1,p⟩) 0,.rp [.int .i64 fl] 0]] (aa [az d,.fn 114 [.rp (dl ⟨nm,1,p⟩) 0,.rp [.int .i64 fl] 0]]) (.tup [jY (eE TX p fl d).1,.int .i64 (eE TX p fl d).2]):=by
 have k1:=c114 p hp nm d fl h hf
 have k2:=c75 d (vS h)
 unfold eE
 generalize ew TX p fl d=x at k1
 by_cases h0:x.2=0
 ·rw[if_pos h0]
  have g0:(x.2 != 0)=false:=by rw[h0];rfl
  refine rn 18 Tryz.func113 [.cell 4 35,.tmp 5] (g:= ?_)
  conv=>whnf
  iterate 5 (first|(refine eo (k1 ..) ?_;conv=>whnf)|(refine ax 114 [some 6,none,none] ?_;conv=>whnf)|refine aO ?_)
  rotate_left
  exact aA (by rw[h0];rfl)
 ·rw[if_neg h0]
  have g0:(x.2 != 0)=true:=bne_iff_ne.2 h0
  refine rn 18 Tryz.func113 [.cell 4 35,.tmp 5] (g:= ?_)
  conv=>whnf
  iterate 5 (first|(refine eo (k1 ..) ?_;conv=>whnf)|(refine ax 114 [some 6,none,none] ?_;conv=>whnf)|refine aO ?_)
  rotate_left
  exact aA rfl
end X6
