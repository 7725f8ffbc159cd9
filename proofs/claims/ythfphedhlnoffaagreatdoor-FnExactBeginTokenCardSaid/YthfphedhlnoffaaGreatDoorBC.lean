import Derived.Test.YthfphedhlnoffaaGreatDoorBB
/- Prims on the other stack, in place, by the program; contracts. -/
set_option linter.unusedVariables false
set_option maxHeartbeats 4000000
set_option linter.unusedSimpArgs false
set_option maxRecDepth 100000
open Go Go.Abs Go.Proofs V1 H1 F1 F2 T1 T2 T3 P1 P2 P3 P4 P5
namespace P8
theorem Fc(d:Dat)(r:List Int)(a b c:Int)(fl:Int)(h:Dk d)(hs:d.st=r++[])(hb0:d.bk.length≤32)(hf:0≤fl∧fl≤d.bk.length)(hk:0≤(d.bk.length:Int)-fl)(qb: -2147483648≤b∧b≤2147483647)(qc: -2147483648≤c∧c≤2147483647):Con Tryz.prog 115 [.obj (aw d),.int .i64 11,.int .i64 fl] [.obj (aw (ap TX 11 d r a b c).1),.undef,.undef] (.int .i64 (ap TX 11 d r a b c).2):=by
 have kt:Con Tryz.prog 148 [.int .i64 11] (aa [.int .i64 11]) (.int .i64 0):=c148 11 (by unfold cp;omega)
 have kk:Con Tryz.prog 149 [.int .i64 11] (aa [.int .i64 11]) (.int .i64 0):=c149 11 (by unfold cp;omega)
 have hst:=h.st
 have hl:d.st.length=r.length+0:=by rw[hs];simp
 have g0:decide ((((d.st.map aj).length:Nat):Int)<0)=false:=by rw[List.length_map];exact decide_eq_false (by omega)
 have wf:IntKind.i64.wrap ((((d.bk.map aj).length:Nat):Int)-fl)=(d.bk.length:Int)-fl:=by rw[List.length_map];exact ai (by omega) (by omega)
 have g1:decide (IntKind.i64.wrap ((((d.bk.map aj).length:Nat):Int)-fl)<0)=false:=by rw[wf];exact decide_eq_false (by omega)
 have w2:IntKind.i64.wrap ((((d.st.map aj).length:Nat):Int)-0)=(r.length:Int):=by rw[List.length_map,ai (by omega) (by omega)];omega
 have er:List.take ((IntKind.i64.wrap ((((d.st.map aj).length:Nat):Int)-0)).toNat-0) (List.drop (0+0) d.st)=r:=by rw[w2,hs];simp
 have ey:(((IntKind.i64.wrap ((((d.st.map aj).length:Nat):Int)-0)).toNat-0:Nat):Int)=(r.length:Int):=by rw[w2];omega
 have ex:(((List.take ((IntKind.i64.wrap ((((d.st.map aj).length:Nat):Int)-0)).toNat-0) (List.drop (0+0) d.st)).length:Nat):Int)=(((IntKind.i64.wrap ((((d.st.map aj).length:Nat):Int)-0)).toNat-0:Nat):Int):=by rw[ey,er]
 have k1:=c151 {d with st:=List.take ((IntKind.i64.wrap ((((d.st.map aj).length:Nat):Int)-0)).toNat-0) (List.drop (0+0) d.st)} [(((IntKind.i64.wrap ((((d.st.map aj).length:Nat):Int)-0)).toNat-0:Nat):Int)] (by rw[er];simp only;omega) (by simp)
 rw[←er]
 rw[show ap TX 11 d (List.take ((IntKind.i64.wrap ((((d.st.map aj).length:Nat):Int)-0)).toNat-0) (List.drop (0+0) d.st)) a b c=dA {d with st:=List.take ((IntKind.i64.wrap ((((d.st.map aj).length:Nat):Int)-0)).toNat-0) (List.drop (0+0) d.st)} [(((IntKind.i64.wrap ((((d.st.map aj).length:Nat):Int)-0)).toNat-0:Nat):Int)]from by show ez d (List.take ((IntKind.i64.wrap ((((d.st.map aj).length:Nat):Int)-0)).toNat-0) (List.drop (0+0) d.st)) [(((List.take ((IntKind.i64.wrap ((((d.st.map aj).length:Nat):Int)-0)).toNat-0) (List.drop (0+0) d.st)).length:Nat):Int)]=_;rw[ex];rfl]
 refine rp 242 Tryz.func115 [.tmp 6] (g:= ?_)
 conv=>whnf
 (iterate 28 ((first|apply ac rfl|refine ag (by(exact(show _=z3 from rfl))) ?_|refine aG (fun hf=> ?_)|refine ChkS.mk (by kernel_rfl) ?_|apply aK rfl|refine aK (by assumption) ?_|apply aH|refine ah (kt ..) ?_|refine ah (kk ..) ?_);conv=>whnf));(iterate 106 ((first|refine ac (by solve|simp only[bc]|fail) ?_|apply ac rfl|refine ac (by rw[w2];first|exact decide_eq_true (by omega)|(rw[List.length_map];first|exact decide_eq_true (by omega)|(simp;omega))) ?_|refine aD (by(rfl)) ?_|refine ag (by(exact DQ hs w2)) ?_|refine ChkS.mk (by kernel_rfl) ?_|apply bH rfl|apply aK rfl|refine ay 151 [some 6,none] ?_|apply aH|refine ah (c95 ..) ?_);conv=>whnf));(focus (apply bj (f:=151);(· repeat' (first|(refine al ?_;simp[bc];done)|exact aW _ _ _ _|apply aY|apply bO|apply bC|apply bz|apply cm|apply cB|apply bM|rfl));refine bx (f:=151) rfl (k1 ..) ?_;conv=>whnf));iterate 8 (first|(apply ac rfl;(conv=>whnf))|(refine ag (al (by solve|simp[bc]|fail)) ?_;(conv=>whnf))|(refine aG (fun hf=> ?_);(conv=>whnf))|(refine aq (by rfl) ?_;(conv=>whnf))|(exact True.intro))
 all_goals skip
theorem Fa(d:Dat)(r:List Int)(a b c:Int)(fl:Int)(h:Dk d)(hs:d.st=r++[])(hb0:d.bk.length≤32)(hf:0≤fl∧fl≤d.bk.length)(hk:1≤(d.bk.length:Int)-fl)(qb: -2147483648≤b∧b≤2147483647)(qc: -2147483648≤c∧c≤2147483647):Con Tryz.prog 115 [.obj (aw d),.int .i64 14,.int .i64 fl] [.obj (aw (ap TX 14 d r a b c).1),.undef,.undef] (.int .i64 (ap TX 14 d r a b c).2):=by
 have kt:Con Tryz.prog 148 [.int .i64 14] (aa [.int .i64 14]) (.int .i64 0):=c148 14 (by unfold cp;omega)
 have kk:Con Tryz.prog 149 [.int .i64 14] (aa [.int .i64 14]) (.int .i64 1):=c149 14 (by unfold cp;omega)
 have hst:=h.st
 have hl:d.st.length=r.length+0:=by rw[hs];simp
 have g0:decide ((((d.st.map aj).length:Nat):Int)<0)=false:=by rw[List.length_map];exact decide_eq_false (by omega)
 have wf:IntKind.i64.wrap ((((d.bk.map aj).length:Nat):Int)-fl)=(d.bk.length:Int)-fl:=by rw[List.length_map];exact ai (by omega) (by omega)
 have g1:decide (IntKind.i64.wrap ((((d.bk.map aj).length:Nat):Int)-fl)<1)=false:=by rw[wf];exact decide_eq_false (by omega)
 have w2:IntKind.i64.wrap ((((d.st.map aj).length:Nat):Int)-0)=(r.length:Int):=by rw[List.length_map,ai (by omega) (by omega)];omega
 have er:List.take ((IntKind.i64.wrap ((((d.st.map aj).length:Nat):Int)-0)).toNat-0) (List.drop (0+0) d.st)=r:=by rw[w2,hs];simp
 have wl:(IntKind.i64.wrap ((((d.bk.map aj).length:Nat):Int)-1)).toNat=d.bk.length-1:=by rw[List.length_map,ai (by omega) (by omega)];omega
 have wl2:IntKind.i64.wrap ((((d.bk.map aj).length:Nat):Int)-1)=((d.bk.length-1:Nat):Int):=by rw[List.length_map,ai (by omega) (by omega)];omega
 have k1:=c151 {d with st:=List.take ((IntKind.i64.wrap ((((d.st.map aj).length:Nat):Int)-0)).toNat-0) (List.drop (0+0) d.st)} [d.bk.getD (d.bk.length-1) 0] (by rw[er];simp only;omega) (by simp)
 rw[←er]
 rw[show ap TX 14 d (List.take ((IntKind.i64.wrap ((((d.st.map aj).length:Nat):Int)-0)).toNat-0) (List.drop (0+0) d.st)) a b c=dA {d with st:=List.take ((IntKind.i64.wrap ((((d.st.map aj).length:Nat):Int)-0)).toNat-0) (List.drop (0+0) d.st)} [d.bk.getD (d.bk.length-1) 0]from rfl]
 refine rp 242 Tryz.func115 [.tmp 6] (g:= ?_)
 conv=>whnf
 (iterate 28 ((first|apply ac rfl|refine ag (by(exact(show _=z3 from rfl))) ?_|refine aG (fun hf=> ?_)|refine ChkS.mk (by kernel_rfl) ?_|apply aK rfl|refine aK (by assumption) ?_|apply aH|refine ah (kt ..) ?_|refine ah (kk ..) ?_);conv=>whnf));(iterate 130 ((first|refine ac (by solve|simp only[bc]|fail) ?_|apply ac rfl|refine ac (by((first|(rw[w2];exact decide_eq_true (by omega))|(rw[w2,List.length_map];exact decide_eq_true (by omega))|(rw[w2,List.length_map];simp;omega)|(rw[wl2];exact decide_eq_true (by omega))|(refine aO rfl ?_;rw[wl2,List.length_map];exact decide_eq_true (by omega))|(rw[wl2,List.length_map];simp;omega)))) ?_|refine aD (by((try rewrite[Nat.zero_add]);rewrite[wl];exact aF aj _ _ _ 0 (by omega))) ?_|refine aD (by(rfl)) ?_|refine ag (by(exact DQ hs w2)) ?_|refine ChkS.mk (by kernel_rfl) ?_|apply bH rfl|apply aK rfl|refine ay 151 [some 6,none] ?_|apply aH|refine ah (c95 ..) ?_);conv=>whnf));(focus (apply bj (f:=151);(· repeat' (first|(refine al ?_;simp[bc];done)|exact aW _ _ _ _|apply aY|apply bO|apply bC|apply bz|apply cm|apply cB|apply bM|rfl));refine bx (f:=151) rfl (k1 ..) ?_;conv=>whnf));iterate 10 (first|(apply ac rfl;(conv=>whnf))|(refine ag (al (by solve|simp[bc]|fail)) ?_;(conv=>whnf))|(refine aG (fun hf=> ?_);(conv=>whnf))|(refine ChkS.mk (by kernel_rfl) ?_;(conv=>whnf))|(refine aq (by rfl) ?_;(conv=>whnf))|(exact True.intro))
 all_goals skip
theorem E3(d:Dat)(r:List Int)(a b c:Int)(fl:Int)(h:Dk d)(hs:d.st=r++[])(hb0:d.bk.length≤32)(hf:0≤fl∧fl≤d.bk.length)(hk:1≤(d.bk.length:Int)-fl)(qb: -2147483648≤b∧b≤2147483647)(qc: -2147483648≤c∧c≤2147483647):Con Tryz.prog 115 [.obj (aw d),.int .i64 51,.int .i64 fl] [.obj (aw (ap TX 51 d r a b c).1),.undef,.undef] (.int .i64 (ap TX 51 d r a b c).2):=by
 have kt:Con Tryz.prog 148 [.int .i64 51] (aa [.int .i64 51]) (.int .i64 0):=c148 51 (by unfold cp;omega)
 have kk:Con Tryz.prog 149 [.int .i64 51] (aa [.int .i64 51]) (.int .i64 1):=c149 51 (by unfold cp;omega)
 have hst:=h.st
 have hl:d.st.length=r.length+0:=by rw[hs];simp
 have g0:decide ((((d.st.map aj).length:Nat):Int)<0)=false:=by rw[List.length_map];exact decide_eq_false (by omega)
 have wf:IntKind.i64.wrap ((((d.bk.map aj).length:Nat):Int)-fl)=(d.bk.length:Int)-fl:=by rw[List.length_map];exact ai (by omega) (by omega)
 have g1:decide (IntKind.i64.wrap ((((d.bk.map aj).length:Nat):Int)-fl)<1)=false:=by rw[wf];exact decide_eq_false (by omega)
 have w2:IntKind.i64.wrap ((((d.st.map aj).length:Nat):Int)-0)=(r.length:Int):=by rw[List.length_map,ai (by omega) (by omega)];omega
 have er:List.take ((IntKind.i64.wrap ((((d.st.map aj).length:Nat):Int)-0)).toNat-0) (List.drop (0+0) d.st)=r:=by rw[w2,hs];simp
 have wl:(IntKind.i64.wrap ((((d.bk.map aj).length:Nat):Int)-1)).toNat=d.bk.length-1:=by rw[List.length_map,ai (by omega) (by omega)];omega
 have wl2:IntKind.i64.wrap ((((d.bk.map aj).length:Nat):Int)-1)=((d.bk.length-1:Nat):Int):=by rw[List.length_map,ai (by omega) (by omega)];omega
 have k1:=c151 {d with st:=List.take ((IntKind.i64.wrap ((((d.st.map aj).length:Nat):Int)-0)).toNat-0) (List.drop (0+0) d.st)} [d.bk.getD (d.bk.length-1) 0] (by rw[er];simp only;omega) (by simp)
 rw[←er]
 rw[show ap TX 51 d (List.take ((IntKind.i64.wrap ((((d.st.map aj).length:Nat):Int)-0)).toNat-0) (List.drop (0+0) d.st)) a b c=dA {d with st:=List.take ((IntKind.i64.wrap ((((d.st.map aj).length:Nat):Int)-0)).toNat-0) (List.drop (0+0) d.st)} [d.bk.getD (d.bk.length-1) 0]from rfl]
 refine rp 242 Tryz.func115 [.tmp 6] (g:= ?_)
 conv=>whnf
 (iterate 28 ((first|apply ac rfl|refine ag (by(exact(show _=z3 from rfl))) ?_|refine aG (fun hf=> ?_)|refine ChkS.mk (by kernel_rfl) ?_|apply aK rfl|refine aK (by assumption) ?_|apply aH|refine ah (kt ..) ?_|refine ah (kk ..) ?_);conv=>whnf));(iterate 130 ((first|refine ac (by solve|simp only[bc]|fail) ?_|apply ac rfl|refine ac (by((first|(rw[w2];exact decide_eq_true (by omega))|(rw[w2,List.length_map];exact decide_eq_true (by omega))|(rw[w2,List.length_map];simp;omega)|(rw[wl2];exact decide_eq_true (by omega))|(refine aO rfl ?_;rw[wl2,List.length_map];exact decide_eq_true (by omega))|(rw[wl2,List.length_map];simp;omega)))) ?_|refine aD (by((try rewrite[Nat.zero_add]);rewrite[wl];exact aF aj _ _ _ 0 (by omega))) ?_|refine aD (by(rfl)) ?_|refine ag (by(exact DQ hs w2)) ?_|refine ChkS.mk (by kernel_rfl) ?_|apply bH rfl|apply aK rfl|refine ay 151 [some 6,none] ?_|apply aH|refine ah (c95 ..) ?_);conv=>whnf));(focus (apply bj (f:=151);(· repeat' (first|(refine al ?_;simp[bc];done)|exact aW _ _ _ _|apply aY|apply bO|apply bC|apply bz|apply cm|apply cB|apply bM|rfl));refine bx (f:=151) rfl (k1 ..) ?_;conv=>whnf));iterate 10 (first|(apply ac rfl;(conv=>whnf))|(refine ag (al (by solve|simp[bc]|fail)) ?_;(conv=>whnf))|(refine aG (fun hf=> ?_);(conv=>whnf))|(refine ChkS.mk (by kernel_rfl) ?_;(conv=>whnf))|(refine aq (by rfl) ?_;(conv=>whnf))|(exact True.intro))
 all_goals skip
theorem E5(d:Dat)(r:List Int)(a b c:Int)(fl:Int)(h:Dk d)(hs:d.st=r++[])(hb0:d.bk.length≤32)(hf:0≤fl∧fl≤d.bk.length)(hk:1≤(d.bk.length:Int)-fl)(qb: -2147483648≤b∧b≤2147483647)(qc: -2147483648≤c∧c≤2147483647):Con Tryz.prog 115 [.obj (aw d),.int .i64 13,.int .i64 fl] [.obj (aw (ap TX 13 d r a b c).1),.undef,.undef] (.int .i64 (ap TX 13 d r a b c).2):=by
 have kt:Con Tryz.prog 148 [.int .i64 13] (aa [.int .i64 13]) (.int .i64 0):=c148 13 (by unfold cp;omega)
 have kk:Con Tryz.prog 149 [.int .i64 13] (aa [.int .i64 13]) (.int .i64 1):=c149 13 (by unfold cp;omega)
 have hst:=h.st
 have hl:d.st.length=r.length+0:=by rw[hs];simp
 have g0:decide ((((d.st.map aj).length:Nat):Int)<0)=false:=by rw[List.length_map];exact decide_eq_false (by omega)
 have wf:IntKind.i64.wrap ((((d.bk.map aj).length:Nat):Int)-fl)=(d.bk.length:Int)-fl:=by rw[List.length_map];exact ai (by omega) (by omega)
 have g1:decide (IntKind.i64.wrap ((((d.bk.map aj).length:Nat):Int)-fl)<1)=false:=by rw[wf];exact decide_eq_false (by omega)
 have w2:IntKind.i64.wrap ((((d.st.map aj).length:Nat):Int)-0)=(r.length:Int):=by rw[List.length_map,ai (by omega) (by omega)];omega
 have er:List.take ((IntKind.i64.wrap ((((d.st.map aj).length:Nat):Int)-0)).toNat-0) (List.drop (0+0) d.st)=r:=by rw[w2,hs];simp
 have wl:(IntKind.i64.wrap ((((d.bk.map aj).length:Nat):Int)-1)).toNat=d.bk.length-1:=by rw[List.length_map,ai (by omega) (by omega)];omega
 have wl2:IntKind.i64.wrap ((((d.bk.map aj).length:Nat):Int)-1)=((d.bk.length-1:Nat):Int):=by rw[List.length_map,ai (by omega) (by omega)];omega
 have kd:=c152 {d with st:=List.take ((IntKind.i64.wrap ((((d.st.map aj).length:Nat):Int)-0)).toNat-0) (List.drop (0+0) d.st)} 1 hb0 (by simp only;omega)
 have k1:=c151 {d with st:=List.take ((IntKind.i64.wrap ((((d.st.map aj).length:Nat):Int)-0)).toNat-0) (List.drop (0+0) d.st),bk:=d.bk.take (d.bk.length-1)} [d.bk.getD (d.bk.length-1) 0] (by rw[er];simp only;omega) (by simp)
 rw[←er]
 rw[show ap TX 13 d (List.take ((IntKind.i64.wrap ((((d.st.map aj).length:Nat):Int)-0)).toNat-0) (List.drop (0+0) d.st)) a b c=dA {d with st:=List.take ((IntKind.i64.wrap ((((d.st.map aj).length:Nat):Int)-0)).toNat-0) (List.drop (0+0) d.st),bk:=d.bk.take (d.bk.length-1)} [d.bk.getD (d.bk.length-1) 0]from rfl]
 refine rp 242 Tryz.func115 [.tmp 6] (g:= ?_)
 conv=>whnf
 (iterate 28 ((first|apply ac rfl|refine ag (by(exact(show _=z3 from rfl))) ?_|refine aG (fun hf=> ?_)|refine ChkS.mk (by kernel_rfl) ?_|apply aK rfl|refine aK (by assumption) ?_|apply aH|refine ah (kt ..) ?_|refine ah (kk ..) ?_);conv=>whnf));(iterate 125 ((first|refine ac (by solve|simp only[bc]|fail) ?_|apply ac rfl|refine ac (by((first|(rw[w2];exact decide_eq_true (by omega))|(rw[w2,List.length_map];exact decide_eq_true (by omega))|(rw[w2,List.length_map];simp;omega)|(rw[wl2];exact decide_eq_true (by omega))|(refine aO rfl ?_;rw[wl2,List.length_map];exact decide_eq_true (by omega))|(rw[wl2,List.length_map];simp;omega)))) ?_|refine aD (by((try rewrite[Nat.zero_add]);rewrite[wl];exact aF aj _ _ _ 0 (by omega))) ?_|refine aD (by(rfl)) ?_|refine ag (by(exact DQ hs w2)) ?_|refine ChkS.mk (by kernel_rfl) ?_|apply bH rfl|apply aK rfl|refine ay 152 [some 6,none] ?_|apply aH|refine ah (c95 ..) ?_);conv=>whnf));(focus (apply bj (f:=152);(· repeat' (first|(refine al ?_;simp[bc];done)|exact aW _ _ _ _|apply aY|apply bO|apply bC|apply bz|apply cm|apply cB|apply bM|rfl));refine bx (f:=152) rfl (kd ..) ?_;conv=>whnf));(iterate 5 ((first|refine ac (by solve|simp only[bc]|fail) ?_|apply ac rfl|refine ay 151 [some 6,none] ?_);conv=>whnf));(focus (apply bj (f:=151);(· repeat' (first|(refine al ?_;simp[bc];done)|exact aW _ _ _ _|apply aY|apply bO|apply bC|apply bz|apply cm|apply cB|apply bM|rfl));refine bx (f:=151) rfl (k1 ..) ?_;conv=>whnf));iterate 8 (first|(apply ac rfl;(conv=>whnf))|(refine ag (al (by solve|simp[bc]|fail)) ?_;(conv=>whnf))|(refine aG (fun hf=> ?_);(conv=>whnf))|(refine aq (by rfl) ?_;(conv=>whnf))|(exact True.intro))
 all_goals skip
theorem FP(d:Dat)(r:List Int)(a b c:Int)(fl:Int)(h:Dk d)(hs:d.st=r++[])(hb0:d.bk.length≤32)(hf:0≤fl∧fl≤d.bk.length)(hk:2≤(d.bk.length:Int)-fl)(qb: -2147483648≤b∧b≤2147483647)(qc: -2147483648≤c∧c≤2147483647):Con Tryz.prog 115 [.obj (aw d),.int .i64 52,.int .i64 fl] [.obj (aw (ap TX 52 d r a b c).1),.undef,.undef] (.int .i64 (ap TX 52 d r a b c).2):=by
 have kt:Con Tryz.prog 148 [.int .i64 52] (aa [.int .i64 52]) (.int .i64 0):=c148 52 (by unfold cp;omega)
 have kk:Con Tryz.prog 149 [.int .i64 52] (aa [.int .i64 52]) (.int .i64 2):=c149 52 (by unfold cp;omega)
 have hst:=h.st
 have hl:d.st.length=r.length+0:=by rw[hs];simp
 have g0:decide ((((d.st.map aj).length:Nat):Int)<0)=false:=by rw[List.length_map];exact decide_eq_false (by omega)
 have wf:IntKind.i64.wrap ((((d.bk.map aj).length:Nat):Int)-fl)=(d.bk.length:Int)-fl:=by rw[List.length_map];exact ai (by omega) (by omega)
 have g1:decide (IntKind.i64.wrap ((((d.bk.map aj).length:Nat):Int)-fl)<2)=false:=by rw[wf];exact decide_eq_false (by omega)
 have w2:IntKind.i64.wrap ((((d.st.map aj).length:Nat):Int)-0)=(r.length:Int):=by rw[List.length_map,ai (by omega) (by omega)];omega
 have er:List.take ((IntKind.i64.wrap ((((d.st.map aj).length:Nat):Int)-0)).toNat-0) (List.drop (0+0) d.st)=r:=by rw[w2,hs];simp
 have kd:=c152 {d with st:=List.take ((IntKind.i64.wrap ((((d.st.map aj).length:Nat):Int)-0)).toNat-0) (List.drop (0+0) d.st)} 2 hb0 (by simp only;omega)
 rw[←er]
 refine rp 242 Tryz.func115 [.tmp 6] (g:= ?_)
 conv=>whnf
 repeat' (first|(refine ay 152 [some 6,none] ?_;conv=>whnf)|(refine eH (kd ..) ?_;conv=>whnf)|(focus (refine aq (by rfl) ?_;conv=>whnf))|exact True.intro|refine aP ?_)
 all_goals skip
theorem Cj(d:Dat)(r:List Int)(a b c:Int)(fl:Int)(h:Dk d)(hs:d.st=r++[c])(hb0:d.bk.length≤32)(hf:0≤fl∧fl≤d.bk.length)(hk:0≤(d.bk.length:Int)-fl)(qb: -2147483648≤b∧b≤2147483647)(qc: -2147483648≤c∧c≤2147483647)(h0:d.bk.length=32):Con Tryz.prog 115 [.obj (aw d),.int .i64 12,.int .i64 fl] [.obj (aw (ap TX 12 d r a b c).1),.undef,.undef] (.int .i64 (ap TX 12 d r a b c).2):=by
 have kt:Con Tryz.prog 148 [.int .i64 12] (aa [.int .i64 12]) (.int .i64 1):=c148 12 (by unfold cp;omega)
 have kk:Con Tryz.prog 149 [.int .i64 12] (aa [.int .i64 12]) (.int .i64 0):=c149 12 (by unfold cp;omega)
 have hst:=h.st
 have hl:d.st.length=r.length+1:=by rw[hs];simp
 have g0:decide ((((d.st.map aj).length:Nat):Int)<1)=false:=by rw[List.length_map];exact decide_eq_false (by omega)
 have wf:IntKind.i64.wrap ((((d.bk.map aj).length:Nat):Int)-fl)=(d.bk.length:Int)-fl:=by rw[List.length_map];exact ai (by omega) (by omega)
 have g1:decide (IntKind.i64.wrap ((((d.bk.map aj).length:Nat):Int)-fl)<0)=false:=by rw[wf];exact decide_eq_false (by omega)
 have w2:IntKind.i64.wrap ((((d.st.map aj).length:Nat):Int)-1)=(r.length:Int):=by rw[List.length_map,ai (by omega) (by omega)];omega
 have er:List.take ((IntKind.i64.wrap ((((d.st.map aj).length:Nat):Int)-1)).toNat-0) (List.drop (0+0) d.st)=r:=by rw[w2,hs];simp
 have g5:((((d.bk.map aj).length:Nat):Int)==32)=true:=by rw[List.length_map,h0];rfl
 rw[←er]
 rw[show ap TX 12 d (List.take ((IntKind.i64.wrap ((((d.st.map aj).length:Nat):Int)-1)).toNat-0) (List.drop (0+0) d.st)) a b c=({d with st:=List.take ((IntKind.i64.wrap ((((d.st.map aj).length:Nat):Int)-1)).toNat-0) (List.drop (0+0) d.st)},-5)from by simp only[ap];rw[if_pos h0]]
 refine rp 242 Tryz.func115 [.tmp 6] (g:= ?_)
 conv=>whnf
 (iterate 115 ((first|refine ac (by solve|simp only[bc]|fail) ?_|apply ac rfl|refine ac (by rw[w2];first|exact decide_eq_true (by omega)|(rw[List.length_map];first|exact decide_eq_true (by omega)|(simp;omega))) ?_|refine aD (by(rfl)) ?_|refine ag (by(exact(show _=z3 from rfl))) ?_|refine ag (by(exact Bn hs w2)) ?_|refine aG (fun hf=> ?_)|refine ChkS.mk (by kernel_rfl) ?_|refine aK (by assumption) ?_|apply aH|refine ah (kt ..) ?_|refine ah (kk ..) ?_);conv=>whnf));iterate 23 (first|(apply ac rfl;(conv=>whnf))|(refine ag (al (by solve|simp[bc]|fail)) ?_;(conv=>whnf))|(refine ag (by(exact aW _ _ _ _)) ?_;(conv=>whnf))|(apply bH rfl;(conv=>whnf))|(apply aK rfl;(conv=>whnf))|(refine bH (by assumption) ?_;(conv=>whnf))|(refine ah (c95 ..) ?_;(conv=>whnf))|(refine aq (by rfl) ?_;(conv=>whnf))|(exact True.intro))
 all_goals skip
theorem Dg(d:Dat)(r:List Int)(a b c:Int)(fl:Int)(h:Dk d)(hs:d.st=r++[c])(hb0:d.bk.length≤32)(hf:0≤fl∧fl≤d.bk.length)(hk:0≤(d.bk.length:Int)-fl)(qb: -2147483648≤b∧b≤2147483647)(qc: -2147483648≤c∧c≤2147483647)(h0: ¬d.bk.length=32):Con Tryz.prog 115 [.obj (aw d),.int .i64 12,.int .i64 fl] [.obj (aw (ap TX 12 d r a b c).1),.undef,.undef] (.int .i64 (ap TX 12 d r a b c).2):=by
 have kt:Con Tryz.prog 148 [.int .i64 12] (aa [.int .i64 12]) (.int .i64 1):=c148 12 (by unfold cp;omega)
 have kk:Con Tryz.prog 149 [.int .i64 12] (aa [.int .i64 12]) (.int .i64 0):=c149 12 (by unfold cp;omega)
 have hst:=h.st
 have hl:d.st.length=r.length+1:=by rw[hs];simp
 have g0:decide ((((d.st.map aj).length:Nat):Int)<1)=false:=by rw[List.length_map];exact decide_eq_false (by omega)
 have wf:IntKind.i64.wrap ((((d.bk.map aj).length:Nat):Int)-fl)=(d.bk.length:Int)-fl:=by rw[List.length_map];exact ai (by omega) (by omega)
 have g1:decide (IntKind.i64.wrap ((((d.bk.map aj).length:Nat):Int)-fl)<0)=false:=by rw[wf];exact decide_eq_false (by omega)
 have w2:IntKind.i64.wrap ((((d.st.map aj).length:Nat):Int)-1)=(r.length:Int):=by rw[List.length_map,ai (by omega) (by omega)];omega
 have er:List.take ((IntKind.i64.wrap ((((d.st.map aj).length:Nat):Int)-1)).toNat-0) (List.drop (0+0) d.st)=r:=by rw[w2,hs];simp
 have g5:((((d.bk.map aj).length:Nat):Int)==32)=false:=by rw[List.length_map];simp;omega
 rw[←er]
 rw[show ap TX 12 d (List.take ((IntKind.i64.wrap ((((d.st.map aj).length:Nat):Int)-1)).toNat-0) (List.drop (0+0) d.st)) a b c=({d with st:=List.take ((IntKind.i64.wrap ((((d.st.map aj).length:Nat):Int)-1)).toNat-0) (List.drop (0+0) d.st),bk:=d.bk++[c]},0)from by simp only[ap];rw[if_neg h0]]
 refine rp 242 Tryz.func115 [.tmp 6] (g:= ?_)
 conv=>whnf
 (iterate 28 ((first|apply ac rfl|refine ag (by(exact(show _=z3 from rfl))) ?_|refine aG (fun hf=> ?_)|refine ChkS.mk (by kernel_rfl) ?_|refine aK (by assumption) ?_|apply aH|refine ah (kt ..) ?_|refine ah (kk ..) ?_);conv=>whnf));(iterate 113 ((first|refine ac (by solve|simp only[bc]|fail) ?_|apply ac rfl|refine ac (by((first|(rw[w2];exact decide_eq_true (by omega))|(rw[w2,List.length_map];exact decide_eq_true (by omega))|(rw[w2,List.length_map];simp;omega)|(simp[ao,am];omega)))) ?_|refine aD (by(rfl)) ?_|refine ag (by(exact Bn hs w2)) ?_|refine bW ?_|refine ChkS.mk (by kernel_rfl) ?_|apply bH rfl|apply aK rfl|refine aK (by assumption) ?_|apply aH|refine ah (c95 ..) ?_);conv=>whnf));iterate 4 ((first|refine ag (al (by solve|simp[bc]|fail)) ?_|refine ag (by(exact aW _ _ _ _)) ?_|apply ag rfl|refine aq (by rfl) ?_);conv=>whnf)
 rotate_left
 refine na (Sh.agg ⟨Sh.refl _,lO ?_,Sh.refl _,Sh.refl _,Sh.refl _,Sh.refl _,trivial⟩) ?_
 ·simp[aU,aj,am,List.take_of_length_le]
 ·conv=>whnf
  exact True.intro
end P8

/- Every prim in place; ApplyPrim, by the program; contracts. -/
open Go Go.Abs Go.Proofs V1 H1 F1 F2 T1 T2 T3 P1 P2 P3 P4 P5 P6 P7 P8
namespace P9
theorem eK(l:List Int)(h:1≤l.length):l=l.take (l.length-1)++[l.getD (l.length-1) 0]:=by
 apply List.ext_getElem?
 intro i
 rw[List.getElem?_append]
 simp only[List.length_take,Nat.min_eq_left (show l.length-1≤l.length by omega)]
 by_cases h1:i<l.length-1
 ·rw[if_pos h1,List.getElem?_take,if_pos h1]
 ·rw[if_neg h1]
  by_cases h2:i=l.length-1
  ·subst h2
   simp[show l.length-1<l.length by omega]
  ·rw[List.getElem?_eq_none (by omega),List.getElem?_eq_none (by simp;omega)]
theorem dB(l:List Int)(h:2≤l.length):l=l.take (l.length-2)++[l.getD (l.length-2) 0,l.getD (l.length-1) 0]:=by
 have h1:=eK l (by omega)
 have h2:=eK (l.take (l.length-1)) (by simp;omega)
 have e1:(l.take (l.length-1)).length=l.length-1:=by simp
 rw[e1]at h2
 have e2:(l.take (l.length-1)).getD (l.length-1-1) 0=l.getD (l.length-2) 0:=by
  simp only[List.getD_eq_getElem?_getD]
  rw[List.getElem?_take,if_pos (by omega),show l.length-1-1=l.length-2 by omega]
 rw[e2,List.take_take,Nat.min_eq_left (by omega),show l.length-1-1=l.length-2 by omega]at h2
 conv=>lhs;rw[h1,h2]
 simp
theorem Hi(l:List Int)(h:3≤l.length):l=l.take (l.length-3)++[l.getD (l.length-3) 0,l.getD (l.length-2) 0,l.getD (l.length-1) 0]:=by
 have h1:=dB l (by omega)
 have h2:=eK (l.take (l.length-2)) (by simp;omega)
 have e1:(l.take (l.length-2)).length=l.length-2:=by simp
 rw[e1]at h2
 have e2:(l.take (l.length-2)).getD (l.length-2-1) 0=l.getD (l.length-3) 0:=by
  simp only[List.getD_eq_getElem?_getD]
  rw[List.getElem?_take,if_pos (by omega),show l.length-2-1=l.length-3 by omega]
 rw[e2,List.take_take,Nat.min_eq_left (by omega),show l.length-2-1=l.length-3 by omega]at h2
 conv=>lhs;rw[h1,h2]
 simp
theorem gx{l:List Int}(h:aL l=true)(i:Nat): -2147483648≤l.getD i 0∧l.getD i 0≤2147483647:=by
 by_cases hi:i<l.length
 ·have:=List.all_eq_true.1 h l[i] (List.getElem_mem hi)
  have e:l.getD i 0=l[i]:=by simp[hi]
  rw[e]
  exact aN this
 ·have e:l.getD i 0=0:=by simp[hi]
  rw[e];omega
theorem iA{d:Dat}(h:DataOk d):Dk d:=⟨h.he,h.ce,h.st,h.ou,h.ba,fun n hn=>aN (List.all_eq_true.1 h.cce n hn)⟩
theorem HX(p:Nat)(hp:cp p)(d:Dat)(fl:Int)(h:d.st.length≤32)(hu:d.st.length<bE p):Con Tryz.prog 115 [.obj (aw d),.int .i64 p,.int .i64 fl] [.obj (aw d),.undef,.undef] (.int .i64 (-4)):=by
 have g0:decide ((((d.st.map aj).length:Nat):Int)<((bE p:Nat):Int))=true:=by rw[List.length_map];exact decide_eq_true (by omega)
 refine rp 242 Tryz.func115 [.tmp 6] (g:= ?_)
 conv=>whnf
 repeat' (first|(refine ah (c148 p hp ..) ?_;conv=>whnf)|(focus (refine aq (by rfl) ?_;conv=>whnf))|exact True.intro|refine aP ?_)
theorem GX(p:Nat)(hp:cp p)(d:Dat)(fl:Int)(h:d.bk.length≤32)(hf:0≤fl∧fl≤d.bk.length)(hu: ¬d.st.length<bE p)(hb:(d.bk.length:Int)-fl<dU p):Con Tryz.prog 115 [.obj (aw d),.int .i64 p,.int .i64 fl] [.obj (aw d),.undef,.undef] (.int .i64 (-6)):=by
 have g0:decide ((((d.st.map aj).length:Nat):Int)<((bE p:Nat):Int))=false:=by rw[List.length_map];exact decide_eq_false (by omega)
 have wf:IntKind.i64.wrap ((((d.bk.map aj).length:Nat):Int)-fl)=(d.bk.length:Int)-fl:=by rw[List.length_map];exact ai (by omega) (by omega)
 have g1:decide (IntKind.i64.wrap ((((d.bk.map aj).length:Nat):Int)-fl)<((dU p:Nat):Int))=true:=by rw[wf];exact decide_eq_true hb
 refine rp 242 Tryz.func115 [.tmp 6] (g:= ?_)
 conv=>whnf
 repeat' (first|(refine ah (c148 p hp ..) ?_;conv=>whnf)|(refine ah (c149 p hp ..) ?_;conv=>whnf)|(focus (refine aq (by rfl) ?_;conv=>whnf))|exact True.intro|refine aP ?_)
theorem c115(p:Nat)(hp:cp p)(d:Dat)(fl:Int)(h:DataOk d)(hf:0≤fl∧fl≤d.bk.length):Con Tryz.prog 115 [.obj (aw d),.int .i64 p,.int .i64 fl] [.obj (aw (ej TX p fl d).1),.undef,.undef] (.int .i64 (ej TX p fl d).2):=by
 by_cases hu:d.st.length<bE p
 ·rw[ej,if_pos hu]
  exact HX p hp d fl h.st hu
 by_cases hb:(d.bk.length:Int)-fl<dU p
 ·rw[ej,if_neg hu,if_pos hb]
  exact GX p hp d fl h.bk hf hu hb
 rw[ej,if_neg hu,if_neg hb]
 have qb:=gx h.cst (d.st.length-2)
 have qc:=gx h.cst (d.st.length-1)
 have k:=iA h
 have hbk:=h.bk
 rcases zi hp with rfl|rfl|rfl|rfl|rfl|rfl|rfl|rfl|rfl|rfl|rfl|rfl|rfl|rfl|rfl|rfl|rfl|rfl|rfl|rfl|rfl|rfl|rfl|rfl|rfl|rfl|rfl|rfl|rfl|rfl|rfl|rfl|rfl|rfl|rfl|rfl|rfl|rfl|rfl|rfl|rfl|rfl|rfl|rfl|rfl|rfl|rfl|rfl|rfl|rfl|rfl|rfl
 ·exact Gs d _ _ _ _ fl k (eK _ (Nat.le_of_not_lt hu)) hbk hf (Int.not_lt.1 hb) qb qc
 ·exact Gz d _ _ _ _ fl k (eK _ (Nat.le_of_not_lt hu)) hbk hf (Int.not_lt.1 hb) qb qc
 ·exact G3 d _ _ _ _ fl k (dB _ (Nat.le_of_not_lt hu)) hbk hf (Int.not_lt.1 hb) qb qc
 ·exact Gk d _ _ _ _ fl k (dB _ (Nat.le_of_not_lt hu)) hbk hf (Int.not_lt.1 hb) qb qc
 ·exact Ht d _ _ _ _ fl k (Hi _ (Nat.le_of_not_lt hu)) hbk hf (Int.not_lt.1 hb) qb qc
 ·exact Gd d _ _ _ _ fl k (dB _ (Nat.le_of_not_lt hu)) hbk hf (Int.not_lt.1 hb) qb qc
 ·exact Gu d _ _ _ _ fl k (dB _ (Nat.le_of_not_lt hu)) hbk hf (Int.not_lt.1 hb) qb qc
 ·have hu:1≤d.st.length:=Nat.le_of_not_lt hu
  have hb2:0≤(d.bk.length:Int)-fl:=Int.not_lt.1 hb
  by_cases h0:d.st.getD (d.st.length-1) 0=0
  ·exact D0 d _ _ _ _ fl k (eK _ hu) hbk hf hb2 qb qc h0
  ·exact FW d _ _ _ _ fl k (eK _ hu) hbk hf hb2 qb qc h0
 ·exact Gg d _ _ _ _ fl k (dB _ (Nat.le_of_not_lt hu)) hbk hf (Int.not_lt.1 hb) qb qc
 ·exact EL d _ _ _ _ fl k (dB _ (Nat.le_of_not_lt hu)) hbk hf (Int.not_lt.1 hb) qb qc
 ·exact Fc d _ _ _ _ fl k (by show d.st=List.take (d.st.length-0) d.st++[];simp) hbk hf (Int.not_lt.1 hb) qb qc
 ·have hu:1≤d.st.length:=Nat.le_of_not_lt hu
  have hb2:0≤(d.bk.length:Int)-fl:=Int.not_lt.1 hb
  by_cases h0:d.bk.length=32
  ·exact Cj d _ _ _ _ fl k (eK _ hu) hbk hf hb2 qb qc h0
  ·exact Dg d _ _ _ _ fl k (eK _ hu) hbk hf hb2 qb qc h0
 ·exact E5 d _ _ _ _ fl k (by show d.st=List.take (d.st.length-0) d.st++[];simp) hbk hf (Int.not_lt.1 hb) qb qc
 ·exact Fa d _ _ _ _ fl k (by show d.st=List.take (d.st.length-0) d.st++[];simp) hbk hf (Int.not_lt.1 hb) qb qc
 ·exact Ew d _ _ _ _ fl k (dB _ (Nat.le_of_not_lt hu)) hbk hf (Int.not_lt.1 hb) qb qc
 ·exact Ep d _ _ _ _ fl k (dB _ (Nat.le_of_not_lt hu)) hbk hf (Int.not_lt.1 hb) qb qc
 ·exact EQ d _ _ _ _ fl k (dB _ (Nat.le_of_not_lt hu)) hbk hf (Int.not_lt.1 hb) qb qc
 ·have hu:2≤d.st.length:=Nat.le_of_not_lt hu
  have hb2:0≤(d.bk.length:Int)-fl:=Int.not_lt.1 hb
  by_cases h0:d.st.getD (d.st.length-1) 0=0
  ·exact CI d _ _ _ _ fl k (dB _ hu) hbk hf hb2 qb qc h0
  ·exact B3 d _ _ _ _ fl k (dB _ hu) hbk hf hb2 qb qc h0
 ·have hu:2≤d.st.length:=Nat.le_of_not_lt hu
  have hb2:0≤(d.bk.length:Int)-fl:=Int.not_lt.1 hb
  by_cases h0:d.st.getD (d.st.length-1) 0=0
  ·exact CD d _ _ _ _ fl k (dB _ hu) hbk hf hb2 qb qc h0
  ·exact B4 d _ _ _ _ fl k (dB _ hu) hbk hf hb2 qb qc h0
 ·exact Fi d _ _ _ _ fl k (dB _ (Nat.le_of_not_lt hu)) hbk hf (Int.not_lt.1 hb) qb qc
 ·exact EA d _ _ _ _ fl k (dB _ (Nat.le_of_not_lt hu)) hbk hf (Int.not_lt.1 hb) qb qc
 ·exact Eg d _ _ _ _ fl k (dB _ (Nat.le_of_not_lt hu)) hbk hf (Int.not_lt.1 hb) qb qc
 ·exact FU d _ _ _ _ fl k (dB _ (Nat.le_of_not_lt hu)) hbk hf (Int.not_lt.1 hb) qb qc
 ·exact E2 d _ _ _ _ fl k (dB _ (Nat.le_of_not_lt hu)) hbk hf (Int.not_lt.1 hb) qb qc
 ·exact FT d _ _ _ _ fl k (eK _ (Nat.le_of_not_lt hu)) hbk hf (Int.not_lt.1 hb) qb qc
 ·exact Ee d _ _ _ _ fl k (eK _ (Nat.le_of_not_lt hu)) hbk hf (Int.not_lt.1 hb) qb qc
 ·exact FA d _ _ _ _ fl k (eK _ (Nat.le_of_not_lt hu)) hbk hf (Int.not_lt.1 hb) qb qc
 ·exact Fe d _ _ _ _ fl k (eK _ (Nat.le_of_not_lt hu)) hbk hf (Int.not_lt.1 hb) qb qc
 ·exact FF d _ _ _ _ fl k (eK _ (Nat.le_of_not_lt hu)) hbk hf (Int.not_lt.1 hb) qb qc
 ·exact Fz d _ _ _ _ fl k (dB _ (Nat.le_of_not_lt hu)) hbk hf (Int.not_lt.1 hb) qb qc
 ·exact Fu d _ _ _ _ fl k (dB _ (Nat.le_of_not_lt hu)) hbk hf (Int.not_lt.1 hb) qb qc
 ·exact Ei d _ _ _ _ fl k (dB _ (Nat.le_of_not_lt hu)) hbk hf (Int.not_lt.1 hb) qb qc
 ·exact D8 d _ _ _ _ fl k (dB _ (Nat.le_of_not_lt hu)) hbk hf (Int.not_lt.1 hb) qb qc
 ·exact Ek d _ _ _ _ fl k (dB _ (Nat.le_of_not_lt hu)) hbk hf (Int.not_lt.1 hb) qb qc
 ·exact Ft d _ _ _ _ fl k (dB _ (Nat.le_of_not_lt hu)) hbk hf (Int.not_lt.1 hb) qb qc
 ·exact Fo d _ _ _ _ fl k (dB _ (Nat.le_of_not_lt hu)) hbk hf (Int.not_lt.1 hb) qb qc
 ·exact Ey d _ _ _ _ fl k (eK _ (Nat.le_of_not_lt hu)) hbk hf (Int.not_lt.1 hb) qb qc
 ·exact EV d _ _ _ _ fl k (eK _ (Nat.le_of_not_lt hu)) hbk hf (Int.not_lt.1 hb) qb qc
 ·exact FI d _ _ _ _ fl k (eK _ (Nat.le_of_not_lt hu)) hbk hf (Int.not_lt.1 hb) qb qc
 ·exact Eb d _ _ _ _ fl k (dB _ (Nat.le_of_not_lt hu)) hbk hf (Int.not_lt.1 hb) qb qc
 ·exact D4 d _ _ _ _ fl k (dB _ (Nat.le_of_not_lt hu)) hbk hf (Int.not_lt.1 hb) qb qc
 ·exact E9 d _ _ _ _ fl k (by show d.st=List.take (d.st.length-0) d.st++[];simp) hbk hf (Int.not_lt.1 hb) qb qc
 ·exact Ea d _ _ _ _ fl k (eK _ (Nat.le_of_not_lt hu)) hbk hf (Int.not_lt.1 hb) qb qc
 ·exact Ff d _ _ _ _ fl k (eK _ (Nat.le_of_not_lt hu)) hbk hf (Int.not_lt.1 hb) qb qc
 ·exact FS d _ _ _ _ fl k (eK _ (Nat.le_of_not_lt hu)) hbk hf (Int.not_lt.1 hb) qb qc
 ·exact EX d _ _ _ _ fl k (eK _ (Nat.le_of_not_lt hu)) hbk hf (Int.not_lt.1 hb) qb qc
 ·exact En d _ _ _ _ fl k (by show d.st=List.take (d.st.length-0) d.st++[];simp) hbk hf (Int.not_lt.1 hb) qb qc
 ·exact ES d _ _ _ _ fl k (by show d.st=List.take (d.st.length-0) d.st++[];simp) hbk hf (Int.not_lt.1 hb) qb qc
 ·exact EJ d _ _ _ _ fl k (by show d.st=List.take (d.st.length-0) d.st++[];simp) hbk hf (Int.not_lt.1 hb) qb qc
 ·exact Fk d _ _ _ _ fl k (by show d.st=List.take (d.st.length-0) d.st++[];simp) hbk hf (Int.not_lt.1 hb) qb qc
 ·exact E3 d _ _ _ _ fl k (by show d.st=List.take (d.st.length-0) d.st++[];simp) hbk hf (Int.not_lt.1 hb) qb qc
 ·exact FP d _ _ _ _ fl k (by show d.st=List.take (d.st.length-0) d.st++[];simp) hbk hf (Int.not_lt.1 hb) qb qc
instance:CC 115:=⟨_,@c115⟩
end P9

/- Changes of data, ApplyPrim, by the program; contracts. -/
open Go Go.Abs Go.Proofs V1 H1 F1 F2 T1 T2 T3 P1 P2 P3 P4 P5 P6 P7 P8 P9
namespace P10
theorem vc{d:Dat}(h:DataOk d):ef d:=⟨by have:=h.st;omega,by have:=h.bk;omega,by have:=h.ce;omega,by have:=h.ou;omega⟩
end P10
