import Derived.Test.YthfphedhlnoffaaGreatDoorBB
/- Prims on the other stack, in place, by the program; contracts. -/
set_option linter.unusedVariables false
set_option maxHeartbeats 4000000
set_option linter.unusedSimpArgs false
set_option maxRecDepth 100000
open Go Go.Abs Go.Proofs V1 H1 F1 F2 T1 T2 T3 P1 P2 P3 P4 P5
namespace P8
theorem Fb(d:Dat)(r:List Int)(a b c:Int)(fl:Int)(h:Dk d)(hs:d.st=r++[])(hb0:d.bk.length≤32)(hf:0≤fl∧fl≤d.bk.length)(hk:0≤(d.bk.length:Int)-fl)(qb: -2147483648≤b∧b≤2147483647)(qc: -2147483648≤c∧c≤2147483647):Con Tryz.prog 115 [.obj (aw d),.int .i64 11,.int .i64 fl] [.obj (aw (ap TX 11 d r a b c).1),.undef,.undef] (.int .i64 (ap TX 11 d r a b c).2):=by
 have kt:Con Tryz.prog 148 [.int .i64 11] (aa [.int .i64 11]) (.int .i64 0):=c148 11 (by unfold cu;omega)
 have kk:Con Tryz.prog 149 [.int .i64 11] (aa [.int .i64 11]) (.int .i64 0):=c149 11 (by unfold cu;omega)
 have hst:=h.st
 have hl:d.st.length=r.length+0:=by rw[hs];simp
 have g0:decide ((((d.st.map aj).length:Nat):Int)<0)=false:=by rw[List.length_map];exact decide_eq_false (by omega)
 have wf:IntKind.i64.wrap ((((d.bk.map aj).length:Nat):Int)-fl)=(d.bk.length:Int)-fl:=by rw[List.length_map];exact ai (by omega) (by omega)
 have g1:decide (IntKind.i64.wrap ((((d.bk.map aj).length:Nat):Int)-fl)<0)=false:=by rw[wf];exact decide_eq_false (by omega)
 have w2:IntKind.i64.wrap ((((d.st.map aj).length:Nat):Int)-0)=(r.length:Int):=by rw[List.length_map,ai (by omega) (by omega)];omega
 have er:List.take ((IntKind.i64.wrap ((((d.st.map aj).length:Nat):Int)-0)).toNat-0) (List.drop (0+0) d.st)=r:=by rw[w2,hs];simp
 have ey:(((IntKind.i64.wrap ((((d.st.map aj).length:Nat):Int)-0)).toNat-0:Nat):Int)=(r.length:Int):=by rw[w2];omega
 have ex:(((List.take ((IntKind.i64.wrap ((((d.st.map aj).length:Nat):Int)-0)).toNat-0) (List.drop (0+0) d.st)).length:Nat):Int)=(((IntKind.i64.wrap ((((d.st.map aj).length:Nat):Int)-0)).toNat-0:Nat):Int):=by rw[ey,er]
 have k1:=c151 {d with st:=List.take ((IntKind.i64.wrap ((((d.st.map aj).length:Nat):Int)-0)).toNat-0) (List.drop (0+0) d.st)} [(((IntKind.i64.wrap ((((d.st.map aj).length:Nat):Int)-0)).toNat-0:Nat):Int)] (by rw[er];simp only;omega) (by simp)
 rw[←er]
 rw[show ap TX 11 d (List.take ((IntKind.i64.wrap ((((d.st.map aj).length:Nat):Int)-0)).toNat-0) (List.drop (0+0) d.st)) a b c=dD {d with st:=List.take ((IntKind.i64.wrap ((((d.st.map aj).length:Nat):Int)-0)).toNat-0) (List.drop (0+0) d.st)} [(((IntKind.i64.wrap ((((d.st.map aj).length:Nat):Int)-0)).toNat-0:Nat):Int)]from by show eK d (List.take ((IntKind.i64.wrap ((((d.st.map aj).length:Nat):Int)-0)).toNat-0) (List.drop (0+0) d.st)) [(((List.take ((IntKind.i64.wrap ((((d.st.map aj).length:Nat):Int)-0)).toNat-0) (List.drop (0+0) d.st)).length:Nat):Int)]=_;rw[ex];rfl]
 refine rp 242 Tryz.func115 [.tmp 6] (g:= ?_)
 conv=>whnf
 (iterate 28 ((first|apply ac rfl|refine af (by(exact(show _=z3 from rfl))) ?_|refine aG (fun hf=> ?_)|refine ChkS.mk (by kernel_rfl) ?_|apply aJ rfl|refine aJ (by assumption) ?_|apply aB|refine ag (kt ..) ?_|refine ag (kk ..) ?_);conv=>whnf));(iterate 106 ((first|refine ac (by solve|simp only[bj]|fail) ?_|apply ac rfl|refine ac (by rw[w2];first|exact decide_eq_true (by omega)|(rw[List.length_map];first|exact decide_eq_true (by omega)|(simp;omega))) ?_|refine aH (by(rfl)) ?_|refine af (by(exact Ew hs w2)) ?_|refine ChkS.mk (by kernel_rfl) ?_|apply bL rfl|apply aJ rfl|refine ax 151 [some 6,none] ?_|apply aB|refine ag (c95 ..) ?_);conv=>whnf));(focus (apply bo (f:=151);(· repeat' (first|(refine ak ?_;simp[bj];done)|exact be _ _ _ _|apply bg|apply bU|apply bE|apply bB|apply cr|apply cH|apply bT|rfl));refine bz (f:=151) rfl (k1 ..) ?_;conv=>whnf));iterate 8 (first|(apply ac rfl;(conv=>whnf))|(refine af (ak (by solve|simp[bj]|fail)) ?_;(conv=>whnf))|(refine aG (fun hf=> ?_);(conv=>whnf))|(refine aq (by rfl) ?_;(conv=>whnf))|(exact True.intro))
 all_goals skip
theorem FV(d:Dat)(r:List Int)(a b c:Int)(fl:Int)(h:Dk d)(hs:d.st=r++[])(hb0:d.bk.length≤32)(hf:0≤fl∧fl≤d.bk.length)(hk:1≤(d.bk.length:Int)-fl)(qb: -2147483648≤b∧b≤2147483647)(qc: -2147483648≤c∧c≤2147483647):Con Tryz.prog 115 [.obj (aw d),.int .i64 14,.int .i64 fl] [.obj (aw (ap TX 14 d r a b c).1),.undef,.undef] (.int .i64 (ap TX 14 d r a b c).2):=by
 have kt:Con Tryz.prog 148 [.int .i64 14] (aa [.int .i64 14]) (.int .i64 0):=c148 14 (by unfold cu;omega)
 have kk:Con Tryz.prog 149 [.int .i64 14] (aa [.int .i64 14]) (.int .i64 1):=c149 14 (by unfold cu;omega)
 have hst:=h.st
 have hl:d.st.length=r.length+0:=by rw[hs];simp
 have g0:decide ((((d.st.map aj).length:Nat):Int)<0)=false:=by rw[List.length_map];exact decide_eq_false (by omega)
 have wf:IntKind.i64.wrap ((((d.bk.map aj).length:Nat):Int)-fl)=(d.bk.length:Int)-fl:=by rw[List.length_map];exact ai (by omega) (by omega)
 have g1:decide (IntKind.i64.wrap ((((d.bk.map aj).length:Nat):Int)-fl)<1)=false:=by rw[wf];exact decide_eq_false (by omega)
 have w2:IntKind.i64.wrap ((((d.st.map aj).length:Nat):Int)-0)=(r.length:Int):=by rw[List.length_map,ai (by omega) (by omega)];omega
 have er:List.take ((IntKind.i64.wrap ((((d.st.map aj).length:Nat):Int)-0)).toNat-0) (List.drop (0+0) d.st)=r:=by rw[w2,hs];simp
 have wl:(IntKind.i64.wrap ((((d.bk.map aj).length:Nat):Int)-1)).toNat=d.bk.length-1:=by rw[List.length_map,ai (by omega) (by omega)];omega
 have wl2:IntKind.i64.wrap ((((d.bk.map aj).length:Nat):Int)-1)=((d.bk.length-1:Nat):Int):=by rw[List.length_map,ai (by omega) (by omega)];omega
 have k1:=c151 {d with st:=List.take ((IntKind.i64.wrap ((((d.st.map aj).length:Nat):Int)-0)).toNat-0) (List.drop (0+0) d.st)} [d.bk.getD (d.bk.length-1) 0] (by rw[er];simp only;omega) (by simp)
 rw[←er]
 rw[show ap TX 14 d (List.take ((IntKind.i64.wrap ((((d.st.map aj).length:Nat):Int)-0)).toNat-0) (List.drop (0+0) d.st)) a b c=dD {d with st:=List.take ((IntKind.i64.wrap ((((d.st.map aj).length:Nat):Int)-0)).toNat-0) (List.drop (0+0) d.st)} [d.bk.getD (d.bk.length-1) 0]from rfl]
 refine rp 242 Tryz.func115 [.tmp 6] (g:= ?_)
 conv=>whnf
 (iterate 28 ((first|apply ac rfl|refine af (by(exact(show _=z3 from rfl))) ?_|refine aG (fun hf=> ?_)|refine ChkS.mk (by kernel_rfl) ?_|apply aJ rfl|refine aJ (by assumption) ?_|apply aB|refine ag (kt ..) ?_|refine ag (kk ..) ?_);conv=>whnf));(iterate 130 ((first|refine ac (by solve|simp only[bj]|fail) ?_|apply ac rfl|refine ac (by((first|(rw[w2];exact decide_eq_true (by omega))|(rw[w2,List.length_map];exact decide_eq_true (by omega))|(rw[w2,List.length_map];simp;omega)|(rw[wl2];exact decide_eq_true (by omega))|(refine aU rfl ?_;rw[wl2,List.length_map];exact decide_eq_true (by omega))|(rw[wl2,List.length_map];simp;omega)))) ?_|refine aH (by((try rewrite[Nat.zero_add]);rewrite[wl];exact aI aj _ _ _ 0 (by omega))) ?_|refine aH (by(rfl)) ?_|refine af (by(exact Ew hs w2)) ?_|refine ChkS.mk (by kernel_rfl) ?_|apply bL rfl|apply aJ rfl|refine ax 151 [some 6,none] ?_|apply aB|refine ag (c95 ..) ?_);conv=>whnf));(focus (apply bo (f:=151);(· repeat' (first|(refine ak ?_;simp[bj];done)|exact be _ _ _ _|apply bg|apply bU|apply bE|apply bB|apply cr|apply cH|apply bT|rfl));refine bz (f:=151) rfl (k1 ..) ?_;conv=>whnf));iterate 10 (first|(apply ac rfl;(conv=>whnf))|(refine af (ak (by solve|simp[bj]|fail)) ?_;(conv=>whnf))|(refine aG (fun hf=> ?_);(conv=>whnf))|(refine ChkS.mk (by kernel_rfl) ?_;(conv=>whnf))|(refine aq (by rfl) ?_;(conv=>whnf))|(exact True.intro))
 all_goals skip
theorem Gb(d:Dat)(r:List Int)(a b c:Int)(fl:Int)(h:Dk d)(hs:d.st=r++[])(hb0:d.bk.length≤32)(hf:0≤fl∧fl≤d.bk.length)(hk:1≤(d.bk.length:Int)-fl)(qb: -2147483648≤b∧b≤2147483647)(qc: -2147483648≤c∧c≤2147483647):Con Tryz.prog 115 [.obj (aw d),.int .i64 51,.int .i64 fl] [.obj (aw (ap TX 51 d r a b c).1),.undef,.undef] (.int .i64 (ap TX 51 d r a b c).2):=by
 have kt:Con Tryz.prog 148 [.int .i64 51] (aa [.int .i64 51]) (.int .i64 0):=c148 51 (by unfold cu;omega)
 have kk:Con Tryz.prog 149 [.int .i64 51] (aa [.int .i64 51]) (.int .i64 1):=c149 51 (by unfold cu;omega)
 have hst:=h.st
 have hl:d.st.length=r.length+0:=by rw[hs];simp
 have g0:decide ((((d.st.map aj).length:Nat):Int)<0)=false:=by rw[List.length_map];exact decide_eq_false (by omega)
 have wf:IntKind.i64.wrap ((((d.bk.map aj).length:Nat):Int)-fl)=(d.bk.length:Int)-fl:=by rw[List.length_map];exact ai (by omega) (by omega)
 have g1:decide (IntKind.i64.wrap ((((d.bk.map aj).length:Nat):Int)-fl)<1)=false:=by rw[wf];exact decide_eq_false (by omega)
 have w2:IntKind.i64.wrap ((((d.st.map aj).length:Nat):Int)-0)=(r.length:Int):=by rw[List.length_map,ai (by omega) (by omega)];omega
 have er:List.take ((IntKind.i64.wrap ((((d.st.map aj).length:Nat):Int)-0)).toNat-0) (List.drop (0+0) d.st)=r:=by rw[w2,hs];simp
 have wl:(IntKind.i64.wrap ((((d.bk.map aj).length:Nat):Int)-1)).toNat=d.bk.length-1:=by rw[List.length_map,ai (by omega) (by omega)];omega
 have wl2:IntKind.i64.wrap ((((d.bk.map aj).length:Nat):Int)-1)=((d.bk.length-1:Nat):Int):=by rw[List.length_map,ai (by omega) (by omega)];omega
 have k1:=c151 {d with st:=List.take ((IntKind.i64.wrap ((((d.st.map aj).length:Nat):Int)-0)).toNat-0) (List.drop (0+0) d.st)} [d.bk.getD (d.bk.length-1) 0] (by rw[er];simp only;omega) (by simp)
 rw[←er]
 rw[show ap TX 51 d (List.take ((IntKind.i64.wrap ((((d.st.map aj).length:Nat):Int)-0)).toNat-0) (List.drop (0+0) d.st)) a b c=dD {d with st:=List.take ((IntKind.i64.wrap ((((d.st.map aj).length:Nat):Int)-0)).toNat-0) (List.drop (0+0) d.st)} [d.bk.getD (d.bk.length-1) 0]from rfl]
 refine rp 242 Tryz.func115 [.tmp 6] (g:= ?_)
 conv=>whnf
 (iterate 28 ((first|apply ac rfl|refine af (by(exact(show _=z3 from rfl))) ?_|refine aG (fun hf=> ?_)|refine ChkS.mk (by kernel_rfl) ?_|apply aJ rfl|refine aJ (by assumption) ?_|apply aB|refine ag (kt ..) ?_|refine ag (kk ..) ?_);conv=>whnf));(iterate 130 ((first|refine ac (by solve|simp only[bj]|fail) ?_|apply ac rfl|refine ac (by((first|(rw[w2];exact decide_eq_true (by omega))|(rw[w2,List.length_map];exact decide_eq_true (by omega))|(rw[w2,List.length_map];simp;omega)|(rw[wl2];exact decide_eq_true (by omega))|(refine aU rfl ?_;rw[wl2,List.length_map];exact decide_eq_true (by omega))|(rw[wl2,List.length_map];simp;omega)))) ?_|refine aH (by((try rewrite[Nat.zero_add]);rewrite[wl];exact aI aj _ _ _ 0 (by omega))) ?_|refine aH (by(rfl)) ?_|refine af (by(exact Ew hs w2)) ?_|refine ChkS.mk (by kernel_rfl) ?_|apply bL rfl|apply aJ rfl|refine ax 151 [some 6,none] ?_|apply aB|refine ag (c95 ..) ?_);conv=>whnf));(focus (apply bo (f:=151);(· repeat' (first|(refine ak ?_;simp[bj];done)|exact be _ _ _ _|apply bg|apply bU|apply bE|apply bB|apply cr|apply cH|apply bT|rfl));refine bz (f:=151) rfl (k1 ..) ?_;conv=>whnf));iterate 10 (first|(apply ac rfl;(conv=>whnf))|(refine af (ak (by solve|simp[bj]|fail)) ?_;(conv=>whnf))|(refine aG (fun hf=> ?_);(conv=>whnf))|(refine ChkS.mk (by kernel_rfl) ?_;(conv=>whnf))|(refine aq (by rfl) ?_;(conv=>whnf))|(exact True.intro))
 all_goals skip
theorem EW(d:Dat)(r:List Int)(a b c:Int)(fl:Int)(h:Dk d)(hs:d.st=r++[])(hb0:d.bk.length≤32)(hf:0≤fl∧fl≤d.bk.length)(hk:1≤(d.bk.length:Int)-fl)(qb: -2147483648≤b∧b≤2147483647)(qc: -2147483648≤c∧c≤2147483647):Con Tryz.prog 115 [.obj (aw d),.int .i64 13,.int .i64 fl] [.obj (aw (ap TX 13 d r a b c).1),.undef,.undef] (.int .i64 (ap TX 13 d r a b c).2):=by
 have kt:Con Tryz.prog 148 [.int .i64 13] (aa [.int .i64 13]) (.int .i64 0):=c148 13 (by unfold cu;omega)
 have kk:Con Tryz.prog 149 [.int .i64 13] (aa [.int .i64 13]) (.int .i64 1):=c149 13 (by unfold cu;omega)
 have hst:=h.st
 have hl:d.st.length=r.length+0:=by rw[hs];simp
 have g0:decide ((((d.st.map aj).length:Nat):Int)<0)=false:=by rw[List.length_map];exact decide_eq_false (by omega)
 have wf:IntKind.i64.wrap ((((d.bk.map aj).length:Nat):Int)-fl)=(d.bk.length:Int)-fl:=by rw[List.length_map];exact ai (by omega) (by omega)
 have g1:decide (IntKind.i64.wrap ((((d.bk.map aj).length:Nat):Int)-fl)<1)=false:=by rw[wf];exact decide_eq_false (by omega)
 have w2:IntKind.i64.wrap ((((d.st.map aj).length:Nat):Int)-0)=(r.length:Int):=by rw[List.length_map,ai (by omega) (by omega)];omega
 have er:List.take ((IntKind.i64.wrap ((((d.st.map aj).length:Nat):Int)-0)).toNat-0) (List.drop (0+0) d.st)=r:=by rw[w2,hs];simp
 have wl:(IntKind.i64.wrap ((((d.bk.map aj).length:Nat):Int)-1)).toNat=d.bk.length-1:=by rw[List.length_map,ai (by omega) (by omega)];omega
 have wl2:IntKind.i64.wrap ((((d.bk.map aj).length:Nat):Int)-1)=((d.bk.length-1:Nat):Int):=by rw[List.length_map,ai (by omega) (by omega)];omega
 have kd:=c152 {d with st:=List.take ((IntKind.i64.wrap ((((d.st.map aj).length:Nat):Int)-0)).toNat-0) (List.drop (0+0) d.st)} 1 hb0 (by simp only;omega)
 have k1:=c151 {d with st:=List.take ((IntKind.i64.wrap ((((d.st.map aj).length:Nat):Int)-0)).toNat-0) (List.drop (0+0) d.st),bk:=d.bk.take (d.bk.length-1)} [d.bk.getD (d.bk.length-1) 0] (by rw[er];simp only;omega) (by simp)
 rw[←er]
 rw[show ap TX 13 d (List.take ((IntKind.i64.wrap ((((d.st.map aj).length:Nat):Int)-0)).toNat-0) (List.drop (0+0) d.st)) a b c=dD {d with st:=List.take ((IntKind.i64.wrap ((((d.st.map aj).length:Nat):Int)-0)).toNat-0) (List.drop (0+0) d.st),bk:=d.bk.take (d.bk.length-1)} [d.bk.getD (d.bk.length-1) 0]from rfl]
 refine rp 242 Tryz.func115 [.tmp 6] (g:= ?_)
 conv=>whnf
 (iterate 28 ((first|apply ac rfl|refine af (by(exact(show _=z3 from rfl))) ?_|refine aG (fun hf=> ?_)|refine ChkS.mk (by kernel_rfl) ?_|apply aJ rfl|refine aJ (by assumption) ?_|apply aB|refine ag (kt ..) ?_|refine ag (kk ..) ?_);conv=>whnf));(iterate 125 ((first|refine ac (by solve|simp only[bj]|fail) ?_|apply ac rfl|refine ac (by((first|(rw[w2];exact decide_eq_true (by omega))|(rw[w2,List.length_map];exact decide_eq_true (by omega))|(rw[w2,List.length_map];simp;omega)|(rw[wl2];exact decide_eq_true (by omega))|(refine aU rfl ?_;rw[wl2,List.length_map];exact decide_eq_true (by omega))|(rw[wl2,List.length_map];simp;omega)))) ?_|refine aH (by((try rewrite[Nat.zero_add]);rewrite[wl];exact aI aj _ _ _ 0 (by omega))) ?_|refine aH (by(rfl)) ?_|refine af (by(exact Ew hs w2)) ?_|refine ChkS.mk (by kernel_rfl) ?_|apply bL rfl|apply aJ rfl|refine ax 152 [some 6,none] ?_|apply aB|refine ag (c95 ..) ?_);conv=>whnf));(focus (apply bo (f:=152);(· repeat' (first|(refine ak ?_;simp[bj];done)|exact be _ _ _ _|apply bg|apply bU|apply bE|apply bB|apply cr|apply cH|apply bT|rfl));refine bz (f:=152) rfl (kd ..) ?_;conv=>whnf));(iterate 5 ((first|refine ac (by solve|simp only[bj]|fail) ?_|apply ac rfl|refine ax 151 [some 6,none] ?_);conv=>whnf));(focus (apply bo (f:=151);(· repeat' (first|(refine ak ?_;simp[bj];done)|exact be _ _ _ _|apply bg|apply bU|apply bE|apply bB|apply cr|apply cH|apply bT|rfl));refine bz (f:=151) rfl (k1 ..) ?_;conv=>whnf));iterate 8 (first|(apply ac rfl;(conv=>whnf))|(refine af (ak (by solve|simp[bj]|fail)) ?_;(conv=>whnf))|(refine aG (fun hf=> ?_);(conv=>whnf))|(refine aq (by rfl) ?_;(conv=>whnf))|(exact True.intro))
 all_goals skip
theorem GD(d:Dat)(r:List Int)(a b c:Int)(fl:Int)(h:Dk d)(hs:d.st=r++[])(hb0:d.bk.length≤32)(hf:0≤fl∧fl≤d.bk.length)(hk:2≤(d.bk.length:Int)-fl)(qb: -2147483648≤b∧b≤2147483647)(qc: -2147483648≤c∧c≤2147483647):Con Tryz.prog 115 [.obj (aw d),.int .i64 52,.int .i64 fl] [.obj (aw (ap TX 52 d r a b c).1),.undef,.undef] (.int .i64 (ap TX 52 d r a b c).2):=by
 have kt:Con Tryz.prog 148 [.int .i64 52] (aa [.int .i64 52]) (.int .i64 0):=c148 52 (by unfold cu;omega)
 have kk:Con Tryz.prog 149 [.int .i64 52] (aa [.int .i64 52]) (.int .i64 2):=c149 52 (by unfold cu;omega)
 have hst:=h.st
 have hl:d.st.length=r.length+0:=by rw[hs];simp
 have g0:decide ((((d.st.map aj).length:Nat):Int)<0)=false:=by rw[List.length_map];exact decide_eq_false (by omega)
 have wf:IntKind.i64.wrap ((((d.bk.map aj).length:Nat):Int)-fl)=(d.bk.length:Int)-fl:=by rw[List.length_map];exact ai (by omega) (by omega)
 have g1:decide (IntKind.i64.wrap ((((d.bk.map aj).length:Nat):Int)-fl)<2)=false:=by rw[wf];exact decide_eq_false (by omega)
 have w2:IntKind.i64.wrap ((((d.st.map aj).length:Nat):Int)-0)=(r.length:Int):=by rw[List.length_map,ai (by omega) (by omega)];omega
 have er:List.take ((IntKind.i64.wrap ((((d.st.map aj).length:Nat):Int)-0)).toNat-0) (List.drop (0+0) d.st)=r:=by rw[w2,hs];simp
 have kd:=c152 {d with st:=List.take ((IntKind.i64.wrap ((((d.st.map aj).length:Nat):Int)-0)).toNat-0) (List.drop (0+0) d.st)} 2 hb0 (by simp only;omega)
 rw[←er]
 refine rp 242 Tryz.func115 [.tmp 6] (g:= ?_)
 conv=>whnf
 repeat' (first|(refine ax 152 [some 6,none] ?_;conv=>whnf)|(refine eo (kd ..) ?_;conv=>whnf)|(focus (refine aq (by rfl) ?_;conv=>whnf))|exact True.intro|refine aO ?_)
 all_goals skip
theorem CT(d:Dat)(r:List Int)(a b c:Int)(fl:Int)(h:Dk d)(hs:d.st=r++[c])(hb0:d.bk.length≤32)(hf:0≤fl∧fl≤d.bk.length)(hk:0≤(d.bk.length:Int)-fl)(qb: -2147483648≤b∧b≤2147483647)(qc: -2147483648≤c∧c≤2147483647)(h0:d.bk.length=32):Con Tryz.prog 115 [.obj (aw d),.int .i64 12,.int .i64 fl] [.obj (aw (ap TX 12 d r a b c).1),.undef,.undef] (.int .i64 (ap TX 12 d r a b c).2):=by
 have kt:Con Tryz.prog 148 [.int .i64 12] (aa [.int .i64 12]) (.int .i64 1):=c148 12 (by unfold cu;omega)
 have kk:Con Tryz.prog 149 [.int .i64 12] (aa [.int .i64 12]) (.int .i64 0):=c149 12 (by unfold cu;omega)
 have hst:=h.st
 have hl:d.st.length=r.length+1:=by rw[hs];simp
 have g0:decide ((((d.st.map aj).length:Nat):Int)<1)=false:=by rw[List.length_map];exact decide_eq_false (by omega)
 have wf:IntKind.i64.wrap ((((d.bk.map aj).length:Nat):Int)-fl)=(d.bk.length:Int)-fl:=by rw[List.length_map];exact ai (by omega) (by omega)
 have g1:decide (IntKind.i64.wrap ((((d.bk.map aj).length:Nat):Int)-fl)<0)=false:=by rw[wf];exact decide_eq_false (by omega)
 have w2:IntKind.i64.wrap ((((d.st.map aj).length:Nat):Int)-1)=(r.length:Int):=by rw[List.length_map,ai (by omega) (by omega)];omega
 have er:List.take ((IntKind.i64.wrap ((((d.st.map aj).length:Nat):Int)-1)).toNat-0) (List.drop (0+0) d.st)=r:=by rw[w2,hs];simp
 have g5:((((d.bk.map aj).length:Nat):Int)==32)=true:=by rw[List.length_map,h0];rfl
 rw[←er]
 rw[show ap TX 12 d (List.take ((IntKind.i64.wrap ((((d.st.map aj).length:Nat):Int)-1)).toNat-0) (List.drop (0+0) d.st)) a b c=({d with st:=List.take ((IntKind.i64.wrap ((((d.st.map aj).length:Nat):Int)-1)).toNat-0) (List.drop (0+0) d.st)},-5)from by simp only[ap];rw[if_pos h0]]
 refine rp 242 Tryz.func115 [.tmp 6] (g:= ?_)
 conv=>whnf
 (iterate 115 ((first|refine ac (by solve|simp only[bj]|fail) ?_|apply ac rfl|refine ac (by rw[w2];first|exact decide_eq_true (by omega)|(rw[List.length_map];first|exact decide_eq_true (by omega)|(simp;omega))) ?_|refine aH (by(rfl)) ?_|refine af (by(exact(show _=z3 from rfl))) ?_|refine af (by(exact Bx hs w2)) ?_|refine aG (fun hf=> ?_)|refine ChkS.mk (by kernel_rfl) ?_|refine aJ (by assumption) ?_|apply aB|refine ag (kt ..) ?_|refine ag (kk ..) ?_);conv=>whnf));iterate 23 (first|(apply ac rfl;(conv=>whnf))|(refine af (ak (by solve|simp[bj]|fail)) ?_;(conv=>whnf))|(refine af (by(exact be _ _ _ _)) ?_;(conv=>whnf))|(apply bL rfl;(conv=>whnf))|(apply aJ rfl;(conv=>whnf))|(refine bL (by assumption) ?_;(conv=>whnf))|(refine ag (c95 ..) ?_;(conv=>whnf))|(refine aq (by rfl) ?_;(conv=>whnf))|(exact True.intro))
 all_goals skip
theorem D9(d:Dat)(r:List Int)(a b c:Int)(fl:Int)(h:Dk d)(hs:d.st=r++[c])(hb0:d.bk.length≤32)(hf:0≤fl∧fl≤d.bk.length)(hk:0≤(d.bk.length:Int)-fl)(qb: -2147483648≤b∧b≤2147483647)(qc: -2147483648≤c∧c≤2147483647)(h0: ¬d.bk.length=32):Con Tryz.prog 115 [.obj (aw d),.int .i64 12,.int .i64 fl] [.obj (aw (ap TX 12 d r a b c).1),.undef,.undef] (.int .i64 (ap TX 12 d r a b c).2):=by
 have kt:Con Tryz.prog 148 [.int .i64 12] (aa [.int .i64 12]) (.int .i64 1):=c148 12 (by unfold cu;omega)
 have kk:Con Tryz.prog 149 [.int .i64 12] (aa [.int .i64 12]) (.int .i64 0):=c149 12 (by unfold cu;omega)
 have hst:=h.st
 have hl:d.st.length=r.length+1:=by rw[hs];simp
 have g0:decide ((((d.st.map aj).length:Nat):Int)<1)=false:=by rw[List.length_map];exact decide_eq_false (by omega)
 have wf:IntKind.i64.wrap ((((d.bk.map aj).length:Nat):Int)-fl)=(d.bk.length:Int)-fl:=by rw[List.length_map];exact ai (by omega) (by omega)
 have g1:decide (IntKind.i64.wrap ((((d.bk.map aj).length:Nat):Int)-fl)<0)=false:=by rw[wf];exact decide_eq_false (by omega)
 have w2:IntKind.i64.wrap ((((d.st.map aj).length:Nat):Int)-1)=(r.length:Int):=by rw[List.length_map,ai (by omega) (by omega)];omega
 have er:List.take ((IntKind.i64.wrap ((((d.st.map aj).length:Nat):Int)-1)).toNat-0) (List.drop (0+0) d.st)=r:=by rw[w2,hs];simp
 have g5:((((d.bk.map aj).length:Nat):Int)==32)=false:=by rw[List.length_map];simp;omega
 rw[←er]
 rw[show ap TX 12 d (List.take ((IntKind.i64.wrap ((((d.st.map aj).length:Nat):Int)-1)).toNat-0) (List.drop (0+0) d.st)) a b c=({d with st:=List.take ((IntKind.i64.wrap ((((d.st.map aj).length:Nat):Int)-1)).toNat-0) (List.drop (0+0) d.st),bk:=d.bk++[c]},0)from by simp only[ap];rw[if_neg h0]]
 refine rp 242 Tryz.func115 [.tmp 6] (g:= ?_)
 conv=>whnf
 (iterate 28 ((first|apply ac rfl|refine af (by(exact(show _=z3 from rfl))) ?_|refine aG (fun hf=> ?_)|refine ChkS.mk (by kernel_rfl) ?_|refine aJ (by assumption) ?_|apply aB|refine ag (kt ..) ?_|refine ag (kk ..) ?_);conv=>whnf));(iterate 113 ((first|refine ac (by solve|simp only[bj]|fail) ?_|apply ac rfl|refine ac (by((first|(rw[w2];exact decide_eq_true (by omega))|(rw[w2,List.length_map];exact decide_eq_true (by omega))|(rw[w2,List.length_map];simp;omega)|(simp[ao,am];omega)))) ?_|refine aH (by(rfl)) ?_|refine af (by(exact Bx hs w2)) ?_|refine cg ?_|refine ChkS.mk (by kernel_rfl) ?_|apply bL rfl|apply aJ rfl|refine aJ (by assumption) ?_|apply aB|refine ag (c95 ..) ?_);conv=>whnf));iterate 4 ((first|refine af (ak (by solve|simp[bj]|fail)) ?_|refine af (by(exact be _ _ _ _)) ?_|apply af rfl|refine aq (by rfl) ?_);conv=>whnf)
 rotate_left
 refine nS (Sh.agg ⟨Sh.refl _,mv ?_,Sh.refl _,Sh.refl _,Sh.refl _,Sh.refl _,trivial⟩) ?_
 ·simp[aK,aj,am,List.take_of_length_le]
 ·conv=>whnf
  exact True.intro
end P8

/- Every prim in place; ApplyPrim, by the program; contracts. -/
open Go Go.Abs Go.Proofs V1 H1 F1 F2 T1 T2 T3 P1 P2 P3 P4 P5 P6 P7 P8
namespace P9
theorem eW(l:List Int)(h:1≤l.length):l=l.take (l.length-1)++[l.getD (l.length-1) 0]:=by
 apply List.ext_getElem?
 intro i
 rw[List.getElem?_append]
 simp only[List.length_take,Nat.min_eq_left (show l.length-1≤l.length by omega)]
 by_cases h1:i<l.length-1
 ·rw[if_pos h1,List.getElem?_take,if_pos h1]
 ·rw[if_neg h1]
  by_cases h2:i=l.length-1
  ·subst h2
   simp[show l.length-1<l.length by omega]
  ·rw[List.getElem?_eq_none (by omega),List.getElem?_eq_none (by simp;omega)]
theorem dH(l:List Int)(h:2≤l.length):l=l.take (l.length-2)++[l.getD (l.length-2) 0,l.getD (l.length-1) 0]:=by
 have h1:=eW l (by omega)
 have h2:=eW (l.take (l.length-1)) (by simp;omega)
 have e1:(l.take (l.length-1)).length=l.length-1:=by simp
 rw[e1]at h2
 have e2:(l.take (l.length-1)).getD (l.length-1-1) 0=l.getD (l.length-2) 0:=by
  simp only[List.getD_eq_getElem?_getD]
  rw[List.getElem?_take,if_pos (by omega),show l.length-1-1=l.length-2 by omega]
 rw[e2,List.take_take,Nat.min_eq_left (by omega),show l.length-1-1=l.length-2 by omega]at h2
 conv=>lhs;rw[h1,h2]
 simp
theorem IW(l:List Int)(h:3≤l.length):l=l.take (l.length-3)++[l.getD (l.length-3) 0,l.getD (l.length-2) 0,l.getD (l.length-1) 0]:=by
 have h1:=dH l (by omega)
 have h2:=eW (l.take (l.length-2)) (by simp;omega)
 have e1:(l.take (l.length-2)).length=l.length-2:=by simp
 rw[e1]at h2
 have e2:(l.take (l.length-2)).getD (l.length-2-1) 0=l.getD (l.length-3) 0:=by
  simp only[List.getD_eq_getElem?_getD]
  rw[List.getElem?_take,if_pos (by omega),show l.length-2-1=l.length-3 by omega]
 rw[e2,List.take_take,Nat.min_eq_left (by omega),show l.length-2-1=l.length-3 by omega]at h2
 conv=>lhs;rw[h1,h2]
 simp
theorem gG{l:List Int}(h:aN l=true)(i:Nat): -2147483648≤l.getD i 0∧l.getD i 0≤2147483647:=by
 by_cases hi:i<l.length
 ·have:=List.all_eq_true.1 h l[i] (List.getElem_mem hi)
  have e:l.getD i 0=l[i]:=by simp[hi]
  rw[e]
  exact aQ this
 ·have e:l.getD i 0=0:=by simp[hi]
  rw[e];omega
theorem iJ{d:Dat}(h:DataOk d):Dk d:=⟨h.he,h.ce,h.st,h.ou,h.ba,fun n hn=>aQ (List.all_eq_true.1 h.cce n hn)⟩
theorem HK(p:Nat)(hp:cu p)(d:Dat)(fl:Int)(h:d.st.length≤32)(hu:d.st.length<bK p):Con Tryz.prog 115 [.obj (aw d),.int .i64 p,.int .i64 fl] [.obj (aw d),.undef,.undef] (.int .i64 (-4)):=by
 have g0:decide ((((d.st.map aj).length:Nat):Int)<((bK p:Nat):Int))=true:=by rw[List.length_map];exact decide_eq_true (by omega)
 refine rp 242 Tryz.func115 [.tmp 6] (g:= ?_)
 conv=>whnf
 repeat' (first|(refine ag (c148 p hp ..) ?_;conv=>whnf)|(focus (refine aq (by rfl) ?_;conv=>whnf))|exact True.intro|refine aO ?_)
theorem Ii(p:Nat)(hp:cu p)(d:Dat)(fl:Int)(h:d.bk.length≤32)(hf:0≤fl∧fl≤d.bk.length)(hu: ¬d.st.length<bK p)(hb:(d.bk.length:Int)-fl<dZ p):Con Tryz.prog 115 [.obj (aw d),.int .i64 p,.int .i64 fl] [.obj (aw d),.undef,.undef] (.int .i64 (-6)):=by
 have g0:decide ((((d.st.map aj).length:Nat):Int)<((bK p:Nat):Int))=false:=by rw[List.length_map];exact decide_eq_false (by omega)
 have wf:IntKind.i64.wrap ((((d.bk.map aj).length:Nat):Int)-fl)=(d.bk.length:Int)-fl:=by rw[List.length_map];exact ai (by omega) (by omega)
 have g1:decide (IntKind.i64.wrap ((((d.bk.map aj).length:Nat):Int)-fl)<((dZ p:Nat):Int))=true:=by rw[wf];exact decide_eq_true hb
 refine rp 242 Tryz.func115 [.tmp 6] (g:= ?_)
 conv=>whnf
 repeat' (first|(refine ag (c148 p hp ..) ?_;conv=>whnf)|(refine ag (c149 p hp ..) ?_;conv=>whnf)|(focus (refine aq (by rfl) ?_;conv=>whnf))|exact True.intro|refine aO ?_)
theorem c115(p:Nat)(hp:cu p)(d:Dat)(fl:Int)(h:DataOk d)(hf:0≤fl∧fl≤d.bk.length):Con Tryz.prog 115 [.obj (aw d),.int .i64 p,.int .i64 fl] [.obj (aw (ew TX p fl d).1),.undef,.undef] (.int .i64 (ew TX p fl d).2):=by
 by_cases hu:d.st.length<bK p
 ·rw[ew,if_pos hu]
  exact HK p hp d fl h.st hu
 by_cases hb:(d.bk.length:Int)-fl<dZ p
 ·rw[ew,if_neg hu,if_pos hb]
  exact Ii p hp d fl h.bk hf hu hb
 rw[ew,if_neg hu,if_neg hb]
 have qb:=gG h.cst (d.st.length-2)
 have qc:=gG h.cst (d.st.length-1)
 have k:=iJ h
 have hbk:=h.bk
 rcases A7 hp with rfl|rfl|rfl|rfl|rfl|rfl|rfl|rfl|rfl|rfl|rfl|rfl|rfl|rfl|rfl|rfl|rfl|rfl|rfl|rfl|rfl|rfl|rfl|rfl|rfl|rfl|rfl|rfl|rfl|rfl|rfl|rfl|rfl|rfl|rfl|rfl|rfl|rfl|rfl|rfl|rfl|rfl|rfl|rfl|rfl|rfl|rfl|rfl|rfl|rfl|rfl|rfl
 ·exact Is d _ _ _ _ fl k (eW _ (Nat.le_of_not_lt hu)) hbk hf (Int.not_lt.1 hb) qb qc
 ·exact Io d _ _ _ _ fl k (eW _ (Nat.le_of_not_lt hu)) hbk hf (Int.not_lt.1 hb) qb qc
 ·exact ID d _ _ _ _ fl k (dH _ (Nat.le_of_not_lt hu)) hbk hf (Int.not_lt.1 hb) qb qc
 ·exact HV d _ _ _ _ fl k (dH _ (Nat.le_of_not_lt hu)) hbk hf (Int.not_lt.1 hb) qb qc
 ·exact Ia d _ _ _ _ fl k (IW _ (Nat.le_of_not_lt hu)) hbk hf (Int.not_lt.1 hb) qb qc
 ·exact HN d _ _ _ _ fl k (dH _ (Nat.le_of_not_lt hu)) hbk hf (Int.not_lt.1 hb) qb qc
 ·exact Hl d _ _ _ _ fl k (dH _ (Nat.le_of_not_lt hu)) hbk hf (Int.not_lt.1 hb) qb qc
 ·have hu:1≤d.st.length:=Nat.le_of_not_lt hu
  have hb2:0≤(d.bk.length:Int)-fl:=Int.not_lt.1 hb
  by_cases h0:d.st.getD (d.st.length-1) 0=0
  ·exact Gw d _ _ _ _ fl k (eW _ hu) hbk hf hb2 qb qc h0
  ·exact FG d _ _ _ _ fl k (eW _ hu) hbk hf hb2 qb qc h0
 ·exact IA d _ _ _ _ fl k (dH _ (Nat.le_of_not_lt hu)) hbk hf (Int.not_lt.1 hb) qb qc
 ·exact Fz d _ _ _ _ fl k (dH _ (Nat.le_of_not_lt hu)) hbk hf (Int.not_lt.1 hb) qb qc
 ·exact Fb d _ _ _ _ fl k (by show d.st=List.take (d.st.length-0) d.st++[];simp) hbk hf (Int.not_lt.1 hb) qb qc
 ·have hu:1≤d.st.length:=Nat.le_of_not_lt hu
  have hb2:0≤(d.bk.length:Int)-fl:=Int.not_lt.1 hb
  by_cases h0:d.bk.length=32
  ·exact CT d _ _ _ _ fl k (eW _ hu) hbk hf hb2 qb qc h0
  ·exact D9 d _ _ _ _ fl k (eW _ hu) hbk hf hb2 qb qc h0
 ·exact EW d _ _ _ _ fl k (by show d.st=List.take (d.st.length-0) d.st++[];simp) hbk hf (Int.not_lt.1 hb) qb qc
 ·exact FV d _ _ _ _ fl k (by show d.st=List.take (d.st.length-0) d.st++[];simp) hbk hf (Int.not_lt.1 hb) qb qc
 ·exact Gm d _ _ _ _ fl k (dH _ (Nat.le_of_not_lt hu)) hbk hf (Int.not_lt.1 hb) qb qc
 ·exact EZ d _ _ _ _ fl k (dH _ (Nat.le_of_not_lt hu)) hbk hf (Int.not_lt.1 hb) qb qc
 ·exact FT d _ _ _ _ fl k (dH _ (Nat.le_of_not_lt hu)) hbk hf (Int.not_lt.1 hb) qb qc
 ·have hu:2≤d.st.length:=Nat.le_of_not_lt hu
  have hb2:0≤(d.bk.length:Int)-fl:=Int.not_lt.1 hb
  by_cases h0:d.st.getD (d.st.length-1) 0=0
  ·exact Ee d _ _ _ _ fl k (dH _ hu) hbk hf hb2 qb qc h0
  ·exact Dq d _ _ _ _ fl k (dH _ hu) hbk hf hb2 qb qc h0
 ·have hu:2≤d.st.length:=Nat.le_of_not_lt hu
  have hb2:0≤(d.bk.length:Int)-fl:=Int.not_lt.1 hb
  by_cases h0:d.st.getD (d.st.length-1) 0=0
  ·exact D0 d _ _ _ _ fl k (dH _ hu) hbk hf hb2 qb qc h0
  ·exact D2 d _ _ _ _ fl k (dH _ hu) hbk hf hb2 qb qc h0
 ·exact GF d _ _ _ _ fl k (dH _ (Nat.le_of_not_lt hu)) hbk hf (Int.not_lt.1 hb) qb qc
 ·exact Fo d _ _ _ _ fl k (dH _ (Nat.le_of_not_lt hu)) hbk hf (Int.not_lt.1 hb) qb qc
 ·exact Fi d _ _ _ _ fl k (dH _ (Nat.le_of_not_lt hu)) hbk hf (Int.not_lt.1 hb) qb qc
 ·exact Fw d _ _ _ _ fl k (dH _ (Nat.le_of_not_lt hu)) hbk hf (Int.not_lt.1 hb) qb qc
 ·exact FS d _ _ _ _ fl k (dH _ (Nat.le_of_not_lt hu)) hbk hf (Int.not_lt.1 hb) qb qc
 ·exact GI d _ _ _ _ fl k (eW _ (Nat.le_of_not_lt hu)) hbk hf (Int.not_lt.1 hb) qb qc
 ·exact Fj d _ _ _ _ fl k (eW _ (Nat.le_of_not_lt hu)) hbk hf (Int.not_lt.1 hb) qb qc
 ·exact Gg d _ _ _ _ fl k (eW _ (Nat.le_of_not_lt hu)) hbk hf (Int.not_lt.1 hb) qb qc
 ·exact Gk d _ _ _ _ fl k (eW _ (Nat.le_of_not_lt hu)) hbk hf (Int.not_lt.1 hb) qb qc
 ·exact FO d _ _ _ _ fl k (eW _ (Nat.le_of_not_lt hu)) hbk hf (Int.not_lt.1 hb) qb qc
 ·exact GL d _ _ _ _ fl k (dH _ (Nat.le_of_not_lt hu)) hbk hf (Int.not_lt.1 hb) qb qc
 ·exact EV d _ _ _ _ fl k (dH _ (Nat.le_of_not_lt hu)) hbk hf (Int.not_lt.1 hb) qb qc
 ·exact FL d _ _ _ _ fl k (dH _ (Nat.le_of_not_lt hu)) hbk hf (Int.not_lt.1 hb) qb qc
 ·exact E6 d _ _ _ _ fl k (dH _ (Nat.le_of_not_lt hu)) hbk hf (Int.not_lt.1 hb) qb qc
 ·exact E2 d _ _ _ _ fl k (dH _ (Nat.le_of_not_lt hu)) hbk hf (Int.not_lt.1 hb) qb qc
 ·exact EY d _ _ _ _ fl k (dH _ (Nat.le_of_not_lt hu)) hbk hf (Int.not_lt.1 hb) qb qc
 ·exact Fg d _ _ _ _ fl k (dH _ (Nat.le_of_not_lt hu)) hbk hf (Int.not_lt.1 hb) qb qc
 ·exact GS d _ _ _ _ fl k (eW _ (Nat.le_of_not_lt hu)) hbk hf (Int.not_lt.1 hb) qb qc
 ·exact F4 d _ _ _ _ fl k (eW _ (Nat.le_of_not_lt hu)) hbk hf (Int.not_lt.1 hb) qb qc
 ·exact FQ d _ _ _ _ fl k (eW _ (Nat.le_of_not_lt hu)) hbk hf (Int.not_lt.1 hb) qb qc
 ·exact Fp d _ _ _ _ fl k (dH _ (Nat.le_of_not_lt hu)) hbk hf (Int.not_lt.1 hb) qb qc
 ·exact GG d _ _ _ _ fl k (dH _ (Nat.le_of_not_lt hu)) hbk hf (Int.not_lt.1 hb) qb qc
 ·exact FP d _ _ _ _ fl k (by show d.st=List.take (d.st.length-0) d.st++[];simp) hbk hf (Int.not_lt.1 hb) qb qc
 ·exact GA d _ _ _ _ fl k (eW _ (Nat.le_of_not_lt hu)) hbk hf (Int.not_lt.1 hb) qb qc
 ·exact FN d _ _ _ _ fl k (eW _ (Nat.le_of_not_lt hu)) hbk hf (Int.not_lt.1 hb) qb qc
 ·exact FZ d _ _ _ _ fl k (eW _ (Nat.le_of_not_lt hu)) hbk hf (Int.not_lt.1 hb) qb qc
 ·exact E1 d _ _ _ _ fl k (eW _ (Nat.le_of_not_lt hu)) hbk hf (Int.not_lt.1 hb) qb qc
 ·exact Gi d _ _ _ _ fl k (by show d.st=List.take (d.st.length-0) d.st++[];simp) hbk hf (Int.not_lt.1 hb) qb qc
 ·exact F7 d _ _ _ _ fl k (by show d.st=List.take (d.st.length-0) d.st++[];simp) hbk hf (Int.not_lt.1 hb) qb qc
 ·exact E5 d _ _ _ _ fl k (by show d.st=List.take (d.st.length-0) d.st++[];simp) hbk hf (Int.not_lt.1 hb) qb qc
 ·exact FA d _ _ _ _ fl k (by show d.st=List.take (d.st.length-0) d.st++[];simp) hbk hf (Int.not_lt.1 hb) qb qc
 ·exact Gb d _ _ _ _ fl k (by show d.st=List.take (d.st.length-0) d.st++[];simp) hbk hf (Int.not_lt.1 hb) qb qc
 ·exact GD d _ _ _ _ fl k (by show d.st=List.take (d.st.length-0) d.st++[];simp) hbk hf (Int.not_lt.1 hb) qb qc
instance:CC 115:=⟨_,@c115⟩
end P9

/- Changes of data, ApplyPrim, by the program; contracts. -/
open Go Go.Abs Go.Proofs V1 H1 F1 F2 T1 T2 T3 P1 P2 P3 P4 P5 P6 P7 P8 P9
namespace P10
theorem vS{d:Dat}(h:DataOk d):ep d:=⟨by have:=h.st;omega,by have:=h.bk;omega,by have:=h.ce;omega,by have:=h.ou;omega⟩
end P10
