import Derived.Test.YthfphedhlnoffaaGreatDoorBA
/- Prims in place, by the program; contracts. -/
set_option linter.unusedVariables false
set_option linter.unusedSimpArgs false
set_option maxRecDepth 100000
open Go Go.Abs Go.Proofs V1 H1 F1 F2 T1 T2 T3 P1 P2 P3 P4
namespace P5
theorem c152(d:Dat)(n:Nat)(h:d.bk.length≤32)(hn:n≤d.bk.length):Con Tryz.prog 152 [.obj (aw d),.int .i64 n] [.obj (aw {d with bk:=d.bk.take (d.bk.length-n)}),.undef] (.tup []):=by
 have w1:IntKind.i64.wrap ((d.bk.length:Int)-(n:Int))=((d.bk.length-n:Nat):Int):=by rw[ai (by omega) (by omega)];omega
 refine rp 19 Tryz.func152 [] (g:= ?_)
 conv=>whnf
 refine aO ?_
 (refine aq (by rfl) ?_;conv=>whnf)
 refine aO ?_
 rotate_left
 refine nS (Sh.agg ⟨Sh.refl _,mv ?_,Sh.refl _,Sh.refl _,Sh.refl _,Sh.refl _,trivial⟩) ?_
 ·simp[w1,aK]
 ·conv=>whnf
  exact True.intro
instance:CC 152:=⟨_,@c152⟩
def TX(n ba:Int):List UInt8:=my n ba.toNat
def z3:List (List AV):=[[.int .i64 0],[.int .i64 0],[.int .i64 0]]
theorem np{r l:List Int}{d:List Int}(hs:d=r++l){n m:Nat}(hn:n=r.length)(hm:m=l.length):am (d.map aj) n m=l.map aj:=by
 subst hs hn hm
 simp[am,List.take_of_length_le]
theorem Ew{r:List Int}{d:List Int}(hs:d=r++[])(w:IntKind.i64.wrap ((((d.map aj).length:Nat):Int)-0)=(r.length:Int)):
  List.take (0+(IntKind.i64.wrap (3-0)).toNat) z3++List.take (z3.length-(IntKind.i64.wrap (3-0)).toNat) (am (d.map aj) (0+(IntKind.i64.wrap ((((d.map aj).length:Nat):Int)-0)).toNat) ((d.map aj).length-(IntKind.i64.wrap ((((d.map aj).length:Nat):Int)-0)).toNat))++
   List.drop (0+(IntKind.i64.wrap (3-0)).toNat+min (am (d.map aj) (0+(IntKind.i64.wrap ((((d.map aj).length:Nat):Int)-0)).toNat) ((d.map aj).length-(IntKind.i64.wrap ((((d.map aj).length:Nat):Int)-0)).toNat)).length (z3.length-(IntKind.i64.wrap (3-0)).toNat)) z3=[[.int .i64 0],[.int .i64 0],[.int .i64 0]]:=by
 have hl:(d.map aj).length=r.length+0:=by rw[hs];simp
 rw[w,np hs (by omega) (by rw[hl];simp)]
 rfl
theorem Bx{r:List Int}{c:Int}{d:List Int}(hs:d=r++[c])(w:IntKind.i64.wrap ((((d.map aj).length:Nat):Int)-1)=(r.length:Int)):
  List.take (0+(IntKind.i64.wrap (3-1)).toNat) z3++List.take (z3.length-(IntKind.i64.wrap (3-1)).toNat) (am (d.map aj) (0+(IntKind.i64.wrap ((((d.map aj).length:Nat):Int)-1)).toNat) ((d.map aj).length-(IntKind.i64.wrap ((((d.map aj).length:Nat):Int)-1)).toNat))++
   List.drop (0+(IntKind.i64.wrap (3-1)).toNat+min (am (d.map aj) (0+(IntKind.i64.wrap ((((d.map aj).length:Nat):Int)-1)).toNat) ((d.map aj).length-(IntKind.i64.wrap ((((d.map aj).length:Nat):Int)-1)).toNat)).length (z3.length-(IntKind.i64.wrap (3-1)).toNat)) z3=[[.int .i64 0],[.int .i64 0],[.int .i64 c]]:=by
 have hl:(d.map aj).length=r.length+1:=by rw[hs];simp
 rw[w,np hs (by omega) (by rw[hl];simp)]
 rfl
theorem AM{r:List Int}{b c:Int}{d:List Int}(hs:d=r++[b,c])(w:IntKind.i64.wrap ((((d.map aj).length:Nat):Int)-2)=(r.length:Int)):
  List.take (0+(IntKind.i64.wrap (3-2)).toNat) z3++List.take (z3.length-(IntKind.i64.wrap (3-2)).toNat) (am (d.map aj) (0+(IntKind.i64.wrap ((((d.map aj).length:Nat):Int)-2)).toNat) ((d.map aj).length-(IntKind.i64.wrap ((((d.map aj).length:Nat):Int)-2)).toNat))++
   List.drop (0+(IntKind.i64.wrap (3-2)).toNat+min (am (d.map aj) (0+(IntKind.i64.wrap ((((d.map aj).length:Nat):Int)-2)).toNat) ((d.map aj).length-(IntKind.i64.wrap ((((d.map aj).length:Nat):Int)-2)).toNat)).length (z3.length-(IntKind.i64.wrap (3-2)).toNat)) z3=[[.int .i64 0],[.int .i64 b],[.int .i64 c]]:=by
 have hl:(d.map aj).length=r.length+2:=by rw[hs];simp
 rw[w,np hs (by omega) (by rw[hl];simp)]
 rfl
theorem HS{r:List Int}{a b c:Int}{d:List Int}(hs:d=r++[a,b,c])(w:IntKind.i64.wrap ((((d.map aj).length:Nat):Int)-3)=(r.length:Int)):
  List.take (0+(IntKind.i64.wrap (3-3)).toNat) z3++List.take (z3.length-(IntKind.i64.wrap (3-3)).toNat) (am (d.map aj) (0+(IntKind.i64.wrap ((((d.map aj).length:Nat):Int)-3)).toNat) ((d.map aj).length-(IntKind.i64.wrap ((((d.map aj).length:Nat):Int)-3)).toNat))++
   List.drop (0+(IntKind.i64.wrap (3-3)).toNat+min (am (d.map aj) (0+(IntKind.i64.wrap ((((d.map aj).length:Nat):Int)-3)).toNat) ((d.map aj).length-(IntKind.i64.wrap ((((d.map aj).length:Nat):Int)-3)).toNat)).length (z3.length-(IntKind.i64.wrap (3-3)).toNat)) z3=[[.int .i64 a],[.int .i64 b],[.int .i64 c]]:=by
 have hl:(d.map aj).length=r.length+3:=by rw[hs];simp
 rw[w,np hs (by omega) (by rw[hl];simp)]
 rfl
theorem Io(d:Dat)(r:List Int)(a b c:Int)(fl:Int)(h:Dk d)(hs:d.st=r++[c])(hb0:d.bk.length≤32)(hf:0≤fl∧fl≤d.bk.length)(hk:0≤(d.bk.length:Int)-fl)(qb: -2147483648≤b∧b≤2147483647)(qc: -2147483648≤c∧c≤2147483647):Con Tryz.prog 115 [.obj (aw d),.int .i64 2,.int .i64 fl] [.obj (aw (ap TX 2 d r a b c).1),.undef,.undef] (.int .i64 (ap TX 2 d r a b c).2):=by
 have kt:Con Tryz.prog 148 [.int .i64 2] (aa [.int .i64 2]) (.int .i64 1):=c148 2 (by unfold cu;omega)
 have kk:Con Tryz.prog 149 [.int .i64 2] (aa [.int .i64 2]) (.int .i64 0):=c149 2 (by unfold cu;omega)
 have hst:=h.st
 have hl:d.st.length=r.length+1:=by rw[hs];simp
 have g0:decide ((((d.st.map aj).length:Nat):Int)<1)=false:=by rw[List.length_map];exact decide_eq_false (by omega)
 have wf:IntKind.i64.wrap ((((d.bk.map aj).length:Nat):Int)-fl)=(d.bk.length:Int)-fl:=by rw[List.length_map];exact ai (by omega) (by omega)
 have g1:decide (IntKind.i64.wrap ((((d.bk.map aj).length:Nat):Int)-fl)<0)=false:=by rw[wf];exact decide_eq_false (by omega)
 have w2:IntKind.i64.wrap ((((d.st.map aj).length:Nat):Int)-1)=(r.length:Int):=by rw[List.length_map,ai (by omega) (by omega)];omega
 have er:List.take ((IntKind.i64.wrap ((((d.st.map aj).length:Nat):Int)-1)).toNat-0) (List.drop (0+0) d.st)=r:=by rw[w2,hs];simp
 rw[←er]
 refine rp 242 Tryz.func115 [.tmp 6] (g:= ?_)
 conv=>whnf
 (iterate 115 ((first|refine ac (by solve|simp only[bj]|fail) ?_|apply ac rfl|refine ac (by rw[w2];first|exact decide_eq_true (by omega)|(rw[List.length_map];first|exact decide_eq_true (by omega)|(simp;omega))) ?_|refine aH (by(rfl)) ?_|refine af (by(exact(show _=z3 from rfl))) ?_|refine af (by(exact Bx hs w2)) ?_|refine aG (fun hf=> ?_)|refine ChkS.mk (by kernel_rfl) ?_|refine aJ (by assumption) ?_|apply aB|refine ag (kt ..) ?_|refine ag (kk ..) ?_);conv=>whnf));iterate 12 (first|(apply ac rfl;(conv=>whnf))|(refine af (ak (by solve|simp[bj]|fail)) ?_;(conv=>whnf))|(refine af (by(exact be _ _ _ _)) ?_;(conv=>whnf))|(apply bL rfl;(conv=>whnf))|(apply aJ rfl;(conv=>whnf))|(refine ag (c95 ..) ?_;(conv=>whnf))|(refine aq (by rfl) ?_;(conv=>whnf))|(exact True.intro))
 all_goals skip
theorem Is(d:Dat)(r:List Int)(a b c:Int)(fl:Int)(h:Dk d)(hs:d.st=r++[c])(hb0:d.bk.length≤32)(hf:0≤fl∧fl≤d.bk.length)(hk:0≤(d.bk.length:Int)-fl)(qb: -2147483648≤b∧b≤2147483647)(qc: -2147483648≤c∧c≤2147483647):Con Tryz.prog 115 [.obj (aw d),.int .i64 1,.int .i64 fl] [.obj (aw (ap TX 1 d r a b c).1),.undef,.undef] (.int .i64 (ap TX 1 d r a b c).2):=by
 have kt:Con Tryz.prog 148 [.int .i64 1] (aa [.int .i64 1]) (.int .i64 1):=c148 1 (by unfold cu;omega)
 have kk:Con Tryz.prog 149 [.int .i64 1] (aa [.int .i64 1]) (.int .i64 0):=c149 1 (by unfold cu;omega)
 have hst:=h.st
 have hl:d.st.length=r.length+1:=by rw[hs];simp
 have g0:decide ((((d.st.map aj).length:Nat):Int)<1)=false:=by rw[List.length_map];exact decide_eq_false (by omega)
 have wf:IntKind.i64.wrap ((((d.bk.map aj).length:Nat):Int)-fl)=(d.bk.length:Int)-fl:=by rw[List.length_map];exact ai (by omega) (by omega)
 have g1:decide (IntKind.i64.wrap ((((d.bk.map aj).length:Nat):Int)-fl)<0)=false:=by rw[wf];exact decide_eq_false (by omega)
 have w2:IntKind.i64.wrap ((((d.st.map aj).length:Nat):Int)-1)=(r.length:Int):=by rw[List.length_map,ai (by omega) (by omega)];omega
 have er:List.take ((IntKind.i64.wrap ((((d.st.map aj).length:Nat):Int)-1)).toNat-0) (List.drop (0+0) d.st)=r:=by rw[w2,hs];simp
 have k1:=c151 {d with st:=List.take ((IntKind.i64.wrap ((((d.st.map aj).length:Nat):Int)-1)).toNat-0) (List.drop (0+0) d.st)} [c,c] (by rw[er];simp only;omega) (by simp)
 rw[←er]
 rw[show ap TX 1 d (List.take ((IntKind.i64.wrap ((((d.st.map aj).length:Nat):Int)-1)).toNat-0) (List.drop (0+0) d.st)) a b c=dD {d with st:=List.take ((IntKind.i64.wrap ((((d.st.map aj).length:Nat):Int)-1)).toNat-0) (List.drop (0+0) d.st)} [c,c]from rfl]
 refine rp 242 Tryz.func115 [.tmp 6] (g:= ?_)
 conv=>whnf
 (iterate 115 ((first|refine ac (by solve|simp only[bj]|fail) ?_|apply ac rfl|refine ac (by rw[w2];first|exact decide_eq_true (by omega)|(rw[List.length_map];first|exact decide_eq_true (by omega)|(simp;omega))) ?_|refine aH (by(rfl)) ?_|refine af (by(exact(show _=z3 from rfl))) ?_|refine af (by(exact Bx hs w2)) ?_|refine aG (fun hf=> ?_)|refine ChkS.mk (by kernel_rfl) ?_|refine aJ (by assumption) ?_|apply aB|refine ag (kt ..) ?_|refine ag (kk ..) ?_);conv=>whnf));(iterate 8 ((first|refine ac (by solve|simp only[bj]|fail) ?_|apply ac rfl|apply bL rfl|apply aJ rfl|refine ax 151 [some 6,none] ?_|refine ag (c95 ..) ?_);conv=>whnf));(focus (apply bo (f:=151);(· repeat' (first|(refine ak ?_;simp[bj];done)|exact be _ _ _ _|apply bg|apply bU|apply bE|apply bB|apply cr|apply cH|apply bT|rfl));refine bz (f:=151) rfl (k1 ..) ?_;conv=>whnf));iterate 8 (first|(apply ac rfl;(conv=>whnf))|(refine af (ak (by solve|simp[bj]|fail)) ?_;(conv=>whnf))|(refine aG (fun hf=> ?_);(conv=>whnf))|(refine aq (by rfl) ?_;(conv=>whnf))|(exact True.intro))
 all_goals skip
theorem Fz(d:Dat)(r:List Int)(a b c:Int)(fl:Int)(h:Dk d)(hs:d.st=r++[b,c])(hb0:d.bk.length≤32)(hf:0≤fl∧fl≤d.bk.length)(hk:0≤(d.bk.length:Int)-fl)(qb: -2147483648≤b∧b≤2147483647)(qc: -2147483648≤c∧c≤2147483647):Con Tryz.prog 115 [.obj (aw d),.int .i64 10,.int .i64 fl] [.obj (aw (ap TX 10 d r a b c).1),.undef,.undef] (.int .i64 (ap TX 10 d r a b c).2):=by
 have kt:Con Tryz.prog 148 [.int .i64 10] (aa [.int .i64 10]) (.int .i64 2):=c148 10 (by unfold cu;omega)
 have kk:Con Tryz.prog 149 [.int .i64 10] (aa [.int .i64 10]) (.int .i64 0):=c149 10 (by unfold cu;omega)
 have hst:=h.st
 have hl:d.st.length=r.length+2:=by rw[hs];simp
 have g0:decide ((((d.st.map aj).length:Nat):Int)<2)=false:=by rw[List.length_map];exact decide_eq_false (by omega)
 have wf:IntKind.i64.wrap ((((d.bk.map aj).length:Nat):Int)-fl)=(d.bk.length:Int)-fl:=by rw[List.length_map];exact ai (by omega) (by omega)
 have g1:decide (IntKind.i64.wrap ((((d.bk.map aj).length:Nat):Int)-fl)<0)=false:=by rw[wf];exact decide_eq_false (by omega)
 have w2:IntKind.i64.wrap ((((d.st.map aj).length:Nat):Int)-2)=(r.length:Int):=by rw[List.length_map,ai (by omega) (by omega)];omega
 have er:List.take ((IntKind.i64.wrap ((((d.st.map aj).length:Nat):Int)-2)).toNat-0) (List.drop (0+0) d.st)=r:=by rw[w2,hs];simp
 rw[←er]
 refine rp 242 Tryz.func115 [.tmp 6] (g:= ?_)
 conv=>whnf
 (iterate 115 ((first|refine ac (by solve|simp only[bj]|fail) ?_|apply ac rfl|refine ac (by rw[w2];first|exact decide_eq_true (by omega)|(rw[List.length_map];first|exact decide_eq_true (by omega)|(simp;omega))) ?_|refine aH (by(rfl)) ?_|refine af (by(exact(show _=z3 from rfl))) ?_|refine af (by(exact AM hs w2)) ?_|refine aG (fun hf=> ?_)|refine ChkS.mk (by kernel_rfl) ?_|refine aJ (by assumption) ?_|apply aB|refine ag (kt ..) ?_|refine ag (kk ..) ?_);conv=>whnf));iterate 12 (first|(apply ac rfl;(conv=>whnf))|(refine af (ak (by solve|simp[bj]|fail)) ?_;(conv=>whnf))|(refine af (by(exact be _ _ _ _)) ?_;(conv=>whnf))|(apply bL rfl;(conv=>whnf))|(apply aJ rfl;(conv=>whnf))|(refine ag (c95 ..) ?_;(conv=>whnf))|(refine aq (by rfl) ?_;(conv=>whnf))|(exact True.intro))
 all_goals skip
theorem ID(d:Dat)(r:List Int)(a b c:Int)(fl:Int)(h:Dk d)(hs:d.st=r++[b,c])(hb0:d.bk.length≤32)(hf:0≤fl∧fl≤d.bk.length)(hk:0≤(d.bk.length:Int)-fl)(qb: -2147483648≤b∧b≤2147483647)(qc: -2147483648≤c∧c≤2147483647):Con Tryz.prog 115 [.obj (aw d),.int .i64 3,.int .i64 fl] [.obj (aw (ap TX 3 d r a b c).1),.undef,.undef] (.int .i64 (ap TX 3 d r a b c).2):=by
 have kt:Con Tryz.prog 148 [.int .i64 3] (aa [.int .i64 3]) (.int .i64 2):=c148 3 (by unfold cu;omega)
 have kk:Con Tryz.prog 149 [.int .i64 3] (aa [.int .i64 3]) (.int .i64 0):=c149 3 (by unfold cu;omega)
 have hst:=h.st
 have hl:d.st.length=r.length+2:=by rw[hs];simp
 have g0:decide ((((d.st.map aj).length:Nat):Int)<2)=false:=by rw[List.length_map];exact decide_eq_false (by omega)
 have wf:IntKind.i64.wrap ((((d.bk.map aj).length:Nat):Int)-fl)=(d.bk.length:Int)-fl:=by rw[List.length_map];exact ai (by omega) (by omega)
 have g1:decide (IntKind.i64.wrap ((((d.bk.map aj).length:Nat):Int)-fl)<0)=false:=by rw[wf];exact decide_eq_false (by omega)
 have w2:IntKind.i64.wrap ((((d.st.map aj).length:Nat):Int)-2)=(r.length:Int):=by rw[List.length_map,ai (by omega) (by omega)];omega
 have er:List.take ((IntKind.i64.wrap ((((d.st.map aj).length:Nat):Int)-2)).toNat-0) (List.drop (0+0) d.st)=r:=by rw[w2,hs];simp
 have k1:=c151 {d with st:=List.take ((IntKind.i64.wrap ((((d.st.map aj).length:Nat):Int)-2)).toNat-0) (List.drop (0+0) d.st)} [c,b] (by rw[er];simp only;omega) (by simp)
 rw[←er]
 rw[show ap TX 3 d (List.take ((IntKind.i64.wrap ((((d.st.map aj).length:Nat):Int)-2)).toNat-0) (List.drop (0+0) d.st)) a b c=dD {d with st:=List.take ((IntKind.i64.wrap ((((d.st.map aj).length:Nat):Int)-2)).toNat-0) (List.drop (0+0) d.st)} [c,b]from rfl]
 refine rp 242 Tryz.func115 [.tmp 6] (g:= ?_)
 conv=>whnf
 (iterate 115 ((first|refine ac (by solve|simp only[bj]|fail) ?_|apply ac rfl|refine ac (by rw[w2];first|exact decide_eq_true (by omega)|(rw[List.length_map];first|exact decide_eq_true (by omega)|(simp;omega))) ?_|refine aH (by(rfl)) ?_|refine af (by(exact(show _=z3 from rfl))) ?_|refine af (by(exact AM hs w2)) ?_|refine aG (fun hf=> ?_)|refine ChkS.mk (by kernel_rfl) ?_|refine aJ (by assumption) ?_|apply aB|refine ag (kt ..) ?_|refine ag (kk ..) ?_);conv=>whnf));(iterate 11 ((first|refine ac (by solve|simp only[bj]|fail) ?_|apply ac rfl|apply bL rfl|apply aJ rfl|refine ax 151 [some 6,none] ?_|refine ag (c95 ..) ?_);conv=>whnf));(focus (apply bo (f:=151);(· repeat' (first|(refine ak ?_;simp[bj];done)|exact be _ _ _ _|apply bg|apply bU|apply bE|apply bB|apply cr|apply cH|apply bT|rfl));refine bz (f:=151) rfl (k1 ..) ?_;conv=>whnf));iterate 8 (first|(apply ac rfl;(conv=>whnf))|(refine af (ak (by solve|simp[bj]|fail)) ?_;(conv=>whnf))|(refine aG (fun hf=> ?_);(conv=>whnf))|(refine aq (by rfl) ?_;(conv=>whnf))|(exact True.intro))
 all_goals skip
theorem HV(d:Dat)(r:List Int)(a b c:Int)(fl:Int)(h:Dk d)(hs:d.st=r++[b,c])(hb0:d.bk.length≤32)(hf:0≤fl∧fl≤d.bk.length)(hk:0≤(d.bk.length:Int)-fl)(qb: -2147483648≤b∧b≤2147483647)(qc: -2147483648≤c∧c≤2147483647):Con Tryz.prog 115 [.obj (aw d),.int .i64 4,.int .i64 fl] [.obj (aw (ap TX 4 d r a b c).1),.undef,.undef] (.int .i64 (ap TX 4 d r a b c).2):=by
 have kt:Con Tryz.prog 148 [.int .i64 4] (aa [.int .i64 4]) (.int .i64 2):=c148 4 (by unfold cu;omega)
 have kk:Con Tryz.prog 149 [.int .i64 4] (aa [.int .i64 4]) (.int .i64 0):=c149 4 (by unfold cu;omega)
 have hst:=h.st
 have hl:d.st.length=r.length+2:=by rw[hs];simp
 have g0:decide ((((d.st.map aj).length:Nat):Int)<2)=false:=by rw[List.length_map];exact decide_eq_false (by omega)
 have wf:IntKind.i64.wrap ((((d.bk.map aj).length:Nat):Int)-fl)=(d.bk.length:Int)-fl:=by rw[List.length_map];exact ai (by omega) (by omega)
 have g1:decide (IntKind.i64.wrap ((((d.bk.map aj).length:Nat):Int)-fl)<0)=false:=by rw[wf];exact decide_eq_false (by omega)
 have w2:IntKind.i64.wrap ((((d.st.map aj).length:Nat):Int)-2)=(r.length:Int):=by rw[List.length_map,ai (by omega) (by omega)];omega
 have er:List.take ((IntKind.i64.wrap ((((d.st.map aj).length:Nat):Int)-2)).toNat-0) (List.drop (0+0) d.st)=r:=by rw[w2,hs];simp
 have k1:=c151 {d with st:=List.take ((IntKind.i64.wrap ((((d.st.map aj).length:Nat):Int)-2)).toNat-0) (List.drop (0+0) d.st)} [b,c,b] (by rw[er];simp only;omega) (by simp)
 rw[←er]
 rw[show ap TX 4 d (List.take ((IntKind.i64.wrap ((((d.st.map aj).length:Nat):Int)-2)).toNat-0) (List.drop (0+0) d.st)) a b c=dD {d with st:=List.take ((IntKind.i64.wrap ((((d.st.map aj).length:Nat):Int)-2)).toNat-0) (List.drop (0+0) d.st)} [b,c,b]from rfl]
 refine rp 242 Tryz.func115 [.tmp 6] (g:= ?_)
 conv=>whnf
 (iterate 115 ((first|refine ac (by solve|simp only[bj]|fail) ?_|apply ac rfl|refine ac (by rw[w2];first|exact decide_eq_true (by omega)|(rw[List.length_map];first|exact decide_eq_true (by omega)|(simp;omega))) ?_|refine aH (by(rfl)) ?_|refine af (by(exact(show _=z3 from rfl))) ?_|refine af (by(exact AM hs w2)) ?_|refine aG (fun hf=> ?_)|refine ChkS.mk (by kernel_rfl) ?_|refine aJ (by assumption) ?_|apply aB|refine ag (kt ..) ?_|refine ag (kk ..) ?_);conv=>whnf));(iterate 12 ((first|refine ac (by solve|simp only[bj]|fail) ?_|apply ac rfl|apply bL rfl|apply aJ rfl|refine ax 151 [some 6,none] ?_|refine ag (c95 ..) ?_);conv=>whnf));(focus (apply bo (f:=151);(· repeat' (first|(refine ak ?_;simp[bj];done)|exact be _ _ _ _|apply bg|apply bU|apply bE|apply bB|apply cr|apply cH|apply bT|rfl));refine bz (f:=151) rfl (k1 ..) ?_;conv=>whnf));iterate 8 (first|(apply ac rfl;(conv=>whnf))|(refine af (ak (by solve|simp[bj]|fail)) ?_;(conv=>whnf))|(refine aG (fun hf=> ?_);(conv=>whnf))|(refine aq (by rfl) ?_;(conv=>whnf))|(exact True.intro))
 all_goals skip
theorem HN(d:Dat)(r:List Int)(a b c:Int)(fl:Int)(h:Dk d)(hs:d.st=r++[b,c])(hb0:d.bk.length≤32)(hf:0≤fl∧fl≤d.bk.length)(hk:0≤(d.bk.length:Int)-fl)(qb: -2147483648≤b∧b≤2147483647)(qc: -2147483648≤c∧c≤2147483647):Con Tryz.prog 115 [.obj (aw d),.int .i64 6,.int .i64 fl] [.obj (aw (ap TX 6 d r a b c).1),.undef,.undef] (.int .i64 (ap TX 6 d r a b c).2):=by
 have kt:Con Tryz.prog 148 [.int .i64 6] (aa [.int .i64 6]) (.int .i64 2):=c148 6 (by unfold cu;omega)
 have kk:Con Tryz.prog 149 [.int .i64 6] (aa [.int .i64 6]) (.int .i64 0):=c149 6 (by unfold cu;omega)
 have hst:=h.st
 have hl:d.st.length=r.length+2:=by rw[hs];simp
 have g0:decide ((((d.st.map aj).length:Nat):Int)<2)=false:=by rw[List.length_map];exact decide_eq_false (by omega)
 have wf:IntKind.i64.wrap ((((d.bk.map aj).length:Nat):Int)-fl)=(d.bk.length:Int)-fl:=by rw[List.length_map];exact ai (by omega) (by omega)
 have g1:decide (IntKind.i64.wrap ((((d.bk.map aj).length:Nat):Int)-fl)<0)=false:=by rw[wf];exact decide_eq_false (by omega)
 have w2:IntKind.i64.wrap ((((d.st.map aj).length:Nat):Int)-2)=(r.length:Int):=by rw[List.length_map,ai (by omega) (by omega)];omega
 have er:List.take ((IntKind.i64.wrap ((((d.st.map aj).length:Nat):Int)-2)).toNat-0) (List.drop (0+0) d.st)=r:=by rw[w2,hs];simp
 have k1:=c151 {d with st:=List.take ((IntKind.i64.wrap ((((d.st.map aj).length:Nat):Int)-2)).toNat-0) (List.drop (0+0) d.st)} [c] (by rw[er];simp only;omega) (by simp)
 rw[←er]
 rw[show ap TX 6 d (List.take ((IntKind.i64.wrap ((((d.st.map aj).length:Nat):Int)-2)).toNat-0) (List.drop (0+0) d.st)) a b c=dD {d with st:=List.take ((IntKind.i64.wrap ((((d.st.map aj).length:Nat):Int)-2)).toNat-0) (List.drop (0+0) d.st)} [c]from rfl]
 refine rp 242 Tryz.func115 [.tmp 6] (g:= ?_)
 conv=>whnf
 (iterate 115 ((first|refine ac (by solve|simp only[bj]|fail) ?_|apply ac rfl|refine ac (by rw[w2];first|exact decide_eq_true (by omega)|(rw[List.length_map];first|exact decide_eq_true (by omega)|(simp;omega))) ?_|refine aH (by(rfl)) ?_|refine af (by(exact(show _=z3 from rfl))) ?_|refine af (by(exact AM hs w2)) ?_|refine aG (fun hf=> ?_)|refine ChkS.mk (by kernel_rfl) ?_|refine aJ (by assumption) ?_|apply aB|refine ag (kt ..) ?_|refine ag (kk ..) ?_);conv=>whnf));(iterate 14 ((first|refine ac (by solve|simp only[bj]|fail) ?_|apply ac rfl|apply bL rfl|apply aJ rfl|refine ax 151 [some 6,none] ?_|refine ag (c95 ..) ?_);conv=>whnf));(focus (apply bo (f:=151);(· repeat' (first|(refine ak ?_;simp[bj];done)|exact be _ _ _ _|apply bg|apply bU|apply bE|apply bB|apply cr|apply cH|apply bT|rfl));refine bz (f:=151) rfl (k1 ..) ?_;conv=>whnf));iterate 8 (first|(apply ac rfl;(conv=>whnf))|(refine af (ak (by solve|simp[bj]|fail)) ?_;(conv=>whnf))|(refine aG (fun hf=> ?_);(conv=>whnf))|(refine aq (by rfl) ?_;(conv=>whnf))|(exact True.intro))
 all_goals skip
theorem Hl(d:Dat)(r:List Int)(a b c:Int)(fl:Int)(h:Dk d)(hs:d.st=r++[b,c])(hb0:d.bk.length≤32)(hf:0≤fl∧fl≤d.bk.length)(hk:0≤(d.bk.length:Int)-fl)(qb: -2147483648≤b∧b≤2147483647)(qc: -2147483648≤c∧c≤2147483647):Con Tryz.prog 115 [.obj (aw d),.int .i64 7,.int .i64 fl] [.obj (aw (ap TX 7 d r a b c).1),.undef,.undef] (.int .i64 (ap TX 7 d r a b c).2):=by
 have kt:Con Tryz.prog 148 [.int .i64 7] (aa [.int .i64 7]) (.int .i64 2):=c148 7 (by unfold cu;omega)
 have kk:Con Tryz.prog 149 [.int .i64 7] (aa [.int .i64 7]) (.int .i64 0):=c149 7 (by unfold cu;omega)
 have hst:=h.st
 have hl:d.st.length=r.length+2:=by rw[hs];simp
 have g0:decide ((((d.st.map aj).length:Nat):Int)<2)=false:=by rw[List.length_map];exact decide_eq_false (by omega)
 have wf:IntKind.i64.wrap ((((d.bk.map aj).length:Nat):Int)-fl)=(d.bk.length:Int)-fl:=by rw[List.length_map];exact ai (by omega) (by omega)
 have g1:decide (IntKind.i64.wrap ((((d.bk.map aj).length:Nat):Int)-fl)<0)=false:=by rw[wf];exact decide_eq_false (by omega)
 have w2:IntKind.i64.wrap ((((d.st.map aj).length:Nat):Int)-2)=(r.length:Int):=by rw[List.length_map,ai (by omega) (by omega)];omega
 have er:List.take ((IntKind.i64.wrap ((((d.st.map aj).length:Nat):Int)-2)).toNat-0) (List.drop (0+0) d.st)=r:=by rw[w2,hs];simp
 have k1:=c151 {d with st:=List.take ((IntKind.i64.wrap ((((d.st.map aj).length:Nat):Int)-2)).toNat-0) (List.drop (0+0) d.st)} [c,b,c] (by rw[er];simp only;omega) (by simp)
 rw[←er]
 rw[show ap TX 7 d (List.take ((IntKind.i64.wrap ((((d.st.map aj).length:Nat):Int)-2)).toNat-0) (List.drop (0+0) d.st)) a b c=dD {d with st:=List.take ((IntKind.i64.wrap ((((d.st.map aj).length:Nat):Int)-2)).toNat-0) (List.drop (0+0) d.st)} [c,b,c]from rfl]
 refine rp 242 Tryz.func115 [.tmp 6] (g:= ?_)
 conv=>whnf
 (iterate 115 ((first|refine ac (by solve|simp only[bj]|fail) ?_|apply ac rfl|refine ac (by rw[w2];first|exact decide_eq_true (by omega)|(rw[List.length_map];first|exact decide_eq_true (by omega)|(simp;omega))) ?_|refine aH (by(rfl)) ?_|refine af (by(exact(show _=z3 from rfl))) ?_|refine af (by(exact AM hs w2)) ?_|refine aG (fun hf=> ?_)|refine ChkS.mk (by kernel_rfl) ?_|refine aJ (by assumption) ?_|apply aB|refine ag (kt ..) ?_|refine ag (kk ..) ?_);conv=>whnf));(iterate 15 ((first|refine ac (by solve|simp only[bj]|fail) ?_|apply ac rfl|apply bL rfl|apply aJ rfl|refine ax 151 [some 6,none] ?_|refine ag (c95 ..) ?_);conv=>whnf));(focus (apply bo (f:=151);(· repeat' (first|(refine ak ?_;simp[bj];done)|exact be _ _ _ _|apply bg|apply bU|apply bE|apply bB|apply cr|apply cH|apply bT|rfl));refine bz (f:=151) rfl (k1 ..) ?_;conv=>whnf));iterate 8 (first|(apply ac rfl;(conv=>whnf))|(refine af (ak (by solve|simp[bj]|fail)) ?_;(conv=>whnf))|(refine aG (fun hf=> ?_);(conv=>whnf))|(refine aq (by rfl) ?_;(conv=>whnf))|(exact True.intro))
 all_goals skip
theorem IA(d:Dat)(r:List Int)(a b c:Int)(fl:Int)(h:Dk d)(hs:d.st=r++[b,c])(hb0:d.bk.length≤32)(hf:0≤fl∧fl≤d.bk.length)(hk:0≤(d.bk.length:Int)-fl)(qb: -2147483648≤b∧b≤2147483647)(qc: -2147483648≤c∧c≤2147483647):Con Tryz.prog 115 [.obj (aw d),.int .i64 9,.int .i64 fl] [.obj (aw (ap TX 9 d r a b c).1),.undef,.undef] (.int .i64 (ap TX 9 d r a b c).2):=by
 have kt:Con Tryz.prog 148 [.int .i64 9] (aa [.int .i64 9]) (.int .i64 2):=c148 9 (by unfold cu;omega)
 have kk:Con Tryz.prog 149 [.int .i64 9] (aa [.int .i64 9]) (.int .i64 0):=c149 9 (by unfold cu;omega)
 have hst:=h.st
 have hl:d.st.length=r.length+2:=by rw[hs];simp
 have g0:decide ((((d.st.map aj).length:Nat):Int)<2)=false:=by rw[List.length_map];exact decide_eq_false (by omega)
 have wf:IntKind.i64.wrap ((((d.bk.map aj).length:Nat):Int)-fl)=(d.bk.length:Int)-fl:=by rw[List.length_map];exact ai (by omega) (by omega)
 have g1:decide (IntKind.i64.wrap ((((d.bk.map aj).length:Nat):Int)-fl)<0)=false:=by rw[wf];exact decide_eq_false (by omega)
 have w2:IntKind.i64.wrap ((((d.st.map aj).length:Nat):Int)-2)=(r.length:Int):=by rw[List.length_map,ai (by omega) (by omega)];omega
 have er:List.take ((IntKind.i64.wrap ((((d.st.map aj).length:Nat):Int)-2)).toNat-0) (List.drop (0+0) d.st)=r:=by rw[w2,hs];simp
 have k1:=c151 {d with st:=List.take ((IntKind.i64.wrap ((((d.st.map aj).length:Nat):Int)-2)).toNat-0) (List.drop (0+0) d.st)} [b,c,b,c] (by rw[er];simp only;omega) (by simp)
 rw[←er]
 rw[show ap TX 9 d (List.take ((IntKind.i64.wrap ((((d.st.map aj).length:Nat):Int)-2)).toNat-0) (List.drop (0+0) d.st)) a b c=dD {d with st:=List.take ((IntKind.i64.wrap ((((d.st.map aj).length:Nat):Int)-2)).toNat-0) (List.drop (0+0) d.st)} [b,c,b,c]from rfl]
 refine rp 242 Tryz.func115 [.tmp 6] (g:= ?_)
 conv=>whnf
 (iterate 115 ((first|refine ac (by solve|simp only[bj]|fail) ?_|apply ac rfl|refine ac (by rw[w2];first|exact decide_eq_true (by omega)|(rw[List.length_map];first|exact decide_eq_true (by omega)|(simp;omega))) ?_|refine aH (by(rfl)) ?_|refine af (by(exact(show _=z3 from rfl))) ?_|refine af (by(exact AM hs w2)) ?_|refine aG (fun hf=> ?_)|refine ChkS.mk (by kernel_rfl) ?_|refine aJ (by assumption) ?_|apply aB|refine ag (kt ..) ?_|refine ag (kk ..) ?_);conv=>whnf));(iterate 17 ((first|refine ac (by solve|simp only[bj]|fail) ?_|apply ac rfl|apply bL rfl|apply aJ rfl|refine ax 151 [some 6,none] ?_|refine ag (c95 ..) ?_);conv=>whnf));(focus (apply bo (f:=151);(· repeat' (first|(refine ak ?_;simp[bj];done)|exact be _ _ _ _|apply bg|apply bU|apply bE|apply bB|apply cr|apply cH|apply bT|rfl));refine bz (f:=151) rfl (k1 ..) ?_;conv=>whnf));iterate 8 (first|(apply ac rfl;(conv=>whnf))|(refine af (ak (by solve|simp[bj]|fail)) ?_;(conv=>whnf))|(refine aG (fun hf=> ?_);(conv=>whnf))|(refine aq (by rfl) ?_;(conv=>whnf))|(exact True.intro))
 all_goals skip
theorem Ia(d:Dat)(r:List Int)(a b c:Int)(fl:Int)(h:Dk d)(hs:d.st=r++[a,b,c])(hb0:d.bk.length≤32)(hf:0≤fl∧fl≤d.bk.length)(hk:0≤(d.bk.length:Int)-fl)(qb: -2147483648≤b∧b≤2147483647)(qc: -2147483648≤c∧c≤2147483647):Con Tryz.prog 115 [.obj (aw d),.int .i64 5,.int .i64 fl] [.obj (aw (ap TX 5 d r a b c).1),.undef,.undef] (.int .i64 (ap TX 5 d r a b c).2):=by
 have kt:Con Tryz.prog 148 [.int .i64 5] (aa [.int .i64 5]) (.int .i64 3):=c148 5 (by unfold cu;omega)
 have kk:Con Tryz.prog 149 [.int .i64 5] (aa [.int .i64 5]) (.int .i64 0):=c149 5 (by unfold cu;omega)
 have hst:=h.st
 have hl:d.st.length=r.length+3:=by rw[hs];simp
 have g0:decide ((((d.st.map aj).length:Nat):Int)<3)=false:=by rw[List.length_map];exact decide_eq_false (by omega)
 have wf:IntKind.i64.wrap ((((d.bk.map aj).length:Nat):Int)-fl)=(d.bk.length:Int)-fl:=by rw[List.length_map];exact ai (by omega) (by omega)
 have g1:decide (IntKind.i64.wrap ((((d.bk.map aj).length:Nat):Int)-fl)<0)=false:=by rw[wf];exact decide_eq_false (by omega)
 have w2:IntKind.i64.wrap ((((d.st.map aj).length:Nat):Int)-3)=(r.length:Int):=by rw[List.length_map,ai (by omega) (by omega)];omega
 have er:List.take ((IntKind.i64.wrap ((((d.st.map aj).length:Nat):Int)-3)).toNat-0) (List.drop (0+0) d.st)=r:=by rw[w2,hs];simp
 have k1:=c151 {d with st:=List.take ((IntKind.i64.wrap ((((d.st.map aj).length:Nat):Int)-3)).toNat-0) (List.drop (0+0) d.st)} [b,c,a] (by rw[er];simp only;omega) (by simp)
 rw[←er]
 rw[show ap TX 5 d (List.take ((IntKind.i64.wrap ((((d.st.map aj).length:Nat):Int)-3)).toNat-0) (List.drop (0+0) d.st)) a b c=dD {d with st:=List.take ((IntKind.i64.wrap ((((d.st.map aj).length:Nat):Int)-3)).toNat-0) (List.drop (0+0) d.st)} [b,c,a]from rfl]
 refine rp 242 Tryz.func115 [.tmp 6] (g:= ?_)
 conv=>whnf
 (iterate 115 ((first|refine ac (by solve|simp only[bj]|fail) ?_|apply ac rfl|refine ac (by rw[w2];first|exact decide_eq_true (by omega)|(rw[List.length_map];first|exact decide_eq_true (by omega)|(simp;omega))) ?_|refine aH (by(rfl)) ?_|refine af (by(exact(show _=z3 from rfl))) ?_|refine af (by(exact HS hs w2)) ?_|refine aG (fun hf=> ?_)|refine ChkS.mk (by kernel_rfl) ?_|refine aJ (by assumption) ?_|apply aB|refine ag (kt ..) ?_|refine ag (kk ..) ?_);conv=>whnf));(iterate 13 ((first|refine ac (by solve|simp only[bj]|fail) ?_|apply ac rfl|apply bL rfl|apply aJ rfl|refine ax 151 [some 6,none] ?_|refine ag (c95 ..) ?_);conv=>whnf));(focus (apply bo (f:=151);(· repeat' (first|(refine ak ?_;simp[bj];done)|exact be _ _ _ _|apply bg|apply bU|apply bE|apply bB|apply cr|apply cH|apply bT|rfl));refine bz (f:=151) rfl (k1 ..) ?_;conv=>whnf));iterate 8 (first|(apply ac rfl;(conv=>whnf))|(refine af (ak (by solve|simp[bj]|fail)) ?_;(conv=>whnf))|(refine aG (fun hf=> ?_);(conv=>whnf))|(refine aq (by rfl) ?_;(conv=>whnf))|(exact True.intro))
 all_goals skip
theorem Gw(d:Dat)(r:List Int)(a b c:Int)(fl:Int)(h:Dk d)(hs:d.st=r++[c])(hb0:d.bk.length≤32)(hf:0≤fl∧fl≤d.bk.length)(hk:0≤(d.bk.length:Int)-fl)(qb: -2147483648≤b∧b≤2147483647)(qc: -2147483648≤c∧c≤2147483647)(h0:c=0):Con Tryz.prog 115 [.obj (aw d),.int .i64 8,.int .i64 fl] [.obj (aw (ap TX 8 d r a b c).1),.undef,.undef] (.int .i64 (ap TX 8 d r a b c).2):=by
 have kt:Con Tryz.prog 148 [.int .i64 8] (aa [.int .i64 8]) (.int .i64 1):=c148 8 (by unfold cu;omega)
 have kk:Con Tryz.prog 149 [.int .i64 8] (aa [.int .i64 8]) (.int .i64 0):=c149 8 (by unfold cu;omega)
 have hst:=h.st
 have hl:d.st.length=r.length+1:=by rw[hs];simp
 have g0:decide ((((d.st.map aj).length:Nat):Int)<1)=false:=by rw[List.length_map];exact decide_eq_false (by omega)
 have wf:IntKind.i64.wrap ((((d.bk.map aj).length:Nat):Int)-fl)=(d.bk.length:Int)-fl:=by rw[List.length_map];exact ai (by omega) (by omega)
 have g1:decide (IntKind.i64.wrap ((((d.bk.map aj).length:Nat):Int)-fl)<0)=false:=by rw[wf];exact decide_eq_false (by omega)
 have w2:IntKind.i64.wrap ((((d.st.map aj).length:Nat):Int)-1)=(r.length:Int):=by rw[List.length_map,ai (by omega) (by omega)];omega
 have er:List.take ((IntKind.i64.wrap ((((d.st.map aj).length:Nat):Int)-1)).toNat-0) (List.drop (0+0) d.st)=r:=by rw[w2,hs];simp
 have g5:(c==0)=true:=by simp[h0]
 have k1:=c151 {d with st:=List.take ((IntKind.i64.wrap ((((d.st.map aj).length:Nat):Int)-1)).toNat-0) (List.drop (0+0) d.st)} [0] (by rw[er];simp only;omega) (by simp)
 rw[←er]
 rw[show ap TX 8 d (List.take ((IntKind.i64.wrap ((((d.st.map aj).length:Nat):Int)-1)).toNat-0) (List.drop (0+0) d.st)) a b c=dD {d with st:=List.take ((IntKind.i64.wrap ((((d.st.map aj).length:Nat):Int)-1)).toNat-0) (List.drop (0+0) d.st)} [0]from by simp only[ap];rw[if_pos h0];rfl]
 refine rp 242 Tryz.func115 [.tmp 6] (g:= ?_)
 conv=>whnf
 (iterate 115 ((first|refine ac (by solve|simp only[bj]|fail) ?_|apply ac rfl|refine ac (by rw[w2];first|exact decide_eq_true (by omega)|(rw[List.length_map];first|exact decide_eq_true (by omega)|(simp;omega))) ?_|refine aH (by(rfl)) ?_|refine af (by(exact(show _=z3 from rfl))) ?_|refine af (by(exact Bx hs w2)) ?_|refine aG (fun hf=> ?_)|refine ChkS.mk (by kernel_rfl) ?_|refine aJ (by assumption) ?_|apply aB|refine ag (kt ..) ?_|refine ag (kk ..) ?_);conv=>whnf));(iterate 17 ((first|refine ac (by solve|simp only[bj]|fail) ?_|apply ac rfl|apply bL rfl|apply aJ rfl|refine bL (by assumption) ?_|refine ax 151 [some 6,none] ?_|refine ag (c95 ..) ?_);conv=>whnf));(focus (apply bo (f:=151);(· repeat' (first|(refine ak ?_;simp[bj];done)|exact be _ _ _ _|apply bg|apply bU|apply bE|apply bB|apply cr|apply cH|apply bT|rfl));refine bz (f:=151) rfl (k1 ..) ?_;conv=>whnf));iterate 8 (first|(apply ac rfl;(conv=>whnf))|(refine af (ak (by solve|simp[bj]|fail)) ?_;(conv=>whnf))|(refine aG (fun hf=> ?_);(conv=>whnf))|(refine aq (by rfl) ?_;(conv=>whnf))|(exact True.intro))
 all_goals skip
theorem FG(d:Dat)(r:List Int)(a b c:Int)(fl:Int)(h:Dk d)(hs:d.st=r++[c])(hb0:d.bk.length≤32)(hf:0≤fl∧fl≤d.bk.length)(hk:0≤(d.bk.length:Int)-fl)(qb: -2147483648≤b∧b≤2147483647)(qc: -2147483648≤c∧c≤2147483647)(h0: ¬c=0):Con Tryz.prog 115 [.obj (aw d),.int .i64 8,.int .i64 fl] [.obj (aw (ap TX 8 d r a b c).1),.undef,.undef] (.int .i64 (ap TX 8 d r a b c).2):=by
 have kt:Con Tryz.prog 148 [.int .i64 8] (aa [.int .i64 8]) (.int .i64 1):=c148 8 (by unfold cu;omega)
 have kk:Con Tryz.prog 149 [.int .i64 8] (aa [.int .i64 8]) (.int .i64 0):=c149 8 (by unfold cu;omega)
 have hst:=h.st
 have hl:d.st.length=r.length+1:=by rw[hs];simp
 have g0:decide ((((d.st.map aj).length:Nat):Int)<1)=false:=by rw[List.length_map];exact decide_eq_false (by omega)
 have wf:IntKind.i64.wrap ((((d.bk.map aj).length:Nat):Int)-fl)=(d.bk.length:Int)-fl:=by rw[List.length_map];exact ai (by omega) (by omega)
 have g1:decide (IntKind.i64.wrap ((((d.bk.map aj).length:Nat):Int)-fl)<0)=false:=by rw[wf];exact decide_eq_false (by omega)
 have w2:IntKind.i64.wrap ((((d.st.map aj).length:Nat):Int)-1)=(r.length:Int):=by rw[List.length_map,ai (by omega) (by omega)];omega
 have er:List.take ((IntKind.i64.wrap ((((d.st.map aj).length:Nat):Int)-1)).toNat-0) (List.drop (0+0) d.st)=r:=by rw[w2,hs];simp
 have g5:(c==0)=false:=by simp[h0]
 have k1:=c151 {d with st:=List.take ((IntKind.i64.wrap ((((d.st.map aj).length:Nat):Int)-1)).toNat-0) (List.drop (0+0) d.st)} [c,c] (by rw[er];simp only;omega) (by simp)
 rw[←er]
 rw[show ap TX 8 d (List.take ((IntKind.i64.wrap ((((d.st.map aj).length:Nat):Int)-1)).toNat-0) (List.drop (0+0) d.st)) a b c=dD {d with st:=List.take ((IntKind.i64.wrap ((((d.st.map aj).length:Nat):Int)-1)).toNat-0) (List.drop (0+0) d.st)} [c,c]from by simp only[ap];rw[if_neg h0];rfl]
 refine rp 242 Tryz.func115 [.tmp 6] (g:= ?_)
 conv=>whnf
 (iterate 115 ((first|refine ac (by solve|simp only[bj]|fail) ?_|apply ac rfl|refine ac (by rw[w2];first|exact decide_eq_true (by omega)|(rw[List.length_map];first|exact decide_eq_true (by omega)|(simp;omega))) ?_|refine aH (by(rfl)) ?_|refine af (by(exact(show _=z3 from rfl))) ?_|refine af (by(exact Bx hs w2)) ?_|refine aG (fun hf=> ?_)|refine ChkS.mk (by kernel_rfl) ?_|refine aJ (by assumption) ?_|apply aB|refine ag (kt ..) ?_|refine ag (kk ..) ?_);conv=>whnf));(iterate 17 ((first|refine ac (by solve|simp only[bj]|fail) ?_|apply ac rfl|apply bL rfl|apply aJ rfl|refine aJ (by assumption) ?_|refine ax 151 [some 6,none] ?_|refine ag (c95 ..) ?_);conv=>whnf));(focus (apply bo (f:=151);(· repeat' (first|(refine ak ?_;simp[bj];done)|exact be _ _ _ _|apply bg|apply bU|apply bE|apply bB|apply cr|apply cH|apply bT|rfl));refine bz (f:=151) rfl (k1 ..) ?_;conv=>whnf));iterate 8 (first|(apply ac rfl;(conv=>whnf))|(refine af (ak (by solve|simp[bj]|fail)) ?_;(conv=>whnf))|(refine aG (fun hf=> ?_);(conv=>whnf))|(refine aq (by rfl) ?_;(conv=>whnf))|(exact True.intro))
 all_goals skip
end P5

/- Prims that sum, in place, by the program; contracts. -/
set_option maxRecDepth 100000 set_option maxHeartbeats 4000000
open Go Go.Abs Go.Proofs V1 H1 F1 F2 T1 T2 T3 P1 P2 P3 P4 P5
namespace P6
theorem gg(p:Nat)(hp:15≤p∧p≤24)(et:bK p=2)(eb:dZ p=0)(d:Dat)(r:List Int)(b:Int)(c:Int)(fl:Int)(h:Dk d)(hs:d.st=r++[b,c])(hb0:d.bk.length≤32)(hf:0≤fl∧fl≤d.bk.length)(v:Int)(k2:Con Tryz.prog 150 [.int .i64 (IntKind.i64.wrap (IntKind.i64.wrap ((p:Int)-15)+1)),.int .i64 b,.int .i64 c] (aa [.int .i64 (IntKind.i64.wrap (IntKind.i64.wrap ((p:Int)-15)+1)),.int .i64 b,.int .i64 c]) (.tup [.int .i64 v,.bool true])):Con Tryz.prog 115 [.obj (aw d),.int .i64 p,.int .i64 fl] [.obj (aw (dD {d with st:=r} [v]).1),.undef,.undef] (.int .i64 (dD {d with st:=r} [v]).2):=by
 have kt:Con Tryz.prog 148 [.int .i64 p] (aa [.int .i64 p]) (.int .i64 2):=by
  have k:=c148 p (by unfold cu;omega)
  rw[et]at k;exact k
 have kk:Con Tryz.prog 149 [.int .i64 p] (aa [.int .i64 p]) (.int .i64 0):=by
  have k:=c149 p (by unfold cu;omega)
  rw[eb]at k;exact k
 have hst:=h.st
 have hl:d.st.length=r.length+2:=by rw[hs];simp
 have g0:decide ((((d.st.map aj).length:Nat):Int)<2)=false:=by rw[List.length_map];exact decide_eq_false (by omega)
 have wf:IntKind.i64.wrap ((((d.bk.map aj).length:Nat):Int)-fl)=(d.bk.length:Int)-fl:=by rw[List.length_map];exact ai (by omega) (by omega)
 have g1:decide (IntKind.i64.wrap ((((d.bk.map aj).length:Nat):Int)-fl)<0)=false:=by rw[wf];exact decide_eq_false (by omega)
 have w2:IntKind.i64.wrap ((((d.st.map aj).length:Nat):Int)-2)=(r.length:Int):=by rw[List.length_map,ai (by omega) (by omega)];omega
 have er:List.take ((IntKind.i64.wrap ((((d.st.map aj).length:Nat):Int)-2)).toNat-0) (List.drop (0+0) d.st)=r:=by rw[w2,hs];simp
 have q0:bm (p:Int) 15 24=true:=by simp[bm];omega
 have k1:=c151 {d with st:=List.take ((IntKind.i64.wrap ((((d.st.map aj).length:Nat):Int)-2)).toNat-0) (List.drop (0+0) d.st)} [v] (by rw[er];simp only;omega) (by simp)
 rw[←er]
 refine rp 242 Tryz.func115 [.tmp 6] (g:= ?_)
 conv=>whnf
 refine aO ?_
 (refine ax 151 [some 6,none] ?_;conv=>whnf)
 refine aO ?_
 (refine eo (k1 ..) ?_;conv=>whnf)
 exact go
 all_goals skip
theorem uv(p:Nat)(hp:15≤p∧p≤24)(et:bK p=2)(eb:dZ p=0)(d:Dat)(r:List Int)(b:Int)(c:Int)(fl:Int)(h:Dk d)(hs:d.st=r++[b,c])(hb0:d.bk.length≤32)(hf:0≤fl∧fl≤d.bk.length)(v:Int)(k2:Con Tryz.prog 150 [.int .i64 (IntKind.i64.wrap (IntKind.i64.wrap ((p:Int)-15)+1)),.int .i64 b,.int .i64 c] (aa [.int .i64 (IntKind.i64.wrap (IntKind.i64.wrap ((p:Int)-15)+1)),.int .i64 b,.int .i64 c]) (.tup [.int .i64 v,.bool false])):Con Tryz.prog 115 [.obj (aw d),.int .i64 p,.int .i64 fl] [.obj (aw ((({d with st:=r},-10):Dat × Int)).1),.undef,.undef] (.int .i64 ((({d with st:=r},-10):Dat × Int)).2):=by
 have kt:Con Tryz.prog 148 [.int .i64 p] (aa [.int .i64 p]) (.int .i64 2):=by
  have k:=c148 p (by unfold cu;omega)
  rw[et]at k;exact k
 have kk:Con Tryz.prog 149 [.int .i64 p] (aa [.int .i64 p]) (.int .i64 0):=by
  have k:=c149 p (by unfold cu;omega)
  rw[eb]at k;exact k
 have hst:=h.st
 have hl:d.st.length=r.length+2:=by rw[hs];simp
 have g0:decide ((((d.st.map aj).length:Nat):Int)<2)=false:=by rw[List.length_map];exact decide_eq_false (by omega)
 have wf:IntKind.i64.wrap ((((d.bk.map aj).length:Nat):Int)-fl)=(d.bk.length:Int)-fl:=by rw[List.length_map];exact ai (by omega) (by omega)
 have g1:decide (IntKind.i64.wrap ((((d.bk.map aj).length:Nat):Int)-fl)<0)=false:=by rw[wf];exact decide_eq_false (by omega)
 have w2:IntKind.i64.wrap ((((d.st.map aj).length:Nat):Int)-2)=(r.length:Int):=by rw[List.length_map,ai (by omega) (by omega)];omega
 have er:List.take ((IntKind.i64.wrap ((((d.st.map aj).length:Nat):Int)-2)).toNat-0) (List.drop (0+0) d.st)=r:=by rw[w2,hs];simp
 have q0:bm (p:Int) 15 24=true:=by simp[bm];omega
 rw[←er]
 exact rp 242 Tryz.func115 [.tmp 6] (g:=go)
 all_goals skip
theorem mQ(p:Nat)(hp:25≤p∧p≤38)(et:bK p=1)(eb:dZ p=0)(d:Dat)(r:List Int)(c:Int)(fl:Int)(h:Dk d)(hs:d.st=r++[c])(hb0:d.bk.length≤32)(hf:0≤fl∧fl≤d.bk.length)(v:Int)(k2:Con Tryz.prog 153 [.int .i64 p,.int .i64 0,.int .i64 c] (aa [.int .i64 p,.int .i64 0,.int .i64 c]) (.int .i64 v)):Con Tryz.prog 115 [.obj (aw d),.int .i64 p,.int .i64 fl] [.obj (aw (dD {d with st:=r} [v]).1),.undef,.undef] (.int .i64 (dD {d with st:=r} [v]).2):=by
 have kt:Con Tryz.prog 148 [.int .i64 p] (aa [.int .i64 p]) (.int .i64 1):=by
  have k:=c148 p (by unfold cu;omega)
  rw[et]at k;exact k
 have kk:Con Tryz.prog 149 [.int .i64 p] (aa [.int .i64 p]) (.int .i64 0):=by
  have k:=c149 p (by unfold cu;omega)
  rw[eb]at k;exact k
 have hst:=h.st
 have hl:d.st.length=r.length+1:=by rw[hs];simp
 have g0:decide ((((d.st.map aj).length:Nat):Int)<1)=false:=by rw[List.length_map];exact decide_eq_false (by omega)
 have wf:IntKind.i64.wrap ((((d.bk.map aj).length:Nat):Int)-fl)=(d.bk.length:Int)-fl:=by rw[List.length_map];exact ai (by omega) (by omega)
 have g1:decide (IntKind.i64.wrap ((((d.bk.map aj).length:Nat):Int)-fl)<0)=false:=by rw[wf];exact decide_eq_false (by omega)
 have w2:IntKind.i64.wrap ((((d.st.map aj).length:Nat):Int)-1)=(r.length:Int):=by rw[List.length_map,ai (by omega) (by omega)];omega
 have er:List.take ((IntKind.i64.wrap ((((d.st.map aj).length:Nat):Int)-1)).toNat-0) (List.drop (0+0) d.st)=r:=by rw[w2,hs];simp
 have q0:bm (p:Int) 15 24=false:=by simp[bm];omega
 have q1:((p:Int)==1)=false:=by simp;omega
 have q2:((p:Int)==2)=false:=by simp;omega
 have q3:((p:Int)==10)=false:=by simp;omega
 have q4:((p:Int)==3)=false:=by simp;omega
 have q5:((p:Int)==4)=false:=by simp;omega
 have q6:((p:Int)==5)=false:=by simp;omega
 have q7:((p:Int)==6)=false:=by simp;omega
 have q8:((p:Int)==7)=false:=by simp;omega
 have q9:((p:Int)==8)=false:=by simp;omega
 have q10:((p:Int)==9)=false:=by simp;omega
 have q11:((p:Int)==11)=false:=by simp;omega
 have q12:((p:Int)==12)=false:=by simp;omega
 have q13:((p:Int)==13)=false:=by simp;omega
 have q14:((p:Int)==14)=false:=by simp;omega
 have q15:((p:Int)==51)=false:=by simp;omega
 have q16:((p:Int)==52)=false:=by simp;omega
 have q17:bm (p:Int) 25 38=true:=by simp[bm];omega
 have k1:=c151 {d with st:=List.take ((IntKind.i64.wrap ((((d.st.map aj).length:Nat):Int)-1)).toNat-0) (List.drop (0+0) d.st)} [v] (by rw[er];simp only;omega) (by simp)
 rw[←er]
 refine rp 242 Tryz.func115 [.tmp 6] (g:= ?_)
 conv=>whnf
 refine aO ?_
 (refine ax 151 [some 6,none] ?_;conv=>whnf)
 refine aO ?_
 (refine eo (k1 ..) ?_;conv=>whnf)
 exact go
 all_goals skip
theorem mL(p:Nat)(hp:25≤p∧p≤38)(et:bK p=2)(eb:dZ p=0)(d:Dat)(r:List Int)(b:Int)(c:Int)(fl:Int)(h:Dk d)(hs:d.st=r++[b,c])(hb0:d.bk.length≤32)(hf:0≤fl∧fl≤d.bk.length)(v:Int)(k2:Con Tryz.prog 153 [.int .i64 p,.int .i64 b,.int .i64 c] (aa [.int .i64 p,.int .i64 b,.int .i64 c]) (.int .i64 v)):Con Tryz.prog 115 [.obj (aw d),.int .i64 p,.int .i64 fl] [.obj (aw (dD {d with st:=r} [v]).1),.undef,.undef] (.int .i64 (dD {d with st:=r} [v]).2):=by
 have kt:Con Tryz.prog 148 [.int .i64 p] (aa [.int .i64 p]) (.int .i64 2):=by
  have k:=c148 p (by unfold cu;omega)
  rw[et]at k;exact k
 have kk:Con Tryz.prog 149 [.int .i64 p] (aa [.int .i64 p]) (.int .i64 0):=by
  have k:=c149 p (by unfold cu;omega)
  rw[eb]at k;exact k
 have hst:=h.st
 have hl:d.st.length=r.length+2:=by rw[hs];simp
 have g0:decide ((((d.st.map aj).length:Nat):Int)<2)=false:=by rw[List.length_map];exact decide_eq_false (by omega)
 have wf:IntKind.i64.wrap ((((d.bk.map aj).length:Nat):Int)-fl)=(d.bk.length:Int)-fl:=by rw[List.length_map];exact ai (by omega) (by omega)
 have g1:decide (IntKind.i64.wrap ((((d.bk.map aj).length:Nat):Int)-fl)<0)=false:=by rw[wf];exact decide_eq_false (by omega)
 have w2:IntKind.i64.wrap ((((d.st.map aj).length:Nat):Int)-2)=(r.length:Int):=by rw[List.length_map,ai (by omega) (by omega)];omega
 have er:List.take ((IntKind.i64.wrap ((((d.st.map aj).length:Nat):Int)-2)).toNat-0) (List.drop (0+0) d.st)=r:=by rw[w2,hs];simp
 have q0:bm (p:Int) 15 24=false:=by simp[bm];omega
 have q1:((p:Int)==1)=false:=by simp;omega
 have q2:((p:Int)==2)=false:=by simp;omega
 have q3:((p:Int)==10)=false:=by simp;omega
 have q4:((p:Int)==3)=false:=by simp;omega
 have q5:((p:Int)==4)=false:=by simp;omega
 have q6:((p:Int)==5)=false:=by simp;omega
 have q7:((p:Int)==6)=false:=by simp;omega
 have q8:((p:Int)==7)=false:=by simp;omega
 have q9:((p:Int)==8)=false:=by simp;omega
 have q10:((p:Int)==9)=false:=by simp;omega
 have q11:((p:Int)==11)=false:=by simp;omega
 have q12:((p:Int)==12)=false:=by simp;omega
 have q13:((p:Int)==13)=false:=by simp;omega
 have q14:((p:Int)==14)=false:=by simp;omega
 have q15:((p:Int)==51)=false:=by simp;omega
 have q16:((p:Int)==52)=false:=by simp;omega
 have q17:bm (p:Int) 25 38=true:=by simp[bm];omega
 have k1:=c151 {d with st:=List.take ((IntKind.i64.wrap ((((d.st.map aj).length:Nat):Int)-2)).toNat-0) (List.drop (0+0) d.st)} [v] (by rw[er];simp only;omega) (by simp)
 rw[←er]
 refine rp 242 Tryz.func115 [.tmp 6] (g:= ?_)
 conv=>whnf
 refine aO ?_
 (refine ax 151 [some 6,none] ?_;conv=>whnf)
 refine aO ?_
 (refine eo (k1 ..) ?_;conv=>whnf)
 exact go
 all_goals skip
theorem Gm(d:Dat)(r:List Int)(a b c:Int)(fl:Int)(h:Dk d)(hs:d.st=r++[b,c])(hb0:d.bk.length≤32)(hf:0≤fl∧fl≤d.bk.length)(hk:0≤(d.bk.length:Int)-fl)(qb: -2147483648≤b∧b≤2147483647)(qc: -2147483648≤c∧c≤2147483647):Con Tryz.prog 115 [.obj (aw d),.int .i64 15,.int .i64 fl] [.obj (aw (ap TX 15 d r a b c).1),.undef,.undef] (.int .i64 (ap TX 15 d r a b c).2):=by
 have hcb:cell b=true:=by simp[cell,bm];omega
 have hcc:cell c=true:=by simp[cell,bm];omega
 exact gg 15 (by omega) rfl rfl d r b c fl h hs hb0 hf (cf 1 b c).1 (K6 b c hcb hcc)
theorem EZ(d:Dat)(r:List Int)(a b c:Int)(fl:Int)(h:Dk d)(hs:d.st=r++[b,c])(hb0:d.bk.length≤32)(hf:0≤fl∧fl≤d.bk.length)(hk:0≤(d.bk.length:Int)-fl)(qb: -2147483648≤b∧b≤2147483647)(qc: -2147483648≤c∧c≤2147483647):Con Tryz.prog 115 [.obj (aw d),.int .i64 16,.int .i64 fl] [.obj (aw (ap TX 16 d r a b c).1),.undef,.undef] (.int .i64 (ap TX 16 d r a b c).2):=by
 have hcb:cell b=true:=by simp[cell,bm];omega
 have hcc:cell c=true:=by simp[cell,bm];omega
 exact gg 16 (by omega) rfl rfl d r b c fl h hs hb0 hf (cf 2 b c).1 (Ko b c hcb hcc)
theorem FT(d:Dat)(r:List Int)(a b c:Int)(fl:Int)(h:Dk d)(hs:d.st=r++[b,c])(hb0:d.bk.length≤32)(hf:0≤fl∧fl≤d.bk.length)(hk:0≤(d.bk.length:Int)-fl)(qb: -2147483648≤b∧b≤2147483647)(qc: -2147483648≤c∧c≤2147483647):Con Tryz.prog 115 [.obj (aw d),.int .i64 17,.int .i64 fl] [.obj (aw (ap TX 17 d r a b c).1),.undef,.undef] (.int .i64 (ap TX 17 d r a b c).2):=by
 have hcb:cell b=true:=by simp[cell,bm];omega
 have hcc:cell c=true:=by simp[cell,bm];omega
 exact gg 17 (by omega) rfl rfl d r b c fl h hs hb0 hf (cf 3 b c).1 (Kv b c hcb hcc)
theorem Dq(d:Dat)(r:List Int)(a b c:Int)(fl:Int)(h:Dk d)(hs:d.st=r++[b,c])(hb0:d.bk.length≤32)(hf:0≤fl∧fl≤d.bk.length)(hk:0≤(d.bk.length:Int)-fl)(qb: -2147483648≤b∧b≤2147483647)(qc: -2147483648≤c∧c≤2147483647)(h0: ¬c=0):Con Tryz.prog 115 [.obj (aw d),.int .i64 18,.int .i64 fl] [.obj (aw (ap TX 18 d r a b c).1),.undef,.undef] (.int .i64 (ap TX 18 d r a b c).2):=by
 have hcb:cell b=true:=by simp[cell,bm];omega
 have hcc:cell c=true:=by simp[cell,bm];omega
 have k2:=Id b c hcb hcc
 rw[G0 h0]at k2
 rw[show ap TX 18 d r a b c=dD {d with st:=r} [wc (ct b c)] by show(match gi 4 b c with|none=>_|some v=>_)=_;rw[show gi 4 b c=some (wc (ct b c))from if_neg h0];rfl]
 exact gg 18 (by omega) rfl rfl d r b c fl h hs hb0 hf _ k2
theorem Ee(d:Dat)(r:List Int)(a b c:Int)(fl:Int)(h:Dk d)(hs:d.st=r++[b,c])(hb0:d.bk.length≤32)(hf:0≤fl∧fl≤d.bk.length)(hk:0≤(d.bk.length:Int)-fl)(qb: -2147483648≤b∧b≤2147483647)(qc: -2147483648≤c∧c≤2147483647)(h0:c=0):Con Tryz.prog 115 [.obj (aw d),.int .i64 18,.int .i64 fl] [.obj (aw (ap TX 18 d r a b c).1),.undef,.undef] (.int .i64 (ap TX 18 d r a b c).2):=by
 have hcb:cell b=true:=by simp[cell,bm];omega
 have hcc:cell c=true:=by simp[cell,bm];omega
 have k2:=Id b c hcb hcc
 rw[(EL h0).1]at k2
 rw[show ap TX 18 d r a b c=({d with st:=r},-10) by show(match gi 4 b c with|none=>_|some v=>_)=_;rw[show gi 4 b c=none from if_pos h0]]
 exact uv 18 (by omega) rfl rfl d r b c fl h hs hb0 hf _ k2
theorem D2(d:Dat)(r:List Int)(a b c:Int)(fl:Int)(h:Dk d)(hs:d.st=r++[b,c])(hb0:d.bk.length≤32)(hf:0≤fl∧fl≤d.bk.length)(hk:0≤(d.bk.length:Int)-fl)(qb: -2147483648≤b∧b≤2147483647)(qc: -2147483648≤c∧c≤2147483647)(h0: ¬c=0):Con Tryz.prog 115 [.obj (aw d),.int .i64 19,.int .i64 fl] [.obj (aw (ap TX 19 d r a b c).1),.undef,.undef] (.int .i64 (ap TX 19 d r a b c).2):=by
 have hcb:cell b=true:=by simp[cell,bm];omega
 have hcc:cell c=true:=by simp[cell,bm];omega
 have k2:=I3 b c hcb hcc
 rw[GV h0]at k2
 rw[show ap TX 19 d r a b c=dD {d with st:=r} [b-ct b c*c] by show(match gi 5 b c with|none=>_|some v=>_)=_;rw[show gi 5 b c=some (b-ct b c*c)from if_neg h0];rfl]
 exact gg 19 (by omega) rfl rfl d r b c fl h hs hb0 hf _ k2
theorem D0(d:Dat)(r:List Int)(a b c:Int)(fl:Int)(h:Dk d)(hs:d.st=r++[b,c])(hb0:d.bk.length≤32)(hf:0≤fl∧fl≤d.bk.length)(hk:0≤(d.bk.length:Int)-fl)(qb: -2147483648≤b∧b≤2147483647)(qc: -2147483648≤c∧c≤2147483647)(h0:c=0):Con Tryz.prog 115 [.obj (aw d),.int .i64 19,.int .i64 fl] [.obj (aw (ap TX 19 d r a b c).1),.undef,.undef] (.int .i64 (ap TX 19 d r a b c).2):=by
 have hcb:cell b=true:=by simp[cell,bm];omega
 have hcc:cell c=true:=by simp[cell,bm];omega
 have k2:=I3 b c hcb hcc
 rw[(EL h0).2]at k2
 rw[show ap TX 19 d r a b c=({d with st:=r},-10) by show(match gi 5 b c with|none=>_|some v=>_)=_;rw[show gi 5 b c=none from if_pos h0]]
 exact uv 19 (by omega) rfl rfl d r b c fl h hs hb0 hf _ k2
theorem GF(d:Dat)(r:List Int)(a b c:Int)(fl:Int)(h:Dk d)(hs:d.st=r++[b,c])(hb0:d.bk.length≤32)(hf:0≤fl∧fl≤d.bk.length)(hk:0≤(d.bk.length:Int)-fl)(qb: -2147483648≤b∧b≤2147483647)(qc: -2147483648≤c∧c≤2147483647):Con Tryz.prog 115 [.obj (aw d),.int .i64 20,.int .i64 fl] [.obj (aw (ap TX 20 d r a b c).1),.undef,.undef] (.int .i64 (ap TX 20 d r a b c).2):=by
 have hcb:cell b=true:=by simp[cell,bm];omega
 have hcc:cell c=true:=by simp[cell,bm];omega
 exact gg 20 (by omega) rfl rfl d r b c fl h hs hb0 hf (cf 6 b c).1 (JZ b c hcb hcc)
theorem Fo(d:Dat)(r:List Int)(a b c:Int)(fl:Int)(h:Dk d)(hs:d.st=r++[b,c])(hb0:d.bk.length≤32)(hf:0≤fl∧fl≤d.bk.length)(hk:0≤(d.bk.length:Int)-fl)(qb: -2147483648≤b∧b≤2147483647)(qc: -2147483648≤c∧c≤2147483647):Con Tryz.prog 115 [.obj (aw d),.int .i64 21,.int .i64 fl] [.obj (aw (ap TX 21 d r a b c).1),.undef,.undef] (.int .i64 (ap TX 21 d r a b c).2):=by
 have hcb:cell b=true:=by simp[cell,bm];omega
 have hcc:cell c=true:=by simp[cell,bm];omega
 exact gg 21 (by omega) rfl rfl d r b c fl h hs hb0 hf (cf 7 b c).1 (J2 b c hcb hcc)
theorem Fi(d:Dat)(r:List Int)(a b c:Int)(fl:Int)(h:Dk d)(hs:d.st=r++[b,c])(hb0:d.bk.length≤32)(hf:0≤fl∧fl≤d.bk.length)(hk:0≤(d.bk.length:Int)-fl)(qb: -2147483648≤b∧b≤2147483647)(qc: -2147483648≤c∧c≤2147483647):Con Tryz.prog 115 [.obj (aw d),.int .i64 22,.int .i64 fl] [.obj (aw (ap TX 22 d r a b c).1),.undef,.undef] (.int .i64 (ap TX 22 d r a b c).2):=by
 have hcb:cell b=true:=by simp[cell,bm];omega
 have hcc:cell c=true:=by simp[cell,bm];omega
 exact gg 22 (by omega) rfl rfl d r b c fl h hs hb0 hf (cf 8 b c).1 (JN b c hcb hcc)
theorem Fw(d:Dat)(r:List Int)(a b c:Int)(fl:Int)(h:Dk d)(hs:d.st=r++[b,c])(hb0:d.bk.length≤32)(hf:0≤fl∧fl≤d.bk.length)(hk:0≤(d.bk.length:Int)-fl)(qb: -2147483648≤b∧b≤2147483647)(qc: -2147483648≤c∧c≤2147483647):Con Tryz.prog 115 [.obj (aw d),.int .i64 23,.int .i64 fl] [.obj (aw (ap TX 23 d r a b c).1),.undef,.undef] (.int .i64 (ap TX 23 d r a b c).2):=by
 have hcb:cell b=true:=by simp[cell,bm];omega
 have hcc:cell c=true:=by simp[cell,bm];omega
 exact gg 23 (by omega) rfl rfl d r b c fl h hs hb0 hf (cf 9 b c).1 (KZ b c hcb hcc)
theorem FS(d:Dat)(r:List Int)(a b c:Int)(fl:Int)(h:Dk d)(hs:d.st=r++[b,c])(hb0:d.bk.length≤32)(hf:0≤fl∧fl≤d.bk.length)(hk:0≤(d.bk.length:Int)-fl)(qb: -2147483648≤b∧b≤2147483647)(qc: -2147483648≤c∧c≤2147483647):Con Tryz.prog 115 [.obj (aw d),.int .i64 24,.int .i64 fl] [.obj (aw (ap TX 24 d r a b c).1),.undef,.undef] (.int .i64 (ap TX 24 d r a b c).2):=by
 have hcb:cell b=true:=by simp[cell,bm];omega
 have hcc:cell c=true:=by simp[cell,bm];omega
 exact gg 24 (by omega) rfl rfl d r b c fl h hs hb0 hf (cf 10 b c).1 (Iy b c hcb hcc)
theorem GI(d:Dat)(r:List Int)(a b c:Int)(fl:Int)(h:Dk d)(hs:d.st=r++[c])(hb0:d.bk.length≤32)(hf:0≤fl∧fl≤d.bk.length)(hk:0≤(d.bk.length:Int)-fl)(qb: -2147483648≤b∧b≤2147483647)(qc: -2147483648≤c∧c≤2147483647):Con Tryz.prog 115 [.obj (aw d),.int .i64 25,.int .i64 fl] [.obj (aw (ap TX 25 d r a b c).1),.undef,.undef] (.int .i64 (ap TX 25 d r a b c).2):=by
 exact mQ 25 (by omega) rfl rfl d r c fl h hs hb0 hf (aP 25 b c) (Fq 0 c (by omega) qc)
theorem Fj(d:Dat)(r:List Int)(a b c:Int)(fl:Int)(h:Dk d)(hs:d.st=r++[c])(hb0:d.bk.length≤32)(hf:0≤fl∧fl≤d.bk.length)(hk:0≤(d.bk.length:Int)-fl)(qb: -2147483648≤b∧b≤2147483647)(qc: -2147483648≤c∧c≤2147483647):Con Tryz.prog 115 [.obj (aw d),.int .i64 26,.int .i64 fl] [.obj (aw (ap TX 26 d r a b c).1),.undef,.undef] (.int .i64 (ap TX 26 d r a b c).2):=by
 exact mQ 26 (by omega) rfl rfl d r c fl h hs hb0 hf (aP 26 b c) (GB 0 c (by omega) qc)
theorem Gg(d:Dat)(r:List Int)(a b c:Int)(fl:Int)(h:Dk d)(hs:d.st=r++[c])(hb0:d.bk.length≤32)(hf:0≤fl∧fl≤d.bk.length)(hk:0≤(d.bk.length:Int)-fl)(qb: -2147483648≤b∧b≤2147483647)(qc: -2147483648≤c∧c≤2147483647):Con Tryz.prog 115 [.obj (aw d),.int .i64 27,.int .i64 fl] [.obj (aw (ap TX 27 d r a b c).1),.undef,.undef] (.int .i64 (ap TX 27 d r a b c).2):=by
 exact mQ 27 (by omega) rfl rfl d r c fl h hs hb0 hf (aP 27 b c) (FE 0 c (by omega) qc)
theorem Gk(d:Dat)(r:List Int)(a b c:Int)(fl:Int)(h:Dk d)(hs:d.st=r++[c])(hb0:d.bk.length≤32)(hf:0≤fl∧fl≤d.bk.length)(hk:0≤(d.bk.length:Int)-fl)(qb: -2147483648≤b∧b≤2147483647)(qc: -2147483648≤c∧c≤2147483647):Con Tryz.prog 115 [.obj (aw d),.int .i64 28,.int .i64 fl] [.obj (aw (ap TX 28 d r a b c).1),.undef,.undef] (.int .i64 (ap TX 28 d r a b c).2):=by
 exact mQ 28 (by omega) rfl rfl d r c fl h hs hb0 hf (aP 28 b c) (EU 0 c (by omega) qc)
theorem FO(d:Dat)(r:List Int)(a b c:Int)(fl:Int)(h:Dk d)(hs:d.st=r++[c])(hb0:d.bk.length≤32)(hf:0≤fl∧fl≤d.bk.length)(hk:0≤(d.bk.length:Int)-fl)(qb: -2147483648≤b∧b≤2147483647)(qc: -2147483648≤c∧c≤2147483647):Con Tryz.prog 115 [.obj (aw d),.int .i64 29,.int .i64 fl] [.obj (aw (ap TX 29 d r a b c).1),.undef,.undef] (.int .i64 (ap TX 29 d r a b c).2):=by
 exact mQ 29 (by omega) rfl rfl d r c fl h hs hb0 hf (aP 29 b c) (E8 0 c (by omega) qc)
theorem GL(d:Dat)(r:List Int)(a b c:Int)(fl:Int)(h:Dk d)(hs:d.st=r++[b,c])(hb0:d.bk.length≤32)(hf:0≤fl∧fl≤d.bk.length)(hk:0≤(d.bk.length:Int)-fl)(qb: -2147483648≤b∧b≤2147483647)(qc: -2147483648≤c∧c≤2147483647):Con Tryz.prog 115 [.obj (aw d),.int .i64 30,.int .i64 fl] [.obj (aw (ap TX 30 d r a b c).1),.undef,.undef] (.int .i64 (ap TX 30 d r a b c).2):=by
 exact mL 30 (by omega) rfl rfl d r b c fl h hs hb0 hf (aP 30 b c) (Fa b c qb qc)
theorem EV(d:Dat)(r:List Int)(a b c:Int)(fl:Int)(h:Dk d)(hs:d.st=r++[b,c])(hb0:d.bk.length≤32)(hf:0≤fl∧fl≤d.bk.length)(hk:0≤(d.bk.length:Int)-fl)(qb: -2147483648≤b∧b≤2147483647)(qc: -2147483648≤c∧c≤2147483647):Con Tryz.prog 115 [.obj (aw d),.int .i64 31,.int .i64 fl] [.obj (aw (ap TX 31 d r a b c).1),.undef,.undef] (.int .i64 (ap TX 31 d r a b c).2):=by
 exact mL 31 (by omega) rfl rfl d r b c fl h hs hb0 hf (aP 31 b c) (Ff b c qb qc)
theorem FL(d:Dat)(r:List Int)(a b c:Int)(fl:Int)(h:Dk d)(hs:d.st=r++[b,c])(hb0:d.bk.length≤32)(hf:0≤fl∧fl≤d.bk.length)(hk:0≤(d.bk.length:Int)-fl)(qb: -2147483648≤b∧b≤2147483647)(qc: -2147483648≤c∧c≤2147483647):Con Tryz.prog 115 [.obj (aw d),.int .i64 32,.int .i64 fl] [.obj (aw (ap TX 32 d r a b c).1),.undef,.undef] (.int .i64 (ap TX 32 d r a b c).2):=by
 exact mL 32 (by omega) rfl rfl d r b c fl h hs hb0 hf (aP 32 b c) (F9 b c qb qc)
theorem E6(d:Dat)(r:List Int)(a b c:Int)(fl:Int)(h:Dk d)(hs:d.st=r++[b,c])(hb0:d.bk.length≤32)(hf:0≤fl∧fl≤d.bk.length)(hk:0≤(d.bk.length:Int)-fl)(qb: -2147483648≤b∧b≤2147483647)(qc: -2147483648≤c∧c≤2147483647):Con Tryz.prog 115 [.obj (aw d),.int .i64 33,.int .i64 fl] [.obj (aw (ap TX 33 d r a b c).1),.undef,.undef] (.int .i64 (ap TX 33 d r a b c).2):=by
 exact mL 33 (by omega) rfl rfl d r b c fl h hs hb0 hf (aP 33 b c) (Gh b c qb qc)
theorem E2(d:Dat)(r:List Int)(a b c:Int)(fl:Int)(h:Dk d)(hs:d.st=r++[b,c])(hb0:d.bk.length≤32)(hf:0≤fl∧fl≤d.bk.length)(hk:0≤(d.bk.length:Int)-fl)(qb: -2147483648≤b∧b≤2147483647)(qc: -2147483648≤c∧c≤2147483647):Con Tryz.prog 115 [.obj (aw d),.int .i64 34,.int .i64 fl] [.obj (aw (ap TX 34 d r a b c).1),.undef,.undef] (.int .i64 (ap TX 34 d r a b c).2):=by
 exact mL 34 (by omega) rfl rfl d r b c fl h hs hb0 hf (aP 34 b c) (GE b c qb qc)
theorem EY(d:Dat)(r:List Int)(a b c:Int)(fl:Int)(h:Dk d)(hs:d.st=r++[b,c])(hb0:d.bk.length≤32)(hf:0≤fl∧fl≤d.bk.length)(hk:0≤(d.bk.length:Int)-fl)(qb: -2147483648≤b∧b≤2147483647)(qc: -2147483648≤c∧c≤2147483647):Con Tryz.prog 115 [.obj (aw d),.int .i64 35,.int .i64 fl] [.obj (aw (ap TX 35 d r a b c).1),.undef,.undef] (.int .i64 (ap TX 35 d r a b c).2):=by
 exact mL 35 (by omega) rfl rfl d r b c fl h hs hb0 hf (aP 35 b c) (FC b c qb qc)
theorem Fg(d:Dat)(r:List Int)(a b c:Int)(fl:Int)(h:Dk d)(hs:d.st=r++[b,c])(hb0:d.bk.length≤32)(hf:0≤fl∧fl≤d.bk.length)(hk:0≤(d.bk.length:Int)-fl)(qb: -2147483648≤b∧b≤2147483647)(qc: -2147483648≤c∧c≤2147483647):Con Tryz.prog 115 [.obj (aw d),.int .i64 36,.int .i64 fl] [.obj (aw (ap TX 36 d r a b c).1),.undef,.undef] (.int .i64 (ap TX 36 d r a b c).2):=by
 exact mL 36 (by omega) rfl rfl d r b c fl h hs hb0 hf (aP 36 b c) (E4 b c qb qc)
theorem GS(d:Dat)(r:List Int)(a b c:Int)(fl:Int)(h:Dk d)(hs:d.st=r++[c])(hb0:d.bk.length≤32)(hf:0≤fl∧fl≤d.bk.length)(hk:0≤(d.bk.length:Int)-fl)(qb: -2147483648≤b∧b≤2147483647)(qc: -2147483648≤c∧c≤2147483647):Con Tryz.prog 115 [.obj (aw d),.int .i64 37,.int .i64 fl] [.obj (aw (ap TX 37 d r a b c).1),.undef,.undef] (.int .i64 (ap TX 37 d r a b c).2):=by
 exact mQ 37 (by omega) rfl rfl d r c fl h hs hb0 hf (aP 37 b c) (Fu 0 c (by omega) qc)
theorem F4(d:Dat)(r:List Int)(a b c:Int)(fl:Int)(h:Dk d)(hs:d.st=r++[c])(hb0:d.bk.length≤32)(hf:0≤fl∧fl≤d.bk.length)(hk:0≤(d.bk.length:Int)-fl)(qb: -2147483648≤b∧b≤2147483647)(qc: -2147483648≤c∧c≤2147483647):Con Tryz.prog 115 [.obj (aw d),.int .i64 38,.int .i64 fl] [.obj (aw (ap TX 38 d r a b c).1),.undef,.undef] (.int .i64 (ap TX 38 d r a b c).2):=by
 exact mQ 38 (by omega) rfl rfl d r c fl h hs hb0 hf (aP 38 b c) (Gq 0 c (by omega) qc)
end P6

/- Prims on cells, on the output and on the other stack, in place, by the program; contracts. -/
open Go Go.Abs Go.Proofs V1 H1 F1 F2 T1 T2 T3 P1 P2 P3 P4 P5
namespace P7
theorem qp(p:Nat)(hp:39≤p∧p≤50)(et:bK p=0)(eb:dZ p=0)(d:Dat)(r:List Int)(fl:Int)(h:Dk d)(hs:d.st=r++[])(hb0:d.bk.length≤32)(hf:0≤fl∧fl≤d.bk.length)(y:Dat × Int)(k1:Con Tryz.prog 154 [.obj (aw {d with st:=r}),.int .i64 p,.int .i64 0,.int .i64 0] [.obj (aw y.1),.undef,.undef,.undef] (.int .i64 y.2)):Con Tryz.prog 115 [.obj (aw d),.int .i64 p,.int .i64 fl] [.obj (aw y.1),.undef,.undef] (.int .i64 y.2):=by
 have kt:Con Tryz.prog 148 [.int .i64 p] (aa [.int .i64 p]) (.int .i64 0):=by
  have k:=c148 p (by unfold cu;omega)
  rw[et]at k;exact k
 have kk:Con Tryz.prog 149 [.int .i64 p] (aa [.int .i64 p]) (.int .i64 0):=by
  have k:=c149 p (by unfold cu;omega)
  rw[eb]at k;exact k
 have hst:=h.st
 have hl:d.st.length=r.length+0:=by rw[hs];simp
 have g0:decide ((((d.st.map aj).length:Nat):Int)<0)=false:=by rw[List.length_map];exact decide_eq_false (by omega)
 have wf:IntKind.i64.wrap ((((d.bk.map aj).length:Nat):Int)-fl)=(d.bk.length:Int)-fl:=by rw[List.length_map];exact ai (by omega) (by omega)
 have g1:decide (IntKind.i64.wrap ((((d.bk.map aj).length:Nat):Int)-fl)<0)=false:=by rw[wf];exact decide_eq_false (by omega)
 have w2:IntKind.i64.wrap ((((d.st.map aj).length:Nat):Int)-0)=(r.length:Int):=by rw[List.length_map,ai (by omega) (by omega)];omega
 have er:List.take ((IntKind.i64.wrap ((((d.st.map aj).length:Nat):Int)-0)).toNat-0) (List.drop (0+0) d.st)=r:=by rw[w2,hs];simp
 have q0:bm (p:Int) 15 24=false:=by simp[bm];omega
 have q1:((p:Int)==1)=false:=by simp;omega
 have q2:((p:Int)==2)=false:=by simp;omega
 have q3:((p:Int)==10)=false:=by simp;omega
 have q4:((p:Int)==3)=false:=by simp;omega
 have q5:((p:Int)==4)=false:=by simp;omega
 have q6:((p:Int)==5)=false:=by simp;omega
 have q7:((p:Int)==6)=false:=by simp;omega
 have q8:((p:Int)==7)=false:=by simp;omega
 have q9:((p:Int)==8)=false:=by simp;omega
 have q10:((p:Int)==9)=false:=by simp;omega
 have q11:((p:Int)==11)=false:=by simp;omega
 have q12:((p:Int)==12)=false:=by simp;omega
 have q13:((p:Int)==13)=false:=by simp;omega
 have q14:((p:Int)==14)=false:=by simp;omega
 have q15:((p:Int)==51)=false:=by simp;omega
 have q16:((p:Int)==52)=false:=by simp;omega
 have q17:bm (p:Int) 25 38=false:=by simp[bm];omega
 rw[←er]at k1
 refine rp 242 Tryz.func115 [.tmp 6] (g:= ?_)
 conv=>whnf
 repeat' (first|(refine ax 154 [some 6,none,none,none] ?_;conv=>whnf)|(refine eo (k1 ..) ?_;conv=>whnf)|(focus (refine aq (by rfl) ?_;conv=>whnf))|exact True.intro|refine aO ?_)
 all_goals skip
theorem qL(p:Nat)(hp:39≤p∧p≤50)(et:bK p=1)(eb:dZ p=0)(d:Dat)(r:List Int)(c:Int)(fl:Int)(h:Dk d)(hs:d.st=r++[c])(hb0:d.bk.length≤32)(hf:0≤fl∧fl≤d.bk.length)(y:Dat × Int)(k1:Con Tryz.prog 154 [.obj (aw {d with st:=r}),.int .i64 p,.int .i64 0,.int .i64 c] [.obj (aw y.1),.undef,.undef,.undef] (.int .i64 y.2)):Con Tryz.prog 115 [.obj (aw d),.int .i64 p,.int .i64 fl] [.obj (aw y.1),.undef,.undef] (.int .i64 y.2):=by
 have kt:Con Tryz.prog 148 [.int .i64 p] (aa [.int .i64 p]) (.int .i64 1):=by
  have k:=c148 p (by unfold cu;omega)
  rw[et]at k;exact k
 have kk:Con Tryz.prog 149 [.int .i64 p] (aa [.int .i64 p]) (.int .i64 0):=by
  have k:=c149 p (by unfold cu;omega)
  rw[eb]at k;exact k
 have hst:=h.st
 have hl:d.st.length=r.length+1:=by rw[hs];simp
 have g0:decide ((((d.st.map aj).length:Nat):Int)<1)=false:=by rw[List.length_map];exact decide_eq_false (by omega)
 have wf:IntKind.i64.wrap ((((d.bk.map aj).length:Nat):Int)-fl)=(d.bk.length:Int)-fl:=by rw[List.length_map];exact ai (by omega) (by omega)
 have g1:decide (IntKind.i64.wrap ((((d.bk.map aj).length:Nat):Int)-fl)<0)=false:=by rw[wf];exact decide_eq_false (by omega)
 have w2:IntKind.i64.wrap ((((d.st.map aj).length:Nat):Int)-1)=(r.length:Int):=by rw[List.length_map,ai (by omega) (by omega)];omega
 have er:List.take ((IntKind.i64.wrap ((((d.st.map aj).length:Nat):Int)-1)).toNat-0) (List.drop (0+0) d.st)=r:=by rw[w2,hs];simp
 have q0:bm (p:Int) 15 24=false:=by simp[bm];omega
 have q1:((p:Int)==1)=false:=by simp;omega
 have q2:((p:Int)==2)=false:=by simp;omega
 have q3:((p:Int)==10)=false:=by simp;omega
 have q4:((p:Int)==3)=false:=by simp;omega
 have q5:((p:Int)==4)=false:=by simp;omega
 have q6:((p:Int)==5)=false:=by simp;omega
 have q7:((p:Int)==6)=false:=by simp;omega
 have q8:((p:Int)==7)=false:=by simp;omega
 have q9:((p:Int)==8)=false:=by simp;omega
 have q10:((p:Int)==9)=false:=by simp;omega
 have q11:((p:Int)==11)=false:=by simp;omega
 have q12:((p:Int)==12)=false:=by simp;omega
 have q13:((p:Int)==13)=false:=by simp;omega
 have q14:((p:Int)==14)=false:=by simp;omega
 have q15:((p:Int)==51)=false:=by simp;omega
 have q16:((p:Int)==52)=false:=by simp;omega
 have q17:bm (p:Int) 25 38=false:=by simp[bm];omega
 rw[←er]at k1
 refine rp 242 Tryz.func115 [.tmp 6] (g:= ?_)
 conv=>whnf
 (iterate 115 ((first|refine ac (by solve|simp only[bj]|fail) ?_|apply ac rfl|refine ac (by rw[w2];first|exact decide_eq_true (by omega)|(rw[List.length_map];first|exact decide_eq_true (by omega)|(simp;omega))) ?_|refine aH (by(rfl)) ?_|refine af (by(exact(show _=z3 from rfl))) ?_|refine af (by(exact Bx hs w2)) ?_|refine aG (fun hf=> ?_)|refine ChkS.mk (by kernel_rfl) ?_|refine aJ (by assumption) ?_|apply aB|refine ag (kt ..) ?_|refine ag (kk ..) ?_);conv=>whnf));(iterate 29 ((first|apply ac rfl|refine aJ (by assumption) ?_|refine ax 154 [some 6,none,none,none] ?_|apply aB|refine ag (c95 ..) ?_);conv=>whnf));(focus (apply bo (f:=154);(· repeat' (first|(refine ak ?_;simp[bj];done)|exact be _ _ _ _|apply bg|apply bU|apply bE|apply bB|apply cr|apply cH|apply bT|rfl));refine bz (f:=154) rfl (k1 ..) ?_;conv=>whnf));iterate 8 (first|(apply ac rfl;(conv=>whnf))|(refine af (ak (by solve|simp[bj]|fail)) ?_;(conv=>whnf))|(refine aG (fun hf=> ?_);(conv=>whnf))|(refine aq (by rfl) ?_;(conv=>whnf))|(exact True.intro))
 all_goals skip
theorem BW(p:Nat)(hp:39≤p∧p≤50)(et:bK p=2)(eb:dZ p=0)(d:Dat)(r:List Int)(b:Int)(c:Int)(fl:Int)(h:Dk d)(hs:d.st=r++[b,c])(hb0:d.bk.length≤32)(hf:0≤fl∧fl≤d.bk.length)(y:Dat × Int)(k1:Con Tryz.prog 154 [.obj (aw {d with st:=r}),.int .i64 p,.int .i64 b,.int .i64 c] [.obj (aw y.1),.undef,.undef,.undef] (.int .i64 y.2)):Con Tryz.prog 115 [.obj (aw d),.int .i64 p,.int .i64 fl] [.obj (aw y.1),.undef,.undef] (.int .i64 y.2):=by
 have kt:Con Tryz.prog 148 [.int .i64 p] (aa [.int .i64 p]) (.int .i64 2):=by
  have k:=c148 p (by unfold cu;omega)
  rw[et]at k;exact k
 have kk:Con Tryz.prog 149 [.int .i64 p] (aa [.int .i64 p]) (.int .i64 0):=by
  have k:=c149 p (by unfold cu;omega)
  rw[eb]at k;exact k
 have hst:=h.st
 have hl:d.st.length=r.length+2:=by rw[hs];simp
 have g0:decide ((((d.st.map aj).length:Nat):Int)<2)=false:=by rw[List.length_map];exact decide_eq_false (by omega)
 have wf:IntKind.i64.wrap ((((d.bk.map aj).length:Nat):Int)-fl)=(d.bk.length:Int)-fl:=by rw[List.length_map];exact ai (by omega) (by omega)
 have g1:decide (IntKind.i64.wrap ((((d.bk.map aj).length:Nat):Int)-fl)<0)=false:=by rw[wf];exact decide_eq_false (by omega)
 have w2:IntKind.i64.wrap ((((d.st.map aj).length:Nat):Int)-2)=(r.length:Int):=by rw[List.length_map,ai (by omega) (by omega)];omega
 have er:List.take ((IntKind.i64.wrap ((((d.st.map aj).length:Nat):Int)-2)).toNat-0) (List.drop (0+0) d.st)=r:=by rw[w2,hs];simp
 have q0:bm (p:Int) 15 24=false:=by simp[bm];omega
 have q1:((p:Int)==1)=false:=by simp;omega
 have q2:((p:Int)==2)=false:=by simp;omega
 have q3:((p:Int)==10)=false:=by simp;omega
 have q4:((p:Int)==3)=false:=by simp;omega
 have q5:((p:Int)==4)=false:=by simp;omega
 have q6:((p:Int)==5)=false:=by simp;omega
 have q7:((p:Int)==6)=false:=by simp;omega
 have q8:((p:Int)==7)=false:=by simp;omega
 have q9:((p:Int)==8)=false:=by simp;omega
 have q10:((p:Int)==9)=false:=by simp;omega
 have q11:((p:Int)==11)=false:=by simp;omega
 have q12:((p:Int)==12)=false:=by simp;omega
 have q13:((p:Int)==13)=false:=by simp;omega
 have q14:((p:Int)==14)=false:=by simp;omega
 have q15:((p:Int)==51)=false:=by simp;omega
 have q16:((p:Int)==52)=false:=by simp;omega
 have q17:bm (p:Int) 25 38=false:=by simp[bm];omega
 rw[←er]at k1
 refine rp 242 Tryz.func115 [.tmp 6] (g:= ?_)
 conv=>whnf
 (iterate 115 ((first|refine ac (by solve|simp only[bj]|fail) ?_|apply ac rfl|refine ac (by rw[w2];first|exact decide_eq_true (by omega)|(rw[List.length_map];first|exact decide_eq_true (by omega)|(simp;omega))) ?_|refine aH (by(rfl)) ?_|refine af (by(exact(show _=z3 from rfl))) ?_|refine af (by(exact AM hs w2)) ?_|refine aG (fun hf=> ?_)|refine ChkS.mk (by kernel_rfl) ?_|refine aJ (by assumption) ?_|apply aB|refine ag (kt ..) ?_|refine ag (kk ..) ?_);conv=>whnf));(iterate 29 ((first|apply ac rfl|refine aJ (by assumption) ?_|refine ax 154 [some 6,none,none,none] ?_|apply aB|refine ag (c95 ..) ?_);conv=>whnf));(focus (apply bo (f:=154);(· repeat' (first|(refine ak ?_;simp[bj];done)|exact be _ _ _ _|apply bg|apply bU|apply bE|apply bB|apply cr|apply cH|apply bT|rfl));refine bz (f:=154) rfl (k1 ..) ?_;conv=>whnf));iterate 8 (first|(apply ac rfl;(conv=>whnf))|(refine af (ak (by solve|simp[bj]|fail)) ?_;(conv=>whnf))|(refine aG (fun hf=> ?_);(conv=>whnf))|(refine aq (by rfl) ?_;(conv=>whnf))|(exact True.intro))
 all_goals skip
theorem FQ(d:Dat)(r:List Int)(a b c:Int)(fl:Int)(h:Dk d)(hs:d.st=r++[c])(hb0:d.bk.length≤32)(hf:0≤fl∧fl≤d.bk.length)(hk:0≤(d.bk.length:Int)-fl)(qb: -2147483648≤b∧b≤2147483647)(qc: -2147483648≤c∧c≤2147483647):Con Tryz.prog 115 [.obj (aw d),.int .i64 39,.int .i64 fl] [.obj (aw (ap TX 39 d r a b c).1),.undef,.undef] (.int .i64 (ap TX 39 d r a b c).2):=by
 have hst:=h.st
 have hl:d.st.length=r.length+1:=by rw[hs];simp
 have hd2:Dk {d with st:=r}:=⟨h.he,h.ce,by simp only;omega,h.ou,h.ba,h.cs⟩
 exact qL 39 (by omega) rfl rfl d r c fl h hs hb0 hf (cY 39 {d with st:=r} 0 c) (IK {d with st:=r} 0 c hd2 qc)
theorem Fp(d:Dat)(r:List Int)(a b c:Int)(fl:Int)(h:Dk d)(hs:d.st=r++[b,c])(hb0:d.bk.length≤32)(hf:0≤fl∧fl≤d.bk.length)(hk:0≤(d.bk.length:Int)-fl)(qb: -2147483648≤b∧b≤2147483647)(qc: -2147483648≤c∧c≤2147483647):Con Tryz.prog 115 [.obj (aw d),.int .i64 40,.int .i64 fl] [.obj (aw (ap TX 40 d r a b c).1),.undef,.undef] (.int .i64 (ap TX 40 d r a b c).2):=by
 have hst:=h.st
 have hl:d.st.length=r.length+2:=by rw[hs];simp
 have hd2:Dk {d with st:=r}:=⟨h.he,h.ce,by simp only;omega,h.ou,h.ba,h.cs⟩
 exact BW 40 (by omega) rfl rfl d r b c fl h hs hb0 hf (cY 40 {d with st:=r} b c) (IU {d with st:=r} b c hd2 qb qc)
theorem GG(d:Dat)(r:List Int)(a b c:Int)(fl:Int)(h:Dk d)(hs:d.st=r++[b,c])(hb0:d.bk.length≤32)(hf:0≤fl∧fl≤d.bk.length)(hk:0≤(d.bk.length:Int)-fl)(qb: -2147483648≤b∧b≤2147483647)(qc: -2147483648≤c∧c≤2147483647):Con Tryz.prog 115 [.obj (aw d),.int .i64 41,.int .i64 fl] [.obj (aw (ap TX 41 d r a b c).1),.undef,.undef] (.int .i64 (ap TX 41 d r a b c).2):=by
 have hst:=h.st
 have hl:d.st.length=r.length+2:=by rw[hs];simp
 have hd2:Dk {d with st:=r}:=⟨h.he,h.ce,by simp only;omega,h.ou,h.ba,h.cs⟩
 exact BW 41 (by omega) rfl rfl d r b c fl h hs hb0 hf (cY 41 {d with st:=r} b c) (HT {d with st:=r} b c hd2 qb qc)
theorem FP(d:Dat)(r:List Int)(a b c:Int)(fl:Int)(h:Dk d)(hs:d.st=r++[])(hb0:d.bk.length≤32)(hf:0≤fl∧fl≤d.bk.length)(hk:0≤(d.bk.length:Int)-fl)(qb: -2147483648≤b∧b≤2147483647)(qc: -2147483648≤c∧c≤2147483647):Con Tryz.prog 115 [.obj (aw d),.int .i64 42,.int .i64 fl] [.obj (aw (ap TX 42 d r a b c).1),.undef,.undef] (.int .i64 (ap TX 42 d r a b c).2):=by
 have hst:=h.st
 have hl:d.st.length=r.length+0:=by rw[hs];simp
 have hd2:Dk {d with st:=r}:=⟨h.he,h.ce,by simp only;omega,h.ou,h.ba,h.cs⟩
 exact qp 42 (by omega) rfl rfl d r fl h hs hb0 hf (cY 42 {d with st:=r} 0 0) (He {d with st:=r} 0 0 hd2 (by omega) (by omega))
theorem GA(d:Dat)(r:List Int)(a b c:Int)(fl:Int)(h:Dk d)(hs:d.st=r++[c])(hb0:d.bk.length≤32)(hf:0≤fl∧fl≤d.bk.length)(hk:0≤(d.bk.length:Int)-fl)(qb: -2147483648≤b∧b≤2147483647)(qc: -2147483648≤c∧c≤2147483647):Con Tryz.prog 115 [.obj (aw d),.int .i64 43,.int .i64 fl] [.obj (aw (ap TX 43 d r a b c).1),.undef,.undef] (.int .i64 (ap TX 43 d r a b c).2):=by
 have hst:=h.st
 have hl:d.st.length=r.length+1:=by rw[hs];simp
 have hd2:Dk {d with st:=r}:=⟨h.he,h.ce,by simp only;omega,h.ou,h.ba,h.cs⟩
 exact qL 43 (by omega) rfl rfl d r c fl h hs hb0 hf (cY 43 {d with st:=r} 0 c) (Hn {d with st:=r} 0 c hd2 (by omega) qc)
theorem FN(d:Dat)(r:List Int)(a b c:Int)(fl:Int)(h:Dk d)(hs:d.st=r++[c])(hb0:d.bk.length≤32)(hf:0≤fl∧fl≤d.bk.length)(hk:0≤(d.bk.length:Int)-fl)(qb: -2147483648≤b∧b≤2147483647)(qc: -2147483648≤c∧c≤2147483647):Con Tryz.prog 115 [.obj (aw d),.int .i64 44,.int .i64 fl] [.obj (aw (ap TX 44 d r a b c).1),.undef,.undef] (.int .i64 (ap TX 44 d r a b c).2):=by
 have hst:=h.st
 have hl:d.st.length=r.length+1:=by rw[hs];simp
 have hd2:Dk {d with st:=r}:=⟨h.he,h.ce,by simp only;omega,h.ou,h.ba,h.cs⟩
 exact qL 44 (by omega) rfl rfl d r c fl h hs hb0 hf (cY 44 {d with st:=r} 0 c) (Hq {d with st:=r} 0 c hd2 (by omega) qc)
theorem FZ(d:Dat)(r:List Int)(a b c:Int)(fl:Int)(h:Dk d)(hs:d.st=r++[c])(hb0:d.bk.length≤32)(hf:0≤fl∧fl≤d.bk.length)(hk:0≤(d.bk.length:Int)-fl)(qb: -2147483648≤b∧b≤2147483647)(qc: -2147483648≤c∧c≤2147483647):Con Tryz.prog 115 [.obj (aw d),.int .i64 45,.int .i64 fl] [.obj (aw (ap TX 45 d r a b c).1),.undef,.undef] (.int .i64 (ap TX 45 d r a b c).2):=by
 have hst:=h.st
 have hl:d.st.length=r.length+1:=by rw[hs];simp
 have hd2:Dk {d with st:=r}:=⟨h.he,h.ce,by simp only;omega,h.ou,h.ba,h.cs⟩
 exact qL 45 (by omega) rfl rfl d r c fl h hs hb0 hf (cY 45 {d with st:=r} 0 c) (IC {d with st:=r} 0 c hd2 (by omega) qc)
theorem E1(d:Dat)(r:List Int)(a b c:Int)(fl:Int)(h:Dk d)(hs:d.st=r++[c])(hb0:d.bk.length≤32)(hf:0≤fl∧fl≤d.bk.length)(hk:0≤(d.bk.length:Int)-fl)(qb: -2147483648≤b∧b≤2147483647)(qc: -2147483648≤c∧c≤2147483647):Con Tryz.prog 115 [.obj (aw d),.int .i64 46,.int .i64 fl] [.obj (aw (ap TX 46 d r a b c).1),.undef,.undef] (.int .i64 (ap TX 46 d r a b c).2):=by
 have hst:=h.st
 have hl:d.st.length=r.length+1:=by rw[hs];simp
 have hd2:Dk {d with st:=r}:=⟨h.he,h.ce,by simp only;omega,h.ou,h.ba,h.cs⟩
 exact qL 46 (by omega) rfl rfl d r c fl h hs hb0 hf (cY 46 {d with st:=r} 0 c) (IY {d with st:=r} 0 c hd2 (by omega) qc)
theorem Gi(d:Dat)(r:List Int)(a b c:Int)(fl:Int)(h:Dk d)(hs:d.st=r++[])(hb0:d.bk.length≤32)(hf:0≤fl∧fl≤d.bk.length)(hk:0≤(d.bk.length:Int)-fl)(qb: -2147483648≤b∧b≤2147483647)(qc: -2147483648≤c∧c≤2147483647):Con Tryz.prog 115 [.obj (aw d),.int .i64 47,.int .i64 fl] [.obj (aw (ap TX 47 d r a b c).1),.undef,.undef] (.int .i64 (ap TX 47 d r a b c).2):=by
 have hst:=h.st
 have hl:d.st.length=r.length+0:=by rw[hs];simp
 have hd2:Dk {d with st:=r}:=⟨h.he,h.ce,by simp only;omega,h.ou,h.ba,h.cs⟩
 exact qp 47 (by omega) rfl rfl d r fl h hs hb0 hf (cY 47 {d with st:=r} 0 0) (HW {d with st:=r} 0 0 hd2 (by omega) (by omega))
theorem F7(d:Dat)(r:List Int)(a b c:Int)(fl:Int)(h:Dk d)(hs:d.st=r++[])(hb0:d.bk.length≤32)(hf:0≤fl∧fl≤d.bk.length)(hk:0≤(d.bk.length:Int)-fl)(qb: -2147483648≤b∧b≤2147483647)(qc: -2147483648≤c∧c≤2147483647):Con Tryz.prog 115 [.obj (aw d),.int .i64 48,.int .i64 fl] [.obj (aw (ap TX 48 d r a b c).1),.undef,.undef] (.int .i64 (ap TX 48 d r a b c).2):=by
 have hst:=h.st
 have hl:d.st.length=r.length+0:=by rw[hs];simp
 have hd2:Dk {d with st:=r}:=⟨h.he,h.ce,by simp only;omega,h.ou,h.ba,h.cs⟩
 exact qp 48 (by omega) rfl rfl d r fl h hs hb0 hf (cY 48 {d with st:=r} 0 0) (HU {d with st:=r} 0 0 hd2 (by omega) (by omega))
theorem E5(d:Dat)(r:List Int)(a b c:Int)(fl:Int)(h:Dk d)(hs:d.st=r++[])(hb0:d.bk.length≤32)(hf:0≤fl∧fl≤d.bk.length)(hk:0≤(d.bk.length:Int)-fl)(qb: -2147483648≤b∧b≤2147483647)(qc: -2147483648≤c∧c≤2147483647):Con Tryz.prog 115 [.obj (aw d),.int .i64 49,.int .i64 fl] [.obj (aw (ap TX 49 d r a b c).1),.undef,.undef] (.int .i64 (ap TX 49 d r a b c).2):=by
 have hst:=h.st
 have hl:d.st.length=r.length+0:=by rw[hs];simp
 have hd2:Dk {d with st:=r}:=⟨h.he,h.ce,by simp only;omega,h.ou,h.ba,h.cs⟩
 exact qp 49 (by omega) rfl rfl d r fl h hs hb0 hf (cY 49 {d with st:=r} 0 0) (HR {d with st:=r} 0 0 hd2 (by omega) (by omega))
theorem FA(d:Dat)(r:List Int)(a b c:Int)(fl:Int)(h:Dk d)(hs:d.st=r++[])(hb0:d.bk.length≤32)(hf:0≤fl∧fl≤d.bk.length)(hk:0≤(d.bk.length:Int)-fl)(qb: -2147483648≤b∧b≤2147483647)(qc: -2147483648≤c∧c≤2147483647):Con Tryz.prog 115 [.obj (aw d),.int .i64 50,.int .i64 fl] [.obj (aw (ap TX 50 d r a b c).1),.undef,.undef] (.int .i64 (ap TX 50 d r a b c).2):=by
 have hst:=h.st
 have hl:d.st.length=r.length+0:=by rw[hs];simp
 have hd2:Dk {d with st:=r}:=⟨h.he,h.ce,by simp only;omega,h.ou,h.ba,h.cs⟩
 exact qp 50 (by omega) rfl rfl d r fl h hs hb0 hf (cY 50 {d with st:=r} 0 0) (Ij {d with st:=r} 0 0 hd2 (by omega) (by omega))
end P7
