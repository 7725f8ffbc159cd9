import Derived.Test.YthfphedhlnoffaaGreatDoorBA
/- Prims in place, by the program; contracts. -/
set_option linter.unusedVariables false
set_option linter.unusedSimpArgs false
set_option maxRecDepth 100000
open Go Go.Abs Go.Proofs V1 H1 F1 F2 T1 T2 T3 P1 P2 P3 P4
namespace P5
theorem c152(d:Dat)(n:Nat)(h:d.bk.length≤32)(hn:n≤d.bk.length):Con Tryz.prog 152 [.obj (aw d),.int .i64 n] [.obj (aw {d with bk:=d.bk.take (d.bk.length-n)}),.undef] (.tup []):=by
 have w1:IntKind.i64.wrap ((d.bk.length:Int)-(n:Int))=((d.bk.length-n:Nat):Int):=by rw[ai (by omega) (by omega)];omega
 refine rp 19 Tryz.func152 [] (g:= ?_)
 conv=>whnf
 refine aP ?_
 (refine aq (by rfl) ?_;conv=>whnf)
 refine aP ?_
 rotate_left
 refine na (Sh.agg ⟨Sh.refl _,lO ?_,Sh.refl _,Sh.refl _,Sh.refl _,Sh.refl _,trivial⟩) ?_
 ·simp[w1,aU]
 ·conv=>whnf
  exact True.intro
instance:CC 152:=⟨_,@c152⟩
def TX(n ba:Int):List UInt8:=md n ba.toNat
def z3:List (List AV):=[[.int .i64 0],[.int .i64 0],[.int .i64 0]]
theorem ne{r l:List Int}{d:List Int}(hs:d=r++l){n m:Nat}(hn:n=r.length)(hm:m=l.length):am (d.map aj) n m=l.map aj:=by
 subst hs hn hm
 simp[am,List.take_of_length_le]
theorem DQ{r:List Int}{d:List Int}(hs:d=r++[])(w:IntKind.i64.wrap ((((d.map aj).length:Nat):Int)-0)=(r.length:Int)):
  List.take (0+(IntKind.i64.wrap (3-0)).toNat) z3++List.take (z3.length-(IntKind.i64.wrap (3-0)).toNat) (am (d.map aj) (0+(IntKind.i64.wrap ((((d.map aj).length:Nat):Int)-0)).toNat) ((d.map aj).length-(IntKind.i64.wrap ((((d.map aj).length:Nat):Int)-0)).toNat))++
   List.drop (0+(IntKind.i64.wrap (3-0)).toNat+min (am (d.map aj) (0+(IntKind.i64.wrap ((((d.map aj).length:Nat):Int)-0)).toNat) ((d.map aj).length-(IntKind.i64.wrap ((((d.map aj).length:Nat):Int)-0)).toNat)).length (z3.length-(IntKind.i64.wrap (3-0)).toNat)) z3=[[.int .i64 0],[.int .i64 0],[.int .i64 0]]:=by
 have hl:(d.map aj).length=r.length+0:=by rw[hs];simp
 rw[w,ne hs (by omega) (by rw[hl];simp)]
 rfl
theorem Bn{r:List Int}{c:Int}{d:List Int}(hs:d=r++[c])(w:IntKind.i64.wrap ((((d.map aj).length:Nat):Int)-1)=(r.length:Int)):
  List.take (0+(IntKind.i64.wrap (3-1)).toNat) z3++List.take (z3.length-(IntKind.i64.wrap (3-1)).toNat) (am (d.map aj) (0+(IntKind.i64.wrap ((((d.map aj).length:Nat):Int)-1)).toNat) ((d.map aj).length-(IntKind.i64.wrap ((((d.map aj).length:Nat):Int)-1)).toNat))++
   List.drop (0+(IntKind.i64.wrap (3-1)).toNat+min (am (d.map aj) (0+(IntKind.i64.wrap ((((d.map aj).length:Nat):Int)-1)).toNat) ((d.map aj).length-(IntKind.i64.wrap ((((d.map aj).length:Nat):Int)-1)).toNat)).length (z3.length-(IntKind.i64.wrap (3-1)).toNat)) z3=[[.int .i64 0],[.int .i64 0],[.int .i64 c]]:=by
 have hl:(d.map aj).length=r.length+1:=by rw[hs];simp
 rw[w,ne hs (by omega) (by rw[hl];simp)]
 rfl
theorem zj{r:List Int}{b c:Int}{d:List Int}(hs:d=r++[b,c])(w:IntKind.i64.wrap ((((d.map aj).length:Nat):Int)-2)=(r.length:Int)):
  List.take (0+(IntKind.i64.wrap (3-2)).toNat) z3++List.take (z3.length-(IntKind.i64.wrap (3-2)).toNat) (am (d.map aj) (0+(IntKind.i64.wrap ((((d.map aj).length:Nat):Int)-2)).toNat) ((d.map aj).length-(IntKind.i64.wrap ((((d.map aj).length:Nat):Int)-2)).toNat))++
   List.drop (0+(IntKind.i64.wrap (3-2)).toNat+min (am (d.map aj) (0+(IntKind.i64.wrap ((((d.map aj).length:Nat):Int)-2)).toNat) ((d.map aj).length-(IntKind.i64.wrap ((((d.map aj).length:Nat):Int)-2)).toNat)).length (z3.length-(IntKind.i64.wrap (3-2)).toNat)) z3=[[.int .i64 0],[.int .i64 b],[.int .i64 c]]:=by
 have hl:(d.map aj).length=r.length+2:=by rw[hs];simp
 rw[w,ne hs (by omega) (by rw[hl];simp)]
 rfl
theorem GY{r:List Int}{a b c:Int}{d:List Int}(hs:d=r++[a,b,c])(w:IntKind.i64.wrap ((((d.map aj).length:Nat):Int)-3)=(r.length:Int)):
  List.take (0+(IntKind.i64.wrap (3-3)).toNat) z3++List.take (z3.length-(IntKind.i64.wrap (3-3)).toNat) (am (d.map aj) (0+(IntKind.i64.wrap ((((d.map aj).length:Nat):Int)-3)).toNat) ((d.map aj).length-(IntKind.i64.wrap ((((d.map aj).length:Nat):Int)-3)).toNat))++
   List.drop (0+(IntKind.i64.wrap (3-3)).toNat+min (am (d.map aj) (0+(IntKind.i64.wrap ((((d.map aj).length:Nat):Int)-3)).toNat) ((d.map aj).length-(IntKind.i64.wrap ((((d.map aj).length:Nat):Int)-3)).toNat)).length (z3.length-(IntKind.i64.wrap (3-3)).toNat)) z3=[[.int .i64 a],[.int .i64 b],[.int .i64 c]]:=by
 have hl:(d.map aj).length=r.length+3:=by rw[hs];simp
 rw[w,ne hs (by omega) (by rw[hl];simp)]
 rfl
theorem Gz(d:Dat)(r:List Int)(a b c:Int)(fl:Int)(h:Dk d)(hs:d.st=r++[c])(hb0:d.bk.length≤32)(hf:0≤fl∧fl≤d.bk.length)(hk:0≤(d.bk.length:Int)-fl)(qb: -2147483648≤b∧b≤2147483647)(qc: -2147483648≤c∧c≤2147483647):Con Tryz.prog 115 [.obj (aw d),.int .i64 2,.int .i64 fl] [.obj (aw (ap TX 2 d r a b c).1),.undef,.undef] (.int .i64 (ap TX 2 d r a b c).2):=by
 have kt:Con Tryz.prog 148 [.int .i64 2] (aa [.int .i64 2]) (.int .i64 1):=c148 2 (by unfold cp;omega)
 have kk:Con Tryz.prog 149 [.int .i64 2] (aa [.int .i64 2]) (.int .i64 0):=c149 2 (by unfold cp;omega)
 have hst:=h.st
 have hl:d.st.length=r.length+1:=by rw[hs];simp
 have g0:decide ((((d.st.map aj).length:Nat):Int)<1)=false:=by rw[List.length_map];exact decide_eq_false (by omega)
 have wf:IntKind.i64.wrap ((((d.bk.map aj).length:Nat):Int)-fl)=(d.bk.length:Int)-fl:=by rw[List.length_map];exact ai (by omega) (by omega)
 have g1:decide (IntKind.i64.wrap ((((d.bk.map aj).length:Nat):Int)-fl)<0)=false:=by rw[wf];exact decide_eq_false (by omega)
 have w2:IntKind.i64.wrap ((((d.st.map aj).length:Nat):Int)-1)=(r.length:Int):=by rw[List.length_map,ai (by omega) (by omega)];omega
 have er:List.take ((IntKind.i64.wrap ((((d.st.map aj).length:Nat):Int)-1)).toNat-0) (List.drop (0+0) d.st)=r:=by rw[w2,hs];simp
 rw[←er]
 refine rp 242 Tryz.func115 [.tmp 6] (g:= ?_)
 conv=>whnf
 (iterate 115 ((first|refine ac (by solve|simp only[bc]|fail) ?_|apply ac rfl|refine ac (by rw[w2];first|exact decide_eq_true (by omega)|(rw[List.length_map];first|exact decide_eq_true (by omega)|(simp;omega))) ?_|refine aD (by(rfl)) ?_|refine ag (by(exact(show _=z3 from rfl))) ?_|refine ag (by(exact Bn hs w2)) ?_|refine aG (fun hf=> ?_)|refine ChkS.mk (by kernel_rfl) ?_|refine aK (by assumption) ?_|apply aH|refine ah (kt ..) ?_|refine ah (kk ..) ?_);conv=>whnf));iterate 12 (first|(apply ac rfl;(conv=>whnf))|(refine ag (al (by solve|simp[bc]|fail)) ?_;(conv=>whnf))|(refine ag (by(exact aW _ _ _ _)) ?_;(conv=>whnf))|(apply bH rfl;(conv=>whnf))|(apply aK rfl;(conv=>whnf))|(refine ah (c95 ..) ?_;(conv=>whnf))|(refine aq (by rfl) ?_;(conv=>whnf))|(exact True.intro))
 all_goals skip
theorem Gs(d:Dat)(r:List Int)(a b c:Int)(fl:Int)(h:Dk d)(hs:d.st=r++[c])(hb0:d.bk.length≤32)(hf:0≤fl∧fl≤d.bk.length)(hk:0≤(d.bk.length:Int)-fl)(qb: -2147483648≤b∧b≤2147483647)(qc: -2147483648≤c∧c≤2147483647):Con Tryz.prog 115 [.obj (aw d),.int .i64 1,.int .i64 fl] [.obj (aw (ap TX 1 d r a b c).1),.undef,.undef] (.int .i64 (ap TX 1 d r a b c).2):=by
 have kt:Con Tryz.prog 148 [.int .i64 1] (aa [.int .i64 1]) (.int .i64 1):=c148 1 (by unfold cp;omega)
 have kk:Con Tryz.prog 149 [.int .i64 1] (aa [.int .i64 1]) (.int .i64 0):=c149 1 (by unfold cp;omega)
 have hst:=h.st
 have hl:d.st.length=r.length+1:=by rw[hs];simp
 have g0:decide ((((d.st.map aj).length:Nat):Int)<1)=false:=by rw[List.length_map];exact decide_eq_false (by omega)
 have wf:IntKind.i64.wrap ((((d.bk.map aj).length:Nat):Int)-fl)=(d.bk.length:Int)-fl:=by rw[List.length_map];exact ai (by omega) (by omega)
 have g1:decide (IntKind.i64.wrap ((((d.bk.map aj).length:Nat):Int)-fl)<0)=false:=by rw[wf];exact decide_eq_false (by omega)
 have w2:IntKind.i64.wrap ((((d.st.map aj).length:Nat):Int)-1)=(r.length:Int):=by rw[List.length_map,ai (by omega) (by omega)];omega
 have er:List.take ((IntKind.i64.wrap ((((d.st.map aj).length:Nat):Int)-1)).toNat-0) (List.drop (0+0) d.st)=r:=by rw[w2,hs];simp
 have k1:=c151 {d with st:=List.take ((IntKind.i64.wrap ((((d.st.map aj).length:Nat):Int)-1)).toNat-0) (List.drop (0+0) d.st)} [c,c] (by rw[er];simp only;omega) (by simp)
 rw[←er]
 rw[show ap TX 1 d (List.take ((IntKind.i64.wrap ((((d.st.map aj).length:Nat):Int)-1)).toNat-0) (List.drop (0+0) d.st)) a b c=dA {d with st:=List.take ((IntKind.i64.wrap ((((d.st.map aj).length:Nat):Int)-1)).toNat-0) (List.drop (0+0) d.st)} [c,c]from rfl]
 refine rp 242 Tryz.func115 [.tmp 6] (g:= ?_)
 conv=>whnf
 (iterate 115 ((first|refine ac (by solve|simp only[bc]|fail) ?_|apply ac rfl|refine ac (by rw[w2];first|exact decide_eq_true (by omega)|(rw[List.length_map];first|exact decide_eq_true (by omega)|(simp;omega))) ?_|refine aD (by(rfl)) ?_|refine ag (by(exact(show _=z3 from rfl))) ?_|refine ag (by(exact Bn hs w2)) ?_|refine aG (fun hf=> ?_)|refine ChkS.mk (by kernel_rfl) ?_|refine aK (by assumption) ?_|apply aH|refine ah (kt ..) ?_|refine ah (kk ..) ?_);conv=>whnf));(iterate 8 ((first|refine ac (by solve|simp only[bc]|fail) ?_|apply ac rfl|apply bH rfl|apply aK rfl|refine ay 151 [some 6,none] ?_|refine ah (c95 ..) ?_);conv=>whnf));(focus (apply bj (f:=151);(· repeat' (first|(refine al ?_;simp[bc];done)|exact aW _ _ _ _|apply aY|apply bO|apply bC|apply bz|apply cm|apply cB|apply bM|rfl));refine bx (f:=151) rfl (k1 ..) ?_;conv=>whnf));iterate 8 (first|(apply ac rfl;(conv=>whnf))|(refine ag (al (by solve|simp[bc]|fail)) ?_;(conv=>whnf))|(refine aG (fun hf=> ?_);(conv=>whnf))|(refine aq (by rfl) ?_;(conv=>whnf))|(exact True.intro))
 all_goals skip
theorem EL(d:Dat)(r:List Int)(a b c:Int)(fl:Int)(h:Dk d)(hs:d.st=r++[b,c])(hb0:d.bk.length≤32)(hf:0≤fl∧fl≤d.bk.length)(hk:0≤(d.bk.length:Int)-fl)(qb: -2147483648≤b∧b≤2147483647)(qc: -2147483648≤c∧c≤2147483647):Con Tryz.prog 115 [.obj (aw d),.int .i64 10,.int .i64 fl] [.obj (aw (ap TX 10 d r a b c).1),.undef,.undef] (.int .i64 (ap TX 10 d r a b c).2):=by
 have kt:Con Tryz.prog 148 [.int .i64 10] (aa [.int .i64 10]) (.int .i64 2):=c148 10 (by unfold cp;omega)
 have kk:Con Tryz.prog 149 [.int .i64 10] (aa [.int .i64 10]) (.int .i64 0):=c149 10 (by unfold cp;omega)
 have hst:=h.st
 have hl:d.st.length=r.length+2:=by rw[hs];simp
 have g0:decide ((((d.st.map aj).length:Nat):Int)<2)=false:=by rw[List.length_map];exact decide_eq_false (by omega)
 have wf:IntKind.i64.wrap ((((d.bk.map aj).length:Nat):Int)-fl)=(d.bk.length:Int)-fl:=by rw[List.length_map];exact ai (by omega) (by omega)
 have g1:decide (IntKind.i64.wrap ((((d.bk.map aj).length:Nat):Int)-fl)<0)=false:=by rw[wf];exact decide_eq_false (by omega)
 have w2:IntKind.i64.wrap ((((d.st.map aj).length:Nat):Int)-2)=(r.length:Int):=by rw[List.length_map,ai (by omega) (by omega)];omega
 have er:List.take ((IntKind.i64.wrap ((((d.st.map aj).length:Nat):Int)-2)).toNat-0) (List.drop (0+0) d.st)=r:=by rw[w2,hs];simp
 rw[←er]
 refine rp 242 Tryz.func115 [.tmp 6] (g:= ?_)
 conv=>whnf
 (iterate 115 ((first|refine ac (by solve|simp only[bc]|fail) ?_|apply ac rfl|refine ac (by rw[w2];first|exact decide_eq_true (by omega)|(rw[List.length_map];first|exact decide_eq_true (by omega)|(simp;omega))) ?_|refine aD (by(rfl)) ?_|refine ag (by(exact(show _=z3 from rfl))) ?_|refine ag (by(exact zj hs w2)) ?_|refine aG (fun hf=> ?_)|refine ChkS.mk (by kernel_rfl) ?_|refine aK (by assumption) ?_|apply aH|refine ah (kt ..) ?_|refine ah (kk ..) ?_);conv=>whnf));iterate 12 (first|(apply ac rfl;(conv=>whnf))|(refine ag (al (by solve|simp[bc]|fail)) ?_;(conv=>whnf))|(refine ag (by(exact aW _ _ _ _)) ?_;(conv=>whnf))|(apply bH rfl;(conv=>whnf))|(apply aK rfl;(conv=>whnf))|(refine ah (c95 ..) ?_;(conv=>whnf))|(refine aq (by rfl) ?_;(conv=>whnf))|(exact True.intro))
 all_goals skip
theorem G3(d:Dat)(r:List Int)(a b c:Int)(fl:Int)(h:Dk d)(hs:d.st=r++[b,c])(hb0:d.bk.length≤32)(hf:0≤fl∧fl≤d.bk.length)(hk:0≤(d.bk.length:Int)-fl)(qb: -2147483648≤b∧b≤2147483647)(qc: -2147483648≤c∧c≤2147483647):Con Tryz.prog 115 [.obj (aw d),.int .i64 3,.int .i64 fl] [.obj (aw (ap TX 3 d r a b c).1),.undef,.undef] (.int .i64 (ap TX 3 d r a b c).2):=by
 have kt:Con Tryz.prog 148 [.int .i64 3] (aa [.int .i64 3]) (.int .i64 2):=c148 3 (by unfold cp;omega)
 have kk:Con Tryz.prog 149 [.int .i64 3] (aa [.int .i64 3]) (.int .i64 0):=c149 3 (by unfold cp;omega)
 have hst:=h.st
 have hl:d.st.length=r.length+2:=by rw[hs];simp
 have g0:decide ((((d.st.map aj).length:Nat):Int)<2)=false:=by rw[List.length_map];exact decide_eq_false (by omega)
 have wf:IntKind.i64.wrap ((((d.bk.map aj).length:Nat):Int)-fl)=(d.bk.length:Int)-fl:=by rw[List.length_map];exact ai (by omega) (by omega)
 have g1:decide (IntKind.i64.wrap ((((d.bk.map aj).length:Nat):Int)-fl)<0)=false:=by rw[wf];exact decide_eq_false (by omega)
 have w2:IntKind.i64.wrap ((((d.st.map aj).length:Nat):Int)-2)=(r.length:Int):=by rw[List.length_map,ai (by omega) (by omega)];omega
 have er:List.take ((IntKind.i64.wrap ((((d.st.map aj).length:Nat):Int)-2)).toNat-0) (List.drop (0+0) d.st)=r:=by rw[w2,hs];simp
 have k1:=c151 {d with st:=List.take ((IntKind.i64.wrap ((((d.st.map aj).length:Nat):Int)-2)).toNat-0) (List.drop (0+0) d.st)} [c,b] (by rw[er];simp only;omega) (by simp)
 rw[←er]
 rw[show ap TX 3 d (List.take ((IntKind.i64.wrap ((((d.st.map aj).length:Nat):Int)-2)).toNat-0) (List.drop (0+0) d.st)) a b c=dA {d with st:=List.take ((IntKind.i64.wrap ((((d.st.map aj).length:Nat):Int)-2)).toNat-0) (List.drop (0+0) d.st)} [c,b]from rfl]
 refine rp 242 Tryz.func115 [.tmp 6] (g:= ?_)
 conv=>whnf
 (iterate 115 ((first|refine ac (by solve|simp only[bc]|fail) ?_|apply ac rfl|refine ac (by rw[w2];first|exact decide_eq_true (by omega)|(rw[List.length_map];first|exact decide_eq_true (by omega)|(simp;omega))) ?_|refine aD (by(rfl)) ?_|refine ag (by(exact(show _=z3 from rfl))) ?_|refine ag (by(exact zj hs w2)) ?_|refine aG (fun hf=> ?_)|refine ChkS.mk (by kernel_rfl) ?_|refine aK (by assumption) ?_|apply aH|refine ah (kt ..) ?_|refine ah (kk ..) ?_);conv=>whnf));(iterate 11 ((first|refine ac (by solve|simp only[bc]|fail) ?_|apply ac rfl|apply bH rfl|apply aK rfl|refine ay 151 [some 6,none] ?_|refine ah (c95 ..) ?_);conv=>whnf));(focus (apply bj (f:=151);(· repeat' (first|(refine al ?_;simp[bc];done)|exact aW _ _ _ _|apply aY|apply bO|apply bC|apply bz|apply cm|apply cB|apply bM|rfl));refine bx (f:=151) rfl (k1 ..) ?_;conv=>whnf));iterate 8 (first|(apply ac rfl;(conv=>whnf))|(refine ag (al (by solve|simp[bc]|fail)) ?_;(conv=>whnf))|(refine aG (fun hf=> ?_);(conv=>whnf))|(refine aq (by rfl) ?_;(conv=>whnf))|(exact True.intro))
 all_goals skip
theorem Gk(d:Dat)(r:List Int)(a b c:Int)(fl:Int)(h:Dk d)(hs:d.st=r++[b,c])(hb0:d.bk.length≤32)(hf:0≤fl∧fl≤d.bk.length)(hk:0≤(d.bk.length:Int)-fl)(qb: -2147483648≤b∧b≤2147483647)(qc: -2147483648≤c∧c≤2147483647):Con Tryz.prog 115 [.obj (aw d),.int .i64 4,.int .i64 fl] [.obj (aw (ap TX 4 d r a b c).1),.undef,.undef] (.int .i64 (ap TX 4 d r a b c).2):=by
 have kt:Con Tryz.prog 148 [.int .i64 4] (aa [.int .i64 4]) (.int .i64 2):=c148 4 (by unfold cp;omega)
 have kk:Con Tryz.prog 149 [.int .i64 4] (aa [.int .i64 4]) (.int .i64 0):=c149 4 (by unfold cp;omega)
 have hst:=h.st
 have hl:d.st.length=r.length+2:=by rw[hs];simp
 have g0:decide ((((d.st.map aj).length:Nat):Int)<2)=false:=by rw[List.length_map];exact decide_eq_false (by omega)
 have wf:IntKind.i64.wrap ((((d.bk.map aj).length:Nat):Int)-fl)=(d.bk.length:Int)-fl:=by rw[List.length_map];exact ai (by omega) (by omega)
 have g1:decide (IntKind.i64.wrap ((((d.bk.map aj).length:Nat):Int)-fl)<0)=false:=by rw[wf];exact decide_eq_false (by omega)
 have w2:IntKind.i64.wrap ((((d.st.map aj).length:Nat):Int)-2)=(r.length:Int):=by rw[List.length_map,ai (by omega) (by omega)];omega
 have er:List.take ((IntKind.i64.wrap ((((d.st.map aj).length:Nat):Int)-2)).toNat-0) (List.drop (0+0) d.st)=r:=by rw[w2,hs];simp
 have k1:=c151 {d with st:=List.take ((IntKind.i64.wrap ((((d.st.map aj).length:Nat):Int)-2)).toNat-0) (List.drop (0+0) d.st)} [b,c,b] (by rw[er];simp only;omega) (by simp)
 rw[←er]
 rw[show ap TX 4 d (List.take ((IntKind.i64.wrap ((((d.st.map aj).length:Nat):Int)-2)).toNat-0) (List.drop (0+0) d.st)) a b c=dA {d with st:=List.take ((IntKind.i64.wrap ((((d.st.map aj).length:Nat):Int)-2)).toNat-0) (List.drop (0+0) d.st)} [b,c,b]from rfl]
 refine rp 242 Tryz.func115 [.tmp 6] (g:= ?_)
 conv=>whnf
 (iterate 115 ((first|refine ac (by solve|simp only[bc]|fail) ?_|apply ac rfl|refine ac (by rw[w2];first|exact decide_eq_true (by omega)|(rw[List.length_map];first|exact decide_eq_true (by omega)|(simp;omega))) ?_|refine aD (by(rfl)) ?_|refine ag (by(exact(show _=z3 from rfl))) ?_|refine ag (by(exact zj hs w2)) ?_|refine aG (fun hf=> ?_)|refine ChkS.mk (by kernel_rfl) ?_|refine aK (by assumption) ?_|apply aH|refine ah (kt ..) ?_|refine ah (kk ..) ?_);conv=>whnf));(iterate 12 ((first|refine ac (by solve|simp only[bc]|fail) ?_|apply ac rfl|apply bH rfl|apply aK rfl|refine ay 151 [some 6,none] ?_|refine ah (c95 ..) ?_);conv=>whnf));(focus (apply bj (f:=151);(· repeat' (first|(refine al ?_;simp[bc];done)|exact aW _ _ _ _|apply aY|apply bO|apply bC|apply bz|apply cm|apply cB|apply bM|rfl));refine bx (f:=151) rfl (k1 ..) ?_;conv=>whnf));iterate 8 (first|(apply ac rfl;(conv=>whnf))|(refine ag (al (by solve|simp[bc]|fail)) ?_;(conv=>whnf))|(refine aG (fun hf=> ?_);(conv=>whnf))|(refine aq (by rfl) ?_;(conv=>whnf))|(exact True.intro))
 all_goals skip
theorem Gd(d:Dat)(r:List Int)(a b c:Int)(fl:Int)(h:Dk d)(hs:d.st=r++[b,c])(hb0:d.bk.length≤32)(hf:0≤fl∧fl≤d.bk.length)(hk:0≤(d.bk.length:Int)-fl)(qb: -2147483648≤b∧b≤2147483647)(qc: -2147483648≤c∧c≤2147483647):Con Tryz.prog 115 [.obj (aw d),.int .i64 6,.int .i64 fl] [.obj (aw (ap TX 6 d r a b c).1),.undef,.undef] (.int .i64 (ap TX 6 d r a b c).2):=by
 have kt:Con Tryz.prog 148 [.int .i64 6] (aa [.int .i64 6]) (.int .i64 2):=c148 6 (by unfold cp;omega)
 have kk:Con Tryz.prog 149 [.int .i64 6] (aa [.int .i64 6]) (.int .i64 0):=c149 6 (by unfold cp;omega)
 have hst:=h.st
 have hl:d.st.length=r.length+2:=by rw[hs];simp
 have g0:decide ((((d.st.map aj).length:Nat):Int)<2)=false:=by rw[List.length_map];exact decide_eq_false (by omega)
 have wf:IntKind.i64.wrap ((((d.bk.map aj).length:Nat):Int)-fl)=(d.bk.length:Int)-fl:=by rw[List.length_map];exact ai (by omega) (by omega)
 have g1:decide (IntKind.i64.wrap ((((d.bk.map aj).length:Nat):Int)-fl)<0)=false:=by rw[wf];exact decide_eq_false (by omega)
 have w2:IntKind.i64.wrap ((((d.st.map aj).length:Nat):Int)-2)=(r.length:Int):=by rw[List.length_map,ai (by omega) (by omega)];omega
 have er:List.take ((IntKind.i64.wrap ((((d.st.map aj).length:Nat):Int)-2)).toNat-0) (List.drop (0+0) d.st)=r:=by rw[w2,hs];simp
 have k1:=c151 {d with st:=List.take ((IntKind.i64.wrap ((((d.st.map aj).length:Nat):Int)-2)).toNat-0) (List.drop (0+0) d.st)} [c] (by rw[er];simp only;omega) (by simp)
 rw[←er]
 rw[show ap TX 6 d (List.take ((IntKind.i64.wrap ((((d.st.map aj).length:Nat):Int)-2)).toNat-0) (List.drop (0+0) d.st)) a b c=dA {d with st:=List.take ((IntKind.i64.wrap ((((d.st.map aj).length:Nat):Int)-2)).toNat-0) (List.drop (0+0) d.st)} [c]from rfl]
 refine rp 242 Tryz.func115 [.tmp 6] (g:= ?_)
 conv=>whnf
 (iterate 115 ((first|refine ac (by solve|simp only[bc]|fail) ?_|apply ac rfl|refine ac (by rw[w2];first|exact decide_eq_true (by omega)|(rw[List.length_map];first|exact decide_eq_true (by omega)|(simp;omega))) ?_|refine aD (by(rfl)) ?_|refine ag (by(exact(show _=z3 from rfl))) ?_|refine ag (by(exact zj hs w2)) ?_|refine aG (fun hf=> ?_)|refine ChkS.mk (by kernel_rfl) ?_|refine aK (by assumption) ?_|apply aH|refine ah (kt ..) ?_|refine ah (kk ..) ?_);conv=>whnf));(iterate 14 ((first|refine ac (by solve|simp only[bc]|fail) ?_|apply ac rfl|apply bH rfl|apply aK rfl|refine ay 151 [some 6,none] ?_|refine ah (c95 ..) ?_);conv=>whnf));(focus (apply bj (f:=151);(· repeat' (first|(refine al ?_;simp[bc];done)|exact aW _ _ _ _|apply aY|apply bO|apply bC|apply bz|apply cm|apply cB|apply bM|rfl));refine bx (f:=151) rfl (k1 ..) ?_;conv=>whnf));iterate 8 (first|(apply ac rfl;(conv=>whnf))|(refine ag (al (by solve|simp[bc]|fail)) ?_;(conv=>whnf))|(refine aG (fun hf=> ?_);(conv=>whnf))|(refine aq (by rfl) ?_;(conv=>whnf))|(exact True.intro))
 all_goals skip
theorem Gu(d:Dat)(r:List Int)(a b c:Int)(fl:Int)(h:Dk d)(hs:d.st=r++[b,c])(hb0:d.bk.length≤32)(hf:0≤fl∧fl≤d.bk.length)(hk:0≤(d.bk.length:Int)-fl)(qb: -2147483648≤b∧b≤2147483647)(qc: -2147483648≤c∧c≤2147483647):Con Tryz.prog 115 [.obj (aw d),.int .i64 7,.int .i64 fl] [.obj (aw (ap TX 7 d r a b c).1),.undef,.undef] (.int .i64 (ap TX 7 d r a b c).2):=by
 have kt:Con Tryz.prog 148 [.int .i64 7] (aa [.int .i64 7]) (.int .i64 2):=c148 7 (by unfold cp;omega)
 have kk:Con Tryz.prog 149 [.int .i64 7] (aa [.int .i64 7]) (.int .i64 0):=c149 7 (by unfold cp;omega)
 have hst:=h.st
 have hl:d.st.length=r.length+2:=by rw[hs];simp
 have g0:decide ((((d.st.map aj).length:Nat):Int)<2)=false:=by rw[List.length_map];exact decide_eq_false (by omega)
 have wf:IntKind.i64.wrap ((((d.bk.map aj).length:Nat):Int)-fl)=(d.bk.length:Int)-fl:=by rw[List.length_map];exact ai (by omega) (by omega)
 have g1:decide (IntKind.i64.wrap ((((d.bk.map aj).length:Nat):Int)-fl)<0)=false:=by rw[wf];exact decide_eq_false (by omega)
 have w2:IntKind.i64.wrap ((((d.st.map aj).length:Nat):Int)-2)=(r.length:Int):=by rw[List.length_map,ai (by omega) (by omega)];omega
 have er:List.take ((IntKind.i64.wrap ((((d.st.map aj).length:Nat):Int)-2)).toNat-0) (List.drop (0+0) d.st)=r:=by rw[w2,hs];simp
 have k1:=c151 {d with st:=List.take ((IntKind.i64.wrap ((((d.st.map aj).length:Nat):Int)-2)).toNat-0) (List.drop (0+0) d.st)} [c,b,c] (by rw[er];simp only;omega) (by simp)
 rw[←er]
 rw[show ap TX 7 d (List.take ((IntKind.i64.wrap ((((d.st.map aj).length:Nat):Int)-2)).toNat-0) (List.drop (0+0) d.st)) a b c=dA {d with st:=List.take ((IntKind.i64.wrap ((((d.st.map aj).length:Nat):Int)-2)).toNat-0) (List.drop (0+0) d.st)} [c,b,c]from rfl]
 refine rp 242 Tryz.func115 [.tmp 6] (g:= ?_)
 conv=>whnf
 (iterate 115 ((first|refine ac (by solve|simp only[bc]|fail) ?_|apply ac rfl|refine ac (by rw[w2];first|exact decide_eq_true (by omega)|(rw[List.length_map];first|exact decide_eq_true (by omega)|(simp;omega))) ?_|refine aD (by(rfl)) ?_|refine ag (by(exact(show _=z3 from rfl))) ?_|refine ag (by(exact zj hs w2)) ?_|refine aG (fun hf=> ?_)|refine ChkS.mk (by kernel_rfl) ?_|refine aK (by assumption) ?_|apply aH|refine ah (kt ..) ?_|refine ah (kk ..) ?_);conv=>whnf));(iterate 15 ((first|refine ac (by solve|simp only[bc]|fail) ?_|apply ac rfl|apply bH rfl|apply aK rfl|refine ay 151 [some 6,none] ?_|refine ah (c95 ..) ?_);conv=>whnf));(focus (apply bj (f:=151);(· repeat' (first|(refine al ?_;simp[bc];done)|exact aW _ _ _ _|apply aY|apply bO|apply bC|apply bz|apply cm|apply cB|apply bM|rfl));refine bx (f:=151) rfl (k1 ..) ?_;conv=>whnf));iterate 8 (first|(apply ac rfl;(conv=>whnf))|(refine ag (al (by solve|simp[bc]|fail)) ?_;(conv=>whnf))|(refine aG (fun hf=> ?_);(conv=>whnf))|(refine aq (by rfl) ?_;(conv=>whnf))|(exact True.intro))
 all_goals skip
theorem Gg(d:Dat)(r:List Int)(a b c:Int)(fl:Int)(h:Dk d)(hs:d.st=r++[b,c])(hb0:d.bk.length≤32)(hf:0≤fl∧fl≤d.bk.length)(hk:0≤(d.bk.length:Int)-fl)(qb: -2147483648≤b∧b≤2147483647)(qc: -2147483648≤c∧c≤2147483647):Con Tryz.prog 115 [.obj (aw d),.int .i64 9,.int .i64 fl] [.obj (aw (ap TX 9 d r a b c).1),.undef,.undef] (.int .i64 (ap TX 9 d r a b c).2):=by
 have kt:Con Tryz.prog 148 [.int .i64 9] (aa [.int .i64 9]) (.int .i64 2):=c148 9 (by unfold cp;omega)
 have kk:Con Tryz.prog 149 [.int .i64 9] (aa [.int .i64 9]) (.int .i64 0):=c149 9 (by unfold cp;omega)
 have hst:=h.st
 have hl:d.st.length=r.length+2:=by rw[hs];simp
 have g0:decide ((((d.st.map aj).length:Nat):Int)<2)=false:=by rw[List.length_map];exact decide_eq_false (by omega)
 have wf:IntKind.i64.wrap ((((d.bk.map aj).length:Nat):Int)-fl)=(d.bk.length:Int)-fl:=by rw[List.length_map];exact ai (by omega) (by omega)
 have g1:decide (IntKind.i64.wrap ((((d.bk.map aj).length:Nat):Int)-fl)<0)=false:=by rw[wf];exact decide_eq_false (by omega)
 have w2:IntKind.i64.wrap ((((d.st.map aj).length:Nat):Int)-2)=(r.length:Int):=by rw[List.length_map,ai (by omega) (by omega)];omega
 have er:List.take ((IntKind.i64.wrap ((((d.st.map aj).length:Nat):Int)-2)).toNat-0) (List.drop (0+0) d.st)=r:=by rw[w2,hs];simp
 have k1:=c151 {d with st:=List.take ((IntKind.i64.wrap ((((d.st.map aj).length:Nat):Int)-2)).toNat-0) (List.drop (0+0) d.st)} [b,c,b,c] (by rw[er];simp only;omega) (by simp)
 rw[←er]
 rw[show ap TX 9 d (List.take ((IntKind.i64.wrap ((((d.st.map aj).length:Nat):Int)-2)).toNat-0) (List.drop (0+0) d.st)) a b c=dA {d with st:=List.take ((IntKind.i64.wrap ((((d.st.map aj).length:Nat):Int)-2)).toNat-0) (List.drop (0+0) d.st)} [b,c,b,c]from rfl]
 refine rp 242 Tryz.func115 [.tmp 6] (g:= ?_)
 conv=>whnf
 (iterate 115 ((first|refine ac (by solve|simp only[bc]|fail) ?_|apply ac rfl|refine ac (by rw[w2];first|exact decide_eq_true (by omega)|(rw[List.length_map];first|exact decide_eq_true (by omega)|(simp;omega))) ?_|refine aD (by(rfl)) ?_|refine ag (by(exact(show _=z3 from rfl))) ?_|refine ag (by(exact zj hs w2)) ?_|refine aG (fun hf=> ?_)|refine ChkS.mk (by kernel_rfl) ?_|refine aK (by assumption) ?_|apply aH|refine ah (kt ..) ?_|refine ah (kk ..) ?_);conv=>whnf));(iterate 17 ((first|refine ac (by solve|simp only[bc]|fail) ?_|apply ac rfl|apply bH rfl|apply aK rfl|refine ay 151 [some 6,none] ?_|refine ah (c95 ..) ?_);conv=>whnf));(focus (apply bj (f:=151);(· repeat' (first|(refine al ?_;simp[bc];done)|exact aW _ _ _ _|apply aY|apply bO|apply bC|apply bz|apply cm|apply cB|apply bM|rfl));refine bx (f:=151) rfl (k1 ..) ?_;conv=>whnf));iterate 8 (first|(apply ac rfl;(conv=>whnf))|(refine ag (al (by solve|simp[bc]|fail)) ?_;(conv=>whnf))|(refine aG (fun hf=> ?_);(conv=>whnf))|(refine aq (by rfl) ?_;(conv=>whnf))|(exact True.intro))
 all_goals skip
theorem Ht(d:Dat)(r:List Int)(a b c:Int)(fl:Int)(h:Dk d)(hs:d.st=r++[a,b,c])(hb0:d.bk.length≤32)(hf:0≤fl∧fl≤d.bk.length)(hk:0≤(d.bk.length:Int)-fl)(qb: -2147483648≤b∧b≤2147483647)(qc: -2147483648≤c∧c≤2147483647):Con Tryz.prog 115 [.obj (aw d),.int .i64 5,.int .i64 fl] [.obj (aw (ap TX 5 d r a b c).1),.undef,.undef] (.int .i64 (ap TX 5 d r a b c).2):=by
 have kt:Con Tryz.prog 148 [.int .i64 5] (aa [.int .i64 5]) (.int .i64 3):=c148 5 (by unfold cp;omega)
 have kk:Con Tryz.prog 149 [.int .i64 5] (aa [.int .i64 5]) (.int .i64 0):=c149 5 (by unfold cp;omega)
 have hst:=h.st
 have hl:d.st.length=r.length+3:=by rw[hs];simp
 have g0:decide ((((d.st.map aj).length:Nat):Int)<3)=false:=by rw[List.length_map];exact decide_eq_false (by omega)
 have wf:IntKind.i64.wrap ((((d.bk.map aj).length:Nat):Int)-fl)=(d.bk.length:Int)-fl:=by rw[List.length_map];exact ai (by omega) (by omega)
 have g1:decide (IntKind.i64.wrap ((((d.bk.map aj).length:Nat):Int)-fl)<0)=false:=by rw[wf];exact decide_eq_false (by omega)
 have w2:IntKind.i64.wrap ((((d.st.map aj).length:Nat):Int)-3)=(r.length:Int):=by rw[List.length_map,ai (by omega) (by omega)];omega
 have er:List.take ((IntKind.i64.wrap ((((d.st.map aj).length:Nat):Int)-3)).toNat-0) (List.drop (0+0) d.st)=r:=by rw[w2,hs];simp
 have k1:=c151 {d with st:=List.take ((IntKind.i64.wrap ((((d.st.map aj).length:Nat):Int)-3)).toNat-0) (List.drop (0+0) d.st)} [b,c,a] (by rw[er];simp only;omega) (by simp)
 rw[←er]
 rw[show ap TX 5 d (List.take ((IntKind.i64.wrap ((((d.st.map aj).length:Nat):Int)-3)).toNat-0) (List.drop (0+0) d.st)) a b c=dA {d with st:=List.take ((IntKind.i64.wrap ((((d.st.map aj).length:Nat):Int)-3)).toNat-0) (List.drop (0+0) d.st)} [b,c,a]from rfl]
 refine rp 242 Tryz.func115 [.tmp 6] (g:= ?_)
 conv=>whnf
 (iterate 115 ((first|refine ac (by solve|simp only[bc]|fail) ?_|apply ac rfl|refine ac (by rw[w2];first|exact decide_eq_true (by omega)|(rw[List.length_map];first|exact decide_eq_true (by omega)|(simp;omega))) ?_|refine aD (by(rfl)) ?_|refine ag (by(exact(show _=z3 from rfl))) ?_|refine ag (by(exact GY hs w2)) ?_|refine aG (fun hf=> ?_)|refine ChkS.mk (by kernel_rfl) ?_|refine aK (by assumption) ?_|apply aH|refine ah (kt ..) ?_|refine ah (kk ..) ?_);conv=>whnf));(iterate 13 ((first|refine ac (by solve|simp only[bc]|fail) ?_|apply ac rfl|apply bH rfl|apply aK rfl|refine ay 151 [some 6,none] ?_|refine ah (c95 ..) ?_);conv=>whnf));(focus (apply bj (f:=151);(· repeat' (first|(refine al ?_;simp[bc];done)|exact aW _ _ _ _|apply aY|apply bO|apply bC|apply bz|apply cm|apply cB|apply bM|rfl));refine bx (f:=151) rfl (k1 ..) ?_;conv=>whnf));iterate 8 (first|(apply ac rfl;(conv=>whnf))|(refine ag (al (by solve|simp[bc]|fail)) ?_;(conv=>whnf))|(refine aG (fun hf=> ?_);(conv=>whnf))|(refine aq (by rfl) ?_;(conv=>whnf))|(exact True.intro))
 all_goals skip
theorem D0(d:Dat)(r:List Int)(a b c:Int)(fl:Int)(h:Dk d)(hs:d.st=r++[c])(hb0:d.bk.length≤32)(hf:0≤fl∧fl≤d.bk.length)(hk:0≤(d.bk.length:Int)-fl)(qb: -2147483648≤b∧b≤2147483647)(qc: -2147483648≤c∧c≤2147483647)(h0:c=0):Con Tryz.prog 115 [.obj (aw d),.int .i64 8,.int .i64 fl] [.obj (aw (ap TX 8 d r a b c).1),.undef,.undef] (.int .i64 (ap TX 8 d r a b c).2):=by
 have kt:Con Tryz.prog 148 [.int .i64 8] (aa [.int .i64 8]) (.int .i64 1):=c148 8 (by unfold cp;omega)
 have kk:Con Tryz.prog 149 [.int .i64 8] (aa [.int .i64 8]) (.int .i64 0):=c149 8 (by unfold cp;omega)
 have hst:=h.st
 have hl:d.st.length=r.length+1:=by rw[hs];simp
 have g0:decide ((((d.st.map aj).length:Nat):Int)<1)=false:=by rw[List.length_map];exact decide_eq_false (by omega)
 have wf:IntKind.i64.wrap ((((d.bk.map aj).length:Nat):Int)-fl)=(d.bk.length:Int)-fl:=by rw[List.length_map];exact ai (by omega) (by omega)
 have g1:decide (IntKind.i64.wrap ((((d.bk.map aj).length:Nat):Int)-fl)<0)=false:=by rw[wf];exact decide_eq_false (by omega)
 have w2:IntKind.i64.wrap ((((d.st.map aj).length:Nat):Int)-1)=(r.length:Int):=by rw[List.length_map,ai (by omega) (by omega)];omega
 have er:List.take ((IntKind.i64.wrap ((((d.st.map aj).length:Nat):Int)-1)).toNat-0) (List.drop (0+0) d.st)=r:=by rw[w2,hs];simp
 have g5:(c==0)=true:=by simp[h0]
 have k1:=c151 {d with st:=List.take ((IntKind.i64.wrap ((((d.st.map aj).length:Nat):Int)-1)).toNat-0) (List.drop (0+0) d.st)} [0] (by rw[er];simp only;omega) (by simp)
 rw[←er]
 rw[show ap TX 8 d (List.take ((IntKind.i64.wrap ((((d.st.map aj).length:Nat):Int)-1)).toNat-0) (List.drop (0+0) d.st)) a b c=dA {d with st:=List.take ((IntKind.i64.wrap ((((d.st.map aj).length:Nat):Int)-1)).toNat-0) (List.drop (0+0) d.st)} [0]from by simp only[ap];rw[if_pos h0];rfl]
 refine rp 242 Tryz.func115 [.tmp 6] (g:= ?_)
 conv=>whnf
 (iterate 115 ((first|refine ac (by solve|simp only[bc]|fail) ?_|apply ac rfl|refine ac (by rw[w2];first|exact decide_eq_true (by omega)|(rw[List.length_map];first|exact decide_eq_true (by omega)|(simp;omega))) ?_|refine aD (by(rfl)) ?_|refine ag (by(exact(show _=z3 from rfl))) ?_|refine ag (by(exact Bn hs w2)) ?_|refine aG (fun hf=> ?_)|refine ChkS.mk (by kernel_rfl) ?_|refine aK (by assumption) ?_|apply aH|refine ah (kt ..) ?_|refine ah (kk ..) ?_);conv=>whnf));(iterate 17 ((first|refine ac (by solve|simp only[bc]|fail) ?_|apply ac rfl|apply bH rfl|apply aK rfl|refine bH (by assumption) ?_|refine ay 151 [some 6,none] ?_|refine ah (c95 ..) ?_);conv=>whnf));(focus (apply bj (f:=151);(· repeat' (first|(refine al ?_;simp[bc];done)|exact aW _ _ _ _|apply aY|apply bO|apply bC|apply bz|apply cm|apply cB|apply bM|rfl));refine bx (f:=151) rfl (k1 ..) ?_;conv=>whnf));iterate 8 (first|(apply ac rfl;(conv=>whnf))|(refine ag (al (by solve|simp[bc]|fail)) ?_;(conv=>whnf))|(refine aG (fun hf=> ?_);(conv=>whnf))|(refine aq (by rfl) ?_;(conv=>whnf))|(exact True.intro))
 all_goals skip
theorem FW(d:Dat)(r:List Int)(a b c:Int)(fl:Int)(h:Dk d)(hs:d.st=r++[c])(hb0:d.bk.length≤32)(hf:0≤fl∧fl≤d.bk.length)(hk:0≤(d.bk.length:Int)-fl)(qb: -2147483648≤b∧b≤2147483647)(qc: -2147483648≤c∧c≤2147483647)(h0: ¬c=0):Con Tryz.prog 115 [.obj (aw d),.int .i64 8,.int .i64 fl] [.obj (aw (ap TX 8 d r a b c).1),.undef,.undef] (.int .i64 (ap TX 8 d r a b c).2):=by
 have kt:Con Tryz.prog 148 [.int .i64 8] (aa [.int .i64 8]) (.int .i64 1):=c148 8 (by unfold cp;omega)
 have kk:Con Tryz.prog 149 [.int .i64 8] (aa [.int .i64 8]) (.int .i64 0):=c149 8 (by unfold cp;omega)
 have hst:=h.st
 have hl:d.st.length=r.length+1:=by rw[hs];simp
 have g0:decide ((((d.st.map aj).length:Nat):Int)<1)=false:=by rw[List.length_map];exact decide_eq_false (by omega)
 have wf:IntKind.i64.wrap ((((d.bk.map aj).length:Nat):Int)-fl)=(d.bk.length:Int)-fl:=by rw[List.length_map];exact ai (by omega) (by omega)
 have g1:decide (IntKind.i64.wrap ((((d.bk.map aj).length:Nat):Int)-fl)<0)=false:=by rw[wf];exact decide_eq_false (by omega)
 have w2:IntKind.i64.wrap ((((d.st.map aj).length:Nat):Int)-1)=(r.length:Int):=by rw[List.length_map,ai (by omega) (by omega)];omega
 have er:List.take ((IntKind.i64.wrap ((((d.st.map aj).length:Nat):Int)-1)).toNat-0) (List.drop (0+0) d.st)=r:=by rw[w2,hs];simp
 have g5:(c==0)=false:=by simp[h0]
 have k1:=c151 {d with st:=List.take ((IntKind.i64.wrap ((((d.st.map aj).length:Nat):Int)-1)).toNat-0) (List.drop (0+0) d.st)} [c,c] (by rw[er];simp only;omega) (by simp)
 rw[←er]
 rw[show ap TX 8 d (List.take ((IntKind.i64.wrap ((((d.st.map aj).length:Nat):Int)-1)).toNat-0) (List.drop (0+0) d.st)) a b c=dA {d with st:=List.take ((IntKind.i64.wrap ((((d.st.map aj).length:Nat):Int)-1)).toNat-0) (List.drop (0+0) d.st)} [c,c]from by simp only[ap];rw[if_neg h0];rfl]
 refine rp 242 Tryz.func115 [.tmp 6] (g:= ?_)
 conv=>whnf
 (iterate 115 ((first|refine ac (by solve|simp only[bc]|fail) ?_|apply ac rfl|refine ac (by rw[w2];first|exact decide_eq_true (by omega)|(rw[List.length_map];first|exact decide_eq_true (by omega)|(simp;omega))) ?_|refine aD (by(rfl)) ?_|refine ag (by(exact(show _=z3 from rfl))) ?_|refine ag (by(exact Bn hs w2)) ?_|refine aG (fun hf=> ?_)|refine ChkS.mk (by kernel_rfl) ?_|refine aK (by assumption) ?_|apply aH|refine ah (kt ..) ?_|refine ah (kk ..) ?_);conv=>whnf));(iterate 17 ((first|refine ac (by solve|simp only[bc]|fail) ?_|apply ac rfl|apply bH rfl|apply aK rfl|refine aK (by assumption) ?_|refine ay 151 [some 6,none] ?_|refine ah (c95 ..) ?_);conv=>whnf));(focus (apply bj (f:=151);(· repeat' (first|(refine al ?_;simp[bc];done)|exact aW _ _ _ _|apply aY|apply bO|apply bC|apply bz|apply cm|apply cB|apply bM|rfl));refine bx (f:=151) rfl (k1 ..) ?_;conv=>whnf));iterate 8 (first|(apply ac rfl;(conv=>whnf))|(refine ag (al (by solve|simp[bc]|fail)) ?_;(conv=>whnf))|(refine aG (fun hf=> ?_);(conv=>whnf))|(refine aq (by rfl) ?_;(conv=>whnf))|(exact True.intro))
 all_goals skip
end P5

/- Prims that sum, in place, by the program; contracts. -/
set_option maxRecDepth 100000 set_option maxHeartbeats 4000000
open Go Go.Abs Go.Proofs V1 H1 F1 F2 T1 T2 T3 P1 P2 P3 P4 P5
namespace P6
theorem fX(p:Nat)(hp:15≤p∧p≤24)(et:bE p=2)(eb:dU p=0)(d:Dat)(r:List Int)(b:Int)(c:Int)(fl:Int)(h:Dk d)(hs:d.st=r++[b,c])(hb0:d.bk.length≤32)(hf:0≤fl∧fl≤d.bk.length)(v:Int)(k2:Con Tryz.prog 150 [.int .i64 (IntKind.i64.wrap (IntKind.i64.wrap ((p:Int)-15)+1)),.int .i64 b,.int .i64 c] (aa [.int .i64 (IntKind.i64.wrap (IntKind.i64.wrap ((p:Int)-15)+1)),.int .i64 b,.int .i64 c]) (.tup [.int .i64 v,.bool true])):Con Tryz.prog 115 [.obj (aw d),.int .i64 p,.int .i64 fl] [.obj (aw (dA {d with st:=r} [v]).1),.undef,.undef] (.int .i64 (dA {d with st:=r} [v]).2):=by
 have kt:Con Tryz.prog 148 [.int .i64 p] (aa [.int .i64 p]) (.int .i64 2):=by
  have k:=c148 p (by unfold cp;omega)
  rw[et]at k;exact k
 have kk:Con Tryz.prog 149 [.int .i64 p] (aa [.int .i64 p]) (.int .i64 0):=by
  have k:=c149 p (by unfold cp;omega)
  rw[eb]at k;exact k
 have hst:=h.st
 have hl:d.st.length=r.length+2:=by rw[hs];simp
 have g0:decide ((((d.st.map aj).length:Nat):Int)<2)=false:=by rw[List.length_map];exact decide_eq_false (by omega)
 have wf:IntKind.i64.wrap ((((d.bk.map aj).length:Nat):Int)-fl)=(d.bk.length:Int)-fl:=by rw[List.length_map];exact ai (by omega) (by omega)
 have g1:decide (IntKind.i64.wrap ((((d.bk.map aj).length:Nat):Int)-fl)<0)=false:=by rw[wf];exact decide_eq_false (by omega)
 have w2:IntKind.i64.wrap ((((d.st.map aj).length:Nat):Int)-2)=(r.length:Int):=by rw[List.length_map,ai (by omega) (by omega)];omega
 have er:List.take ((IntKind.i64.wrap ((((d.st.map aj).length:Nat):Int)-2)).toNat-0) (List.drop (0+0) d.st)=r:=by rw[w2,hs];simp
 have q0:bh (p:Int) 15 24=true:=by simp[bh];omega
 have k1:=c151 {d with st:=List.take ((IntKind.i64.wrap ((((d.st.map aj).length:Nat):Int)-2)).toNat-0) (List.drop (0+0) d.st)} [v] (by rw[er];simp only;omega) (by simp)
 rw[←er]
 refine rp 242 Tryz.func115 [.tmp 6] (g:= ?_)
 conv=>whnf
 refine aP ?_
 (refine ay 151 [some 6,none] ?_;conv=>whnf)
 refine aP ?_
 (refine eH (k1 ..) ?_;conv=>whnf)
 exact go
 all_goals skip
theorem uR(p:Nat)(hp:15≤p∧p≤24)(et:bE p=2)(eb:dU p=0)(d:Dat)(r:List Int)(b:Int)(c:Int)(fl:Int)(h:Dk d)(hs:d.st=r++[b,c])(hb0:d.bk.length≤32)(hf:0≤fl∧fl≤d.bk.length)(v:Int)(k2:Con Tryz.prog 150 [.int .i64 (IntKind.i64.wrap (IntKind.i64.wrap ((p:Int)-15)+1)),.int .i64 b,.int .i64 c] (aa [.int .i64 (IntKind.i64.wrap (IntKind.i64.wrap ((p:Int)-15)+1)),.int .i64 b,.int .i64 c]) (.tup [.int .i64 v,.bool false])):Con Tryz.prog 115 [.obj (aw d),.int .i64 p,.int .i64 fl] [.obj (aw ((({d with st:=r},-10):Dat × Int)).1),.undef,.undef] (.int .i64 ((({d with st:=r},-10):Dat × Int)).2):=by
 have kt:Con Tryz.prog 148 [.int .i64 p] (aa [.int .i64 p]) (.int .i64 2):=by
  have k:=c148 p (by unfold cp;omega)
  rw[et]at k;exact k
 have kk:Con Tryz.prog 149 [.int .i64 p] (aa [.int .i64 p]) (.int .i64 0):=by
  have k:=c149 p (by unfold cp;omega)
  rw[eb]at k;exact k
 have hst:=h.st
 have hl:d.st.length=r.length+2:=by rw[hs];simp
 have g0:decide ((((d.st.map aj).length:Nat):Int)<2)=false:=by rw[List.length_map];exact decide_eq_false (by omega)
 have wf:IntKind.i64.wrap ((((d.bk.map aj).length:Nat):Int)-fl)=(d.bk.length:Int)-fl:=by rw[List.length_map];exact ai (by omega) (by omega)
 have g1:decide (IntKind.i64.wrap ((((d.bk.map aj).length:Nat):Int)-fl)<0)=false:=by rw[wf];exact decide_eq_false (by omega)
 have w2:IntKind.i64.wrap ((((d.st.map aj).length:Nat):Int)-2)=(r.length:Int):=by rw[List.length_map,ai (by omega) (by omega)];omega
 have er:List.take ((IntKind.i64.wrap ((((d.st.map aj).length:Nat):Int)-2)).toNat-0) (List.drop (0+0) d.st)=r:=by rw[w2,hs];simp
 have q0:bh (p:Int) 15 24=true:=by simp[bh];omega
 rw[←er]
 exact rp 242 Tryz.func115 [.tmp 6] (g:=go)
 all_goals skip
theorem mz(p:Nat)(hp:25≤p∧p≤38)(et:bE p=1)(eb:dU p=0)(d:Dat)(r:List Int)(c:Int)(fl:Int)(h:Dk d)(hs:d.st=r++[c])(hb0:d.bk.length≤32)(hf:0≤fl∧fl≤d.bk.length)(v:Int)(k2:Con Tryz.prog 153 [.int .i64 p,.int .i64 0,.int .i64 c] (aa [.int .i64 p,.int .i64 0,.int .i64 c]) (.int .i64 v)):Con Tryz.prog 115 [.obj (aw d),.int .i64 p,.int .i64 fl] [.obj (aw (dA {d with st:=r} [v]).1),.undef,.undef] (.int .i64 (dA {d with st:=r} [v]).2):=by
 have kt:Con Tryz.prog 148 [.int .i64 p] (aa [.int .i64 p]) (.int .i64 1):=by
  have k:=c148 p (by unfold cp;omega)
  rw[et]at k;exact k
 have kk:Con Tryz.prog 149 [.int .i64 p] (aa [.int .i64 p]) (.int .i64 0):=by
  have k:=c149 p (by unfold cp;omega)
  rw[eb]at k;exact k
 have hst:=h.st
 have hl:d.st.length=r.length+1:=by rw[hs];simp
 have g0:decide ((((d.st.map aj).length:Nat):Int)<1)=false:=by rw[List.length_map];exact decide_eq_false (by omega)
 have wf:IntKind.i64.wrap ((((d.bk.map aj).length:Nat):Int)-fl)=(d.bk.length:Int)-fl:=by rw[List.length_map];exact ai (by omega) (by omega)
 have g1:decide (IntKind.i64.wrap ((((d.bk.map aj).length:Nat):Int)-fl)<0)=false:=by rw[wf];exact decide_eq_false (by omega)
 have w2:IntKind.i64.wrap ((((d.st.map aj).length:Nat):Int)-1)=(r.length:Int):=by rw[List.length_map,ai (by omega) (by omega)];omega
 have er:List.take ((IntKind.i64.wrap ((((d.st.map aj).length:Nat):Int)-1)).toNat-0) (List.drop (0+0) d.st)=r:=by rw[w2,hs];simp
 have q0:bh (p:Int) 15 24=false:=by simp[bh];omega
 have q1:((p:Int)==1)=false:=by simp;omega
 have q2:((p:Int)==2)=false:=by simp;omega
 have q3:((p:Int)==10)=false:=by simp;omega
 have q4:((p:Int)==3)=false:=by simp;omega
 have q5:((p:Int)==4)=false:=by simp;omega
 have q6:((p:Int)==5)=false:=by simp;omega
 have q7:((p:Int)==6)=false:=by simp;omega
 have q8:((p:Int)==7)=false:=by simp;omega
 have q9:((p:Int)==8)=false:=by simp;omega
 have q10:((p:Int)==9)=false:=by simp;omega
 have q11:((p:Int)==11)=false:=by simp;omega
 have q12:((p:Int)==12)=false:=by simp;omega
 have q13:((p:Int)==13)=false:=by simp;omega
 have q14:((p:Int)==14)=false:=by simp;omega
 have q15:((p:Int)==51)=false:=by simp;omega
 have q16:((p:Int)==52)=false:=by simp;omega
 have q17:bh (p:Int) 25 38=true:=by simp[bh];omega
 have k1:=c151 {d with st:=List.take ((IntKind.i64.wrap ((((d.st.map aj).length:Nat):Int)-1)).toNat-0) (List.drop (0+0) d.st)} [v] (by rw[er];simp only;omega) (by simp)
 rw[←er]
 refine rp 242 Tryz.func115 [.tmp 6] (g:= ?_)
 conv=>whnf
 refine aP ?_
 (refine ay 151 [some 6,none] ?_;conv=>whnf)
 refine aP ?_
 (refine eH (k1 ..) ?_;conv=>whnf)
 exact go
 all_goals skip
theorem ml(p:Nat)(hp:25≤p∧p≤38)(et:bE p=2)(eb:dU p=0)(d:Dat)(r:List Int)(b:Int)(c:Int)(fl:Int)(h:Dk d)(hs:d.st=r++[b,c])(hb0:d.bk.length≤32)(hf:0≤fl∧fl≤d.bk.length)(v:Int)(k2:Con Tryz.prog 153 [.int .i64 p,.int .i64 b,.int .i64 c] (aa [.int .i64 p,.int .i64 b,.int .i64 c]) (.int .i64 v)):Con Tryz.prog 115 [.obj (aw d),.int .i64 p,.int .i64 fl] [.obj (aw (dA {d with st:=r} [v]).1),.undef,.undef] (.int .i64 (dA {d with st:=r} [v]).2):=by
 have kt:Con Tryz.prog 148 [.int .i64 p] (aa [.int .i64 p]) (.int .i64 2):=by
  have k:=c148 p (by unfold cp;omega)
  rw[et]at k;exact k
 have kk:Con Tryz.prog 149 [.int .i64 p] (aa [.int .i64 p]) (.int .i64 0):=by
  have k:=c149 p (by unfold cp;omega)
  rw[eb]at k;exact k
 have hst:=h.st
 have hl:d.st.length=r.length+2:=by rw[hs];simp
 have g0:decide ((((d.st.map aj).length:Nat):Int)<2)=false:=by rw[List.length_map];exact decide_eq_false (by omega)
 have wf:IntKind.i64.wrap ((((d.bk.map aj).length:Nat):Int)-fl)=(d.bk.length:Int)-fl:=by rw[List.length_map];exact ai (by omega) (by omega)
 have g1:decide (IntKind.i64.wrap ((((d.bk.map aj).length:Nat):Int)-fl)<0)=false:=by rw[wf];exact decide_eq_false (by omega)
 have w2:IntKind.i64.wrap ((((d.st.map aj).length:Nat):Int)-2)=(r.length:Int):=by rw[List.length_map,ai (by omega) (by omega)];omega
 have er:List.take ((IntKind.i64.wrap ((((d.st.map aj).length:Nat):Int)-2)).toNat-0) (List.drop (0+0) d.st)=r:=by rw[w2,hs];simp
 have q0:bh (p:Int) 15 24=false:=by simp[bh];omega
 have q1:((p:Int)==1)=false:=by simp;omega
 have q2:((p:Int)==2)=false:=by simp;omega
 have q3:((p:Int)==10)=false:=by simp;omega
 have q4:((p:Int)==3)=false:=by simp;omega
 have q5:((p:Int)==4)=false:=by simp;omega
 have q6:((p:Int)==5)=false:=by simp;omega
 have q7:((p:Int)==6)=false:=by simp;omega
 have q8:((p:Int)==7)=false:=by simp;omega
 have q9:((p:Int)==8)=false:=by simp;omega
 have q10:((p:Int)==9)=false:=by simp;omega
 have q11:((p:Int)==11)=false:=by simp;omega
 have q12:((p:Int)==12)=false:=by simp;omega
 have q13:((p:Int)==13)=false:=by simp;omega
 have q14:((p:Int)==14)=false:=by simp;omega
 have q15:((p:Int)==51)=false:=by simp;omega
 have q16:((p:Int)==52)=false:=by simp;omega
 have q17:bh (p:Int) 25 38=true:=by simp[bh];omega
 have k1:=c151 {d with st:=List.take ((IntKind.i64.wrap ((((d.st.map aj).length:Nat):Int)-2)).toNat-0) (List.drop (0+0) d.st)} [v] (by rw[er];simp only;omega) (by simp)
 rw[←er]
 refine rp 242 Tryz.func115 [.tmp 6] (g:= ?_)
 conv=>whnf
 refine aP ?_
 (refine ay 151 [some 6,none] ?_;conv=>whnf)
 refine aP ?_
 (refine eH (k1 ..) ?_;conv=>whnf)
 exact go
 all_goals skip
theorem Ew(d:Dat)(r:List Int)(a b c:Int)(fl:Int)(h:Dk d)(hs:d.st=r++[b,c])(hb0:d.bk.length≤32)(hf:0≤fl∧fl≤d.bk.length)(hk:0≤(d.bk.length:Int)-fl)(qb: -2147483648≤b∧b≤2147483647)(qc: -2147483648≤c∧c≤2147483647):Con Tryz.prog 115 [.obj (aw d),.int .i64 15,.int .i64 fl] [.obj (aw (ap TX 15 d r a b c).1),.undef,.undef] (.int .i64 (ap TX 15 d r a b c).2):=by
 have hcb:cell b=true:=by simp[cell,bh];omega
 have hcc:cell c=true:=by simp[cell,bh];omega
 exact fX 15 (by omega) rfl rfl d r b c fl h hs hb0 hf (bU 1 b c).1 (Ji b c hcb hcc)
theorem Ep(d:Dat)(r:List Int)(a b c:Int)(fl:Int)(h:Dk d)(hs:d.st=r++[b,c])(hb0:d.bk.length≤32)(hf:0≤fl∧fl≤d.bk.length)(hk:0≤(d.bk.length:Int)-fl)(qb: -2147483648≤b∧b≤2147483647)(qc: -2147483648≤c∧c≤2147483647):Con Tryz.prog 115 [.obj (aw d),.int .i64 16,.int .i64 fl] [.obj (aw (ap TX 16 d r a b c).1),.undef,.undef] (.int .i64 (ap TX 16 d r a b c).2):=by
 have hcb:cell b=true:=by simp[cell,bh];omega
 have hcc:cell c=true:=by simp[cell,bh];omega
 exact fX 16 (by omega) rfl rfl d r b c fl h hs hb0 hf (bU 2 b c).1 (I0 b c hcb hcc)
theorem EQ(d:Dat)(r:List Int)(a b c:Int)(fl:Int)(h:Dk d)(hs:d.st=r++[b,c])(hb0:d.bk.length≤32)(hf:0≤fl∧fl≤d.bk.length)(hk:0≤(d.bk.length:Int)-fl)(qb: -2147483648≤b∧b≤2147483647)(qc: -2147483648≤c∧c≤2147483647):Con Tryz.prog 115 [.obj (aw d),.int .i64 17,.int .i64 fl] [.obj (aw (ap TX 17 d r a b c).1),.undef,.undef] (.int .i64 (ap TX 17 d r a b c).2):=by
 have hcb:cell b=true:=by simp[cell,bh];omega
 have hcc:cell c=true:=by simp[cell,bh];omega
 exact fX 17 (by omega) rfl rfl d r b c fl h hs hb0 hf (bU 3 b c).1 (II b c hcb hcc)
theorem B3(d:Dat)(r:List Int)(a b c:Int)(fl:Int)(h:Dk d)(hs:d.st=r++[b,c])(hb0:d.bk.length≤32)(hf:0≤fl∧fl≤d.bk.length)(hk:0≤(d.bk.length:Int)-fl)(qb: -2147483648≤b∧b≤2147483647)(qc: -2147483648≤c∧c≤2147483647)(h0: ¬c=0):Con Tryz.prog 115 [.obj (aw d),.int .i64 18,.int .i64 fl] [.obj (aw (ap TX 18 d r a b c).1),.undef,.undef] (.int .i64 (ap TX 18 d r a b c).2):=by
 have hcb:cell b=true:=by simp[cell,bh];omega
 have hcc:cell c=true:=by simp[cell,bh];omega
 have k2:=F9 b c hcb hcc
 rw[F4 h0]at k2
 rw[show ap TX 18 d r a b c=dA {d with st:=r} [wc (cn b c)] by show(match gc 4 b c with|none=>_|some v=>_)=_;rw[show gc 4 b c=some (wc (cn b c))from if_neg h0];rfl]
 exact fX 18 (by omega) rfl rfl d r b c fl h hs hb0 hf _ k2
theorem CI(d:Dat)(r:List Int)(a b c:Int)(fl:Int)(h:Dk d)(hs:d.st=r++[b,c])(hb0:d.bk.length≤32)(hf:0≤fl∧fl≤d.bk.length)(hk:0≤(d.bk.length:Int)-fl)(qb: -2147483648≤b∧b≤2147483647)(qc: -2147483648≤c∧c≤2147483647)(h0:c=0):Con Tryz.prog 115 [.obj (aw d),.int .i64 18,.int .i64 fl] [.obj (aw (ap TX 18 d r a b c).1),.undef,.undef] (.int .i64 (ap TX 18 d r a b c).2):=by
 have hcb:cell b=true:=by simp[cell,bh];omega
 have hcc:cell c=true:=by simp[cell,bh];omega
 have k2:=F9 b c hcb hcc
 rw[(DG h0).1]at k2
 rw[show ap TX 18 d r a b c=({d with st:=r},-10) by show(match gc 4 b c with|none=>_|some v=>_)=_;rw[show gc 4 b c=none from if_pos h0]]
 exact uR 18 (by omega) rfl rfl d r b c fl h hs hb0 hf _ k2
theorem B4(d:Dat)(r:List Int)(a b c:Int)(fl:Int)(h:Dk d)(hs:d.st=r++[b,c])(hb0:d.bk.length≤32)(hf:0≤fl∧fl≤d.bk.length)(hk:0≤(d.bk.length:Int)-fl)(qb: -2147483648≤b∧b≤2147483647)(qc: -2147483648≤c∧c≤2147483647)(h0: ¬c=0):Con Tryz.prog 115 [.obj (aw d),.int .i64 19,.int .i64 fl] [.obj (aw (ap TX 19 d r a b c).1),.undef,.undef] (.int .i64 (ap TX 19 d r a b c).2):=by
 have hcb:cell b=true:=by simp[cell,bh];omega
 have hcc:cell c=true:=by simp[cell,bh];omega
 have k2:=Gc b c hcb hcc
 rw[FY h0]at k2
 rw[show ap TX 19 d r a b c=dA {d with st:=r} [b-cn b c*c] by show(match gc 5 b c with|none=>_|some v=>_)=_;rw[show gc 5 b c=some (b-cn b c*c)from if_neg h0];rfl]
 exact fX 19 (by omega) rfl rfl d r b c fl h hs hb0 hf _ k2
theorem CD(d:Dat)(r:List Int)(a b c:Int)(fl:Int)(h:Dk d)(hs:d.st=r++[b,c])(hb0:d.bk.length≤32)(hf:0≤fl∧fl≤d.bk.length)(hk:0≤(d.bk.length:Int)-fl)(qb: -2147483648≤b∧b≤2147483647)(qc: -2147483648≤c∧c≤2147483647)(h0:c=0):Con Tryz.prog 115 [.obj (aw d),.int .i64 19,.int .i64 fl] [.obj (aw (ap TX 19 d r a b c).1),.undef,.undef] (.int .i64 (ap TX 19 d r a b c).2):=by
 have hcb:cell b=true:=by simp[cell,bh];omega
 have hcc:cell c=true:=by simp[cell,bh];omega
 have k2:=Gc b c hcb hcc
 rw[(DG h0).2]at k2
 rw[show ap TX 19 d r a b c=({d with st:=r},-10) by show(match gc 5 b c with|none=>_|some v=>_)=_;rw[show gc 5 b c=none from if_pos h0]]
 exact uR 19 (by omega) rfl rfl d r b c fl h hs hb0 hf _ k2
theorem Fi(d:Dat)(r:List Int)(a b c:Int)(fl:Int)(h:Dk d)(hs:d.st=r++[b,c])(hb0:d.bk.length≤32)(hf:0≤fl∧fl≤d.bk.length)(hk:0≤(d.bk.length:Int)-fl)(qb: -2147483648≤b∧b≤2147483647)(qc: -2147483648≤c∧c≤2147483647):Con Tryz.prog 115 [.obj (aw d),.int .i64 20,.int .i64 fl] [.obj (aw (ap TX 20 d r a b c).1),.undef,.undef] (.int .i64 (ap TX 20 d r a b c).2):=by
 have hcb:cell b=true:=by simp[cell,bh];omega
 have hcc:cell c=true:=by simp[cell,bh];omega
 exact fX 20 (by omega) rfl rfl d r b c fl h hs hb0 hf (bU 6 b c).1 (JJ b c hcb hcc)
theorem EA(d:Dat)(r:List Int)(a b c:Int)(fl:Int)(h:Dk d)(hs:d.st=r++[b,c])(hb0:d.bk.length≤32)(hf:0≤fl∧fl≤d.bk.length)(hk:0≤(d.bk.length:Int)-fl)(qb: -2147483648≤b∧b≤2147483647)(qc: -2147483648≤c∧c≤2147483647):Con Tryz.prog 115 [.obj (aw d),.int .i64 21,.int .i64 fl] [.obj (aw (ap TX 21 d r a b c).1),.undef,.undef] (.int .i64 (ap TX 21 d r a b c).2):=by
 have hcb:cell b=true:=by simp[cell,bh];omega
 have hcc:cell c=true:=by simp[cell,bh];omega
 exact fX 21 (by omega) rfl rfl d r b c fl h hs hb0 hf (bU 7 b c).1 (Jo b c hcb hcc)
theorem Eg(d:Dat)(r:List Int)(a b c:Int)(fl:Int)(h:Dk d)(hs:d.st=r++[b,c])(hb0:d.bk.length≤32)(hf:0≤fl∧fl≤d.bk.length)(hk:0≤(d.bk.length:Int)-fl)(qb: -2147483648≤b∧b≤2147483647)(qc: -2147483648≤c∧c≤2147483647):Con Tryz.prog 115 [.obj (aw d),.int .i64 22,.int .i64 fl] [.obj (aw (ap TX 22 d r a b c).1),.undef,.undef] (.int .i64 (ap TX 22 d r a b c).2):=by
 have hcb:cell b=true:=by simp[cell,bh];omega
 have hcc:cell c=true:=by simp[cell,bh];omega
 exact fX 22 (by omega) rfl rfl d r b c fl h hs hb0 hf (bU 8 b c).1 (Ju b c hcb hcc)
theorem FU(d:Dat)(r:List Int)(a b c:Int)(fl:Int)(h:Dk d)(hs:d.st=r++[b,c])(hb0:d.bk.length≤32)(hf:0≤fl∧fl≤d.bk.length)(hk:0≤(d.bk.length:Int)-fl)(qb: -2147483648≤b∧b≤2147483647)(qc: -2147483648≤c∧c≤2147483647):Con Tryz.prog 115 [.obj (aw d),.int .i64 23,.int .i64 fl] [.obj (aw (ap TX 23 d r a b c).1),.undef,.undef] (.int .i64 (ap TX 23 d r a b c).2):=by
 have hcb:cell b=true:=by simp[cell,bh];omega
 have hcc:cell c=true:=by simp[cell,bh];omega
 exact fX 23 (by omega) rfl rfl d r b c fl h hs hb0 hf (bU 9 b c).1 (Js b c hcb hcc)
theorem E2(d:Dat)(r:List Int)(a b c:Int)(fl:Int)(h:Dk d)(hs:d.st=r++[b,c])(hb0:d.bk.length≤32)(hf:0≤fl∧fl≤d.bk.length)(hk:0≤(d.bk.length:Int)-fl)(qb: -2147483648≤b∧b≤2147483647)(qc: -2147483648≤c∧c≤2147483647):Con Tryz.prog 115 [.obj (aw d),.int .i64 24,.int .i64 fl] [.obj (aw (ap TX 24 d r a b c).1),.undef,.undef] (.int .i64 (ap TX 24 d r a b c).2):=by
 have hcb:cell b=true:=by simp[cell,bh];omega
 have hcc:cell c=true:=by simp[cell,bh];omega
 exact fX 24 (by omega) rfl rfl d r b c fl h hs hb0 hf (bU 10 b c).1 (HP b c hcb hcc)
theorem FT(d:Dat)(r:List Int)(a b c:Int)(fl:Int)(h:Dk d)(hs:d.st=r++[c])(hb0:d.bk.length≤32)(hf:0≤fl∧fl≤d.bk.length)(hk:0≤(d.bk.length:Int)-fl)(qb: -2147483648≤b∧b≤2147483647)(qc: -2147483648≤c∧c≤2147483647):Con Tryz.prog 115 [.obj (aw d),.int .i64 25,.int .i64 fl] [.obj (aw (ap TX 25 d r a b c).1),.undef,.undef] (.int .i64 (ap TX 25 d r a b c).2):=by
 exact mz 25 (by omega) rfl rfl d r c fl h hs hb0 hf (aM 25 b c) (EZ 0 c (by omega) qc)
theorem Ee(d:Dat)(r:List Int)(a b c:Int)(fl:Int)(h:Dk d)(hs:d.st=r++[c])(hb0:d.bk.length≤32)(hf:0≤fl∧fl≤d.bk.length)(hk:0≤(d.bk.length:Int)-fl)(qb: -2147483648≤b∧b≤2147483647)(qc: -2147483648≤c∧c≤2147483647):Con Tryz.prog 115 [.obj (aw d),.int .i64 26,.int .i64 fl] [.obj (aw (ap TX 26 d r a b c).1),.undef,.undef] (.int .i64 (ap TX 26 d r a b c).2):=by
 exact mz 26 (by omega) rfl rfl d r c fl h hs hb0 hf (aM 26 b c) (Fm 0 c (by omega) qc)
theorem FA(d:Dat)(r:List Int)(a b c:Int)(fl:Int)(h:Dk d)(hs:d.st=r++[c])(hb0:d.bk.length≤32)(hf:0≤fl∧fl≤d.bk.length)(hk:0≤(d.bk.length:Int)-fl)(qb: -2147483648≤b∧b≤2147483647)(qc: -2147483648≤c∧c≤2147483647):Con Tryz.prog 115 [.obj (aw d),.int .i64 27,.int .i64 fl] [.obj (aw (ap TX 27 d r a b c).1),.undef,.undef] (.int .i64 (ap TX 27 d r a b c).2):=by
 exact mz 27 (by omega) rfl rfl d r c fl h hs hb0 hf (aM 27 b c) (EF 0 c (by omega) qc)
theorem Fe(d:Dat)(r:List Int)(a b c:Int)(fl:Int)(h:Dk d)(hs:d.st=r++[c])(hb0:d.bk.length≤32)(hf:0≤fl∧fl≤d.bk.length)(hk:0≤(d.bk.length:Int)-fl)(qb: -2147483648≤b∧b≤2147483647)(qc: -2147483648≤c∧c≤2147483647):Con Tryz.prog 115 [.obj (aw d),.int .i64 28,.int .i64 fl] [.obj (aw (ap TX 28 d r a b c).1),.undef,.undef] (.int .i64 (ap TX 28 d r a b c).2):=by
 exact mz 28 (by omega) rfl rfl d r c fl h hs hb0 hf (aM 28 b c) (EH 0 c (by omega) qc)
theorem FF(d:Dat)(r:List Int)(a b c:Int)(fl:Int)(h:Dk d)(hs:d.st=r++[c])(hb0:d.bk.length≤32)(hf:0≤fl∧fl≤d.bk.length)(hk:0≤(d.bk.length:Int)-fl)(qb: -2147483648≤b∧b≤2147483647)(qc: -2147483648≤c∧c≤2147483647):Con Tryz.prog 115 [.obj (aw d),.int .i64 29,.int .i64 fl] [.obj (aw (ap TX 29 d r a b c).1),.undef,.undef] (.int .i64 (ap TX 29 d r a b c).2):=by
 exact mz 29 (by omega) rfl rfl d r c fl h hs hb0 hf (aM 29 b c) (FG 0 c (by omega) qc)
theorem Fz(d:Dat)(r:List Int)(a b c:Int)(fl:Int)(h:Dk d)(hs:d.st=r++[b,c])(hb0:d.bk.length≤32)(hf:0≤fl∧fl≤d.bk.length)(hk:0≤(d.bk.length:Int)-fl)(qb: -2147483648≤b∧b≤2147483647)(qc: -2147483648≤c∧c≤2147483647):Con Tryz.prog 115 [.obj (aw d),.int .i64 30,.int .i64 fl] [.obj (aw (ap TX 30 d r a b c).1),.undef,.undef] (.int .i64 (ap TX 30 d r a b c).2):=by
 exact ml 30 (by omega) rfl rfl d r b c fl h hs hb0 hf (aM 30 b c) (D5 b c qb qc)
theorem Fu(d:Dat)(r:List Int)(a b c:Int)(fl:Int)(h:Dk d)(hs:d.st=r++[b,c])(hb0:d.bk.length≤32)(hf:0≤fl∧fl≤d.bk.length)(hk:0≤(d.bk.length:Int)-fl)(qb: -2147483648≤b∧b≤2147483647)(qc: -2147483648≤c∧c≤2147483647):Con Tryz.prog 115 [.obj (aw d),.int .i64 31,.int .i64 fl] [.obj (aw (ap TX 31 d r a b c).1),.undef,.undef] (.int .i64 (ap TX 31 d r a b c).2):=by
 exact ml 31 (by omega) rfl rfl d r b c fl h hs hb0 hf (aM 31 b c) (EB b c qb qc)
theorem Ei(d:Dat)(r:List Int)(a b c:Int)(fl:Int)(h:Dk d)(hs:d.st=r++[b,c])(hb0:d.bk.length≤32)(hf:0≤fl∧fl≤d.bk.length)(hk:0≤(d.bk.length:Int)-fl)(qb: -2147483648≤b∧b≤2147483647)(qc: -2147483648≤c∧c≤2147483647):Con Tryz.prog 115 [.obj (aw d),.int .i64 32,.int .i64 fl] [.obj (aw (ap TX 32 d r a b c).1),.undef,.undef] (.int .i64 (ap TX 32 d r a b c).2):=by
 exact ml 32 (by omega) rfl rfl d r b c fl h hs hb0 hf (aM 32 b c) (D9 b c qb qc)
theorem D8(d:Dat)(r:List Int)(a b c:Int)(fl:Int)(h:Dk d)(hs:d.st=r++[b,c])(hb0:d.bk.length≤32)(hf:0≤fl∧fl≤d.bk.length)(hk:0≤(d.bk.length:Int)-fl)(qb: -2147483648≤b∧b≤2147483647)(qc: -2147483648≤c∧c≤2147483647):Con Tryz.prog 115 [.obj (aw d),.int .i64 33,.int .i64 fl] [.obj (aw (ap TX 33 d r a b c).1),.undef,.undef] (.int .i64 (ap TX 33 d r a b c).2):=by
 exact ml 33 (by omega) rfl rfl d r b c fl h hs hb0 hf (aM 33 b c) (EP b c qb qc)
theorem Ek(d:Dat)(r:List Int)(a b c:Int)(fl:Int)(h:Dk d)(hs:d.st=r++[b,c])(hb0:d.bk.length≤32)(hf:0≤fl∧fl≤d.bk.length)(hk:0≤(d.bk.length:Int)-fl)(qb: -2147483648≤b∧b≤2147483647)(qc: -2147483648≤c∧c≤2147483647):Con Tryz.prog 115 [.obj (aw d),.int .i64 34,.int .i64 fl] [.obj (aw (ap TX 34 d r a b c).1),.undef,.undef] (.int .i64 (ap TX 34 d r a b c).2):=by
 exact ml 34 (by omega) rfl rfl d r b c fl h hs hb0 hf (aM 34 b c) (E1 b c qb qc)
theorem Ft(d:Dat)(r:List Int)(a b c:Int)(fl:Int)(h:Dk d)(hs:d.st=r++[b,c])(hb0:d.bk.length≤32)(hf:0≤fl∧fl≤d.bk.length)(hk:0≤(d.bk.length:Int)-fl)(qb: -2147483648≤b∧b≤2147483647)(qc: -2147483648≤c∧c≤2147483647):Con Tryz.prog 115 [.obj (aw d),.int .i64 35,.int .i64 fl] [.obj (aw (ap TX 35 d r a b c).1),.undef,.undef] (.int .i64 (ap TX 35 d r a b c).2):=by
 exact ml 35 (by omega) rfl rfl d r b c fl h hs hb0 hf (aM 35 b c) (ER b c qb qc)
theorem Fo(d:Dat)(r:List Int)(a b c:Int)(fl:Int)(h:Dk d)(hs:d.st=r++[b,c])(hb0:d.bk.length≤32)(hf:0≤fl∧fl≤d.bk.length)(hk:0≤(d.bk.length:Int)-fl)(qb: -2147483648≤b∧b≤2147483647)(qc: -2147483648≤c∧c≤2147483647):Con Tryz.prog 115 [.obj (aw d),.int .i64 36,.int .i64 fl] [.obj (aw (ap TX 36 d r a b c).1),.undef,.undef] (.int .i64 (ap TX 36 d r a b c).2):=by
 exact ml 36 (by omega) rfl rfl d r b c fl h hs hb0 hf (aM 36 b c) (FV b c qb qc)
theorem Ey(d:Dat)(r:List Int)(a b c:Int)(fl:Int)(h:Dk d)(hs:d.st=r++[c])(hb0:d.bk.length≤32)(hf:0≤fl∧fl≤d.bk.length)(hk:0≤(d.bk.length:Int)-fl)(qb: -2147483648≤b∧b≤2147483647)(qc: -2147483648≤c∧c≤2147483647):Con Tryz.prog 115 [.obj (aw d),.int .i64 37,.int .i64 fl] [.obj (aw (ap TX 37 d r a b c).1),.undef,.undef] (.int .i64 (ap TX 37 d r a b c).2):=by
 exact mz 37 (by omega) rfl rfl d r c fl h hs hb0 hf (aM 37 b c) (FJ 0 c (by omega) qc)
theorem EV(d:Dat)(r:List Int)(a b c:Int)(fl:Int)(h:Dk d)(hs:d.st=r++[c])(hb0:d.bk.length≤32)(hf:0≤fl∧fl≤d.bk.length)(hk:0≤(d.bk.length:Int)-fl)(qb: -2147483648≤b∧b≤2147483647)(qc: -2147483648≤c∧c≤2147483647):Con Tryz.prog 115 [.obj (aw d),.int .i64 38,.int .i64 fl] [.obj (aw (ap TX 38 d r a b c).1),.undef,.undef] (.int .i64 (ap TX 38 d r a b c).2):=by
 exact mz 38 (by omega) rfl rfl d r c fl h hs hb0 hf (aM 38 b c) (EI 0 c (by omega) qc)
end P6

/- Prims on cells, on the output and on the other stack, in place, by the program; contracts. -/
open Go Go.Abs Go.Proofs V1 H1 F1 F2 T1 T2 T3 P1 P2 P3 P4 P5
namespace P7
theorem qS(p:Nat)(hp:39≤p∧p≤50)(et:bE p=0)(eb:dU p=0)(d:Dat)(r:List Int)(fl:Int)(h:Dk d)(hs:d.st=r++[])(hb0:d.bk.length≤32)(hf:0≤fl∧fl≤d.bk.length)(y:Dat × Int)(k1:Con Tryz.prog 154 [.obj (aw {d with st:=r}),.int .i64 p,.int .i64 0,.int .i64 0] [.obj (aw y.1),.undef,.undef,.undef] (.int .i64 y.2)):Con Tryz.prog 115 [.obj (aw d),.int .i64 p,.int .i64 fl] [.obj (aw y.1),.undef,.undef] (.int .i64 y.2):=by
 have kt:Con Tryz.prog 148 [.int .i64 p] (aa [.int .i64 p]) (.int .i64 0):=by
  have k:=c148 p (by unfold cp;omega)
  rw[et]at k;exact k
 have kk:Con Tryz.prog 149 [.int .i64 p] (aa [.int .i64 p]) (.int .i64 0):=by
  have k:=c149 p (by unfold cp;omega)
  rw[eb]at k;exact k
 have hst:=h.st
 have hl:d.st.length=r.length+0:=by rw[hs];simp
 have g0:decide ((((d.st.map aj).length:Nat):Int)<0)=false:=by rw[List.length_map];exact decide_eq_false (by omega)
 have wf:IntKind.i64.wrap ((((d.bk.map aj).length:Nat):Int)-fl)=(d.bk.length:Int)-fl:=by rw[List.length_map];exact ai (by omega) (by omega)
 have g1:decide (IntKind.i64.wrap ((((d.bk.map aj).length:Nat):Int)-fl)<0)=false:=by rw[wf];exact decide_eq_false (by omega)
 have w2:IntKind.i64.wrap ((((d.st.map aj).length:Nat):Int)-0)=(r.length:Int):=by rw[List.length_map,ai (by omega) (by omega)];omega
 have er:List.take ((IntKind.i64.wrap ((((d.st.map aj).length:Nat):Int)-0)).toNat-0) (List.drop (0+0) d.st)=r:=by rw[w2,hs];simp
 have q0:bh (p:Int) 15 24=false:=by simp[bh];omega
 have q1:((p:Int)==1)=false:=by simp;omega
 have q2:((p:Int)==2)=false:=by simp;omega
 have q3:((p:Int)==10)=false:=by simp;omega
 have q4:((p:Int)==3)=false:=by simp;omega
 have q5:((p:Int)==4)=false:=by simp;omega
 have q6:((p:Int)==5)=false:=by simp;omega
 have q7:((p:Int)==6)=false:=by simp;omega
 have q8:((p:Int)==7)=false:=by simp;omega
 have q9:((p:Int)==8)=false:=by simp;omega
 have q10:((p:Int)==9)=false:=by simp;omega
 have q11:((p:Int)==11)=false:=by simp;omega
 have q12:((p:Int)==12)=false:=by simp;omega
 have q13:((p:Int)==13)=false:=by simp;omega
 have q14:((p:Int)==14)=false:=by simp;omega
 have q15:((p:Int)==51)=false:=by simp;omega
 have q16:((p:Int)==52)=false:=by simp;omega
 have q17:bh (p:Int) 25 38=false:=by simp[bh];omega
 rw[←er]at k1
 refine rp 242 Tryz.func115 [.tmp 6] (g:= ?_)
 conv=>whnf
 repeat' (first|(refine ay 154 [some 6,none,none,none] ?_;conv=>whnf)|(refine eH (k1 ..) ?_;conv=>whnf)|(focus (refine aq (by rfl) ?_;conv=>whnf))|exact True.intro|refine aP ?_)
 all_goals skip
theorem qC(p:Nat)(hp:39≤p∧p≤50)(et:bE p=1)(eb:dU p=0)(d:Dat)(r:List Int)(c:Int)(fl:Int)(h:Dk d)(hs:d.st=r++[c])(hb0:d.bk.length≤32)(hf:0≤fl∧fl≤d.bk.length)(y:Dat × Int)(k1:Con Tryz.prog 154 [.obj (aw {d with st:=r}),.int .i64 p,.int .i64 0,.int .i64 c] [.obj (aw y.1),.undef,.undef,.undef] (.int .i64 y.2)):Con Tryz.prog 115 [.obj (aw d),.int .i64 p,.int .i64 fl] [.obj (aw y.1),.undef,.undef] (.int .i64 y.2):=by
 have kt:Con Tryz.prog 148 [.int .i64 p] (aa [.int .i64 p]) (.int .i64 1):=by
  have k:=c148 p (by unfold cp;omega)
  rw[et]at k;exact k
 have kk:Con Tryz.prog 149 [.int .i64 p] (aa [.int .i64 p]) (.int .i64 0):=by
  have k:=c149 p (by unfold cp;omega)
  rw[eb]at k;exact k
 have hst:=h.st
 have hl:d.st.length=r.length+1:=by rw[hs];simp
 have g0:decide ((((d.st.map aj).length:Nat):Int)<1)=false:=by rw[List.length_map];exact decide_eq_false (by omega)
 have wf:IntKind.i64.wrap ((((d.bk.map aj).length:Nat):Int)-fl)=(d.bk.length:Int)-fl:=by rw[List.length_map];exact ai (by omega) (by omega)
 have g1:decide (IntKind.i64.wrap ((((d.bk.map aj).length:Nat):Int)-fl)<0)=false:=by rw[wf];exact decide_eq_false (by omega)
 have w2:IntKind.i64.wrap ((((d.st.map aj).length:Nat):Int)-1)=(r.length:Int):=by rw[List.length_map,ai (by omega) (by omega)];omega
 have er:List.take ((IntKind.i64.wrap ((((d.st.map aj).length:Nat):Int)-1)).toNat-0) (List.drop (0+0) d.st)=r:=by rw[w2,hs];simp
 have q0:bh (p:Int) 15 24=false:=by simp[bh];omega
 have q1:((p:Int)==1)=false:=by simp;omega
 have q2:((p:Int)==2)=false:=by simp;omega
 have q3:((p:Int)==10)=false:=by simp;omega
 have q4:((p:Int)==3)=false:=by simp;omega
 have q5:((p:Int)==4)=false:=by simp;omega
 have q6:((p:Int)==5)=false:=by simp;omega
 have q7:((p:Int)==6)=false:=by simp;omega
 have q8:((p:Int)==7)=false:=by simp;omega
 have q9:((p:Int)==8)=false:=by simp;omega
 have q10:((p:Int)==9)=false:=by simp;omega
 have q11:((p:Int)==11)=false:=by simp;omega
 have q12:((p:Int)==12)=false:=by simp;omega
 have q13:((p:Int)==13)=false:=by simp;omega
 have q14:((p:Int)==14)=false:=by simp;omega
 have q15:((p:Int)==51)=false:=by simp;omega
 have q16:((p:Int)==52)=false:=by simp;omega
 have q17:bh (p:Int) 25 38=false:=by simp[bh];omega
 rw[←er]at k1
 refine rp 242 Tryz.func115 [.tmp 6] (g:= ?_)
 conv=>whnf
 (iterate 115 ((first|refine ac (by solve|simp only[bc]|fail) ?_|apply ac rfl|refine ac (by rw[w2];first|exact decide_eq_true (by omega)|(rw[List.length_map];first|exact decide_eq_true (by omega)|(simp;omega))) ?_|refine aD (by(rfl)) ?_|refine ag (by(exact(show _=z3 from rfl))) ?_|refine ag (by(exact Bn hs w2)) ?_|refine aG (fun hf=> ?_)|refine ChkS.mk (by kernel_rfl) ?_|refine aK (by assumption) ?_|apply aH|refine ah (kt ..) ?_|refine ah (kk ..) ?_);conv=>whnf));(iterate 29 ((first|apply ac rfl|refine aK (by assumption) ?_|refine ay 154 [some 6,none,none,none] ?_|apply aH|refine ah (c95 ..) ?_);conv=>whnf));(focus (apply bj (f:=154);(· repeat' (first|(refine al ?_;simp[bc];done)|exact aW _ _ _ _|apply aY|apply bO|apply bC|apply bz|apply cm|apply cB|apply bM|rfl));refine bx (f:=154) rfl (k1 ..) ?_;conv=>whnf));iterate 8 (first|(apply ac rfl;(conv=>whnf))|(refine ag (al (by solve|simp[bc]|fail)) ?_;(conv=>whnf))|(refine aG (fun hf=> ?_);(conv=>whnf))|(refine aq (by rfl) ?_;(conv=>whnf))|(exact True.intro))
 all_goals skip
theorem Ap(p:Nat)(hp:39≤p∧p≤50)(et:bE p=2)(eb:dU p=0)(d:Dat)(r:List Int)(b:Int)(c:Int)(fl:Int)(h:Dk d)(hs:d.st=r++[b,c])(hb0:d.bk.length≤32)(hf:0≤fl∧fl≤d.bk.length)(y:Dat × Int)(k1:Con Tryz.prog 154 [.obj (aw {d with st:=r}),.int .i64 p,.int .i64 b,.int .i64 c] [.obj (aw y.1),.undef,.undef,.undef] (.int .i64 y.2)):Con Tryz.prog 115 [.obj (aw d),.int .i64 p,.int .i64 fl] [.obj (aw y.1),.undef,.undef] (.int .i64 y.2):=by
 have kt:Con Tryz.prog 148 [.int .i64 p] (aa [.int .i64 p]) (.int .i64 2):=by
  have k:=c148 p (by unfold cp;omega)
  rw[et]at k;exact k
 have kk:Con Tryz.prog 149 [.int .i64 p] (aa [.int .i64 p]) (.int .i64 0):=by
  have k:=c149 p (by unfold cp;omega)
  rw[eb]at k;exact k
 have hst:=h.st
 have hl:d.st.length=r.length+2:=by rw[hs];simp
 have g0:decide ((((d.st.map aj).length:Nat):Int)<2)=false:=by rw[List.length_map];exact decide_eq_false (by omega)
 have wf:IntKind.i64.wrap ((((d.bk.map aj).length:Nat):Int)-fl)=(d.bk.length:Int)-fl:=by rw[List.length_map];exact ai (by omega) (by omega)
 have g1:decide (IntKind.i64.wrap ((((d.bk.map aj).length:Nat):Int)-fl)<0)=false:=by rw[wf];exact decide_eq_false (by omega)
 have w2:IntKind.i64.wrap ((((d.st.map aj).length:Nat):Int)-2)=(r.length:Int):=by rw[List.length_map,ai (by omega) (by omega)];omega
 have er:List.take ((IntKind.i64.wrap ((((d.st.map aj).length:Nat):Int)-2)).toNat-0) (List.drop (0+0) d.st)=r:=by rw[w2,hs];simp
 have q0:bh (p:Int) 15 24=false:=by simp[bh];omega
 have q1:((p:Int)==1)=false:=by simp;omega
 have q2:((p:Int)==2)=false:=by simp;omega
 have q3:((p:Int)==10)=false:=by simp;omega
 have q4:((p:Int)==3)=false:=by simp;omega
 have q5:((p:Int)==4)=false:=by simp;omega
 have q6:((p:Int)==5)=false:=by simp;omega
 have q7:((p:Int)==6)=false:=by simp;omega
 have q8:((p:Int)==7)=false:=by simp;omega
 have q9:((p:Int)==8)=false:=by simp;omega
 have q10:((p:Int)==9)=false:=by simp;omega
 have q11:((p:Int)==11)=false:=by simp;omega
 have q12:((p:Int)==12)=false:=by simp;omega
 have q13:((p:Int)==13)=false:=by simp;omega
 have q14:((p:Int)==14)=false:=by simp;omega
 have q15:((p:Int)==51)=false:=by simp;omega
 have q16:((p:Int)==52)=false:=by simp;omega
 have q17:bh (p:Int) 25 38=false:=by simp[bh];omega
 rw[←er]at k1
 refine rp 242 Tryz.func115 [.tmp 6] (g:= ?_)
 conv=>whnf
 (iterate 115 ((first|refine ac (by solve|simp only[bc]|fail) ?_|apply ac rfl|refine ac (by rw[w2];first|exact decide_eq_true (by omega)|(rw[List.length_map];first|exact decide_eq_true (by omega)|(simp;omega))) ?_|refine aD (by(rfl)) ?_|refine ag (by(exact(show _=z3 from rfl))) ?_|refine ag (by(exact zj hs w2)) ?_|refine aG (fun hf=> ?_)|refine ChkS.mk (by kernel_rfl) ?_|refine aK (by assumption) ?_|apply aH|refine ah (kt ..) ?_|refine ah (kk ..) ?_);conv=>whnf));(iterate 29 ((first|apply ac rfl|refine aK (by assumption) ?_|refine ay 154 [some 6,none,none,none] ?_|apply aH|refine ah (c95 ..) ?_);conv=>whnf));(focus (apply bj (f:=154);(· repeat' (first|(refine al ?_;simp[bc];done)|exact aW _ _ _ _|apply aY|apply bO|apply bC|apply bz|apply cm|apply cB|apply bM|rfl));refine bx (f:=154) rfl (k1 ..) ?_;conv=>whnf));iterate 8 (first|(apply ac rfl;(conv=>whnf))|(refine ag (al (by solve|simp[bc]|fail)) ?_;(conv=>whnf))|(refine aG (fun hf=> ?_);(conv=>whnf))|(refine aq (by rfl) ?_;(conv=>whnf))|(exact True.intro))
 all_goals skip
theorem FI(d:Dat)(r:List Int)(a b c:Int)(fl:Int)(h:Dk d)(hs:d.st=r++[c])(hb0:d.bk.length≤32)(hf:0≤fl∧fl≤d.bk.length)(hk:0≤(d.bk.length:Int)-fl)(qb: -2147483648≤b∧b≤2147483647)(qc: -2147483648≤c∧c≤2147483647):Con Tryz.prog 115 [.obj (aw d),.int .i64 39,.int .i64 fl] [.obj (aw (ap TX 39 d r a b c).1),.undef,.undef] (.int .i64 (ap TX 39 d r a b c).2):=by
 have hst:=h.st
 have hl:d.st.length=r.length+1:=by rw[hs];simp
 have hd2:Dk {d with st:=r}:=⟨h.he,h.ce,by simp only;omega,h.ou,h.ba,h.cs⟩
 exact qC 39 (by omega) rfl rfl d r c fl h hs hb0 hf (cV 39 {d with st:=r} 0 c) (Ge {d with st:=r} 0 c hd2 qc)
theorem Eb(d:Dat)(r:List Int)(a b c:Int)(fl:Int)(h:Dk d)(hs:d.st=r++[b,c])(hb0:d.bk.length≤32)(hf:0≤fl∧fl≤d.bk.length)(hk:0≤(d.bk.length:Int)-fl)(qb: -2147483648≤b∧b≤2147483647)(qc: -2147483648≤c∧c≤2147483647):Con Tryz.prog 115 [.obj (aw d),.int .i64 40,.int .i64 fl] [.obj (aw (ap TX 40 d r a b c).1),.undef,.undef] (.int .i64 (ap TX 40 d r a b c).2):=by
 have hst:=h.st
 have hl:d.st.length=r.length+2:=by rw[hs];simp
 have hd2:Dk {d with st:=r}:=⟨h.he,h.ce,by simp only;omega,h.ou,h.ba,h.cs⟩
 exact Ap 40 (by omega) rfl rfl d r b c fl h hs hb0 hf (cV 40 {d with st:=r} b c) (GW {d with st:=r} b c hd2 qb qc)
theorem D4(d:Dat)(r:List Int)(a b c:Int)(fl:Int)(h:Dk d)(hs:d.st=r++[b,c])(hb0:d.bk.length≤32)(hf:0≤fl∧fl≤d.bk.length)(hk:0≤(d.bk.length:Int)-fl)(qb: -2147483648≤b∧b≤2147483647)(qc: -2147483648≤c∧c≤2147483647):Con Tryz.prog 115 [.obj (aw d),.int .i64 41,.int .i64 fl] [.obj (aw (ap TX 41 d r a b c).1),.undef,.undef] (.int .i64 (ap TX 41 d r a b c).2):=by
 have hst:=h.st
 have hl:d.st.length=r.length+2:=by rw[hs];simp
 have hd2:Dk {d with st:=r}:=⟨h.he,h.ce,by simp only;omega,h.ou,h.ba,h.cs⟩
 exact Ap 41 (by omega) rfl rfl d r b c fl h hs hb0 hf (cV 41 {d with st:=r} b c) (HR {d with st:=r} b c hd2 qb qc)
theorem E9(d:Dat)(r:List Int)(a b c:Int)(fl:Int)(h:Dk d)(hs:d.st=r++[])(hb0:d.bk.length≤32)(hf:0≤fl∧fl≤d.bk.length)(hk:0≤(d.bk.length:Int)-fl)(qb: -2147483648≤b∧b≤2147483647)(qc: -2147483648≤c∧c≤2147483647):Con Tryz.prog 115 [.obj (aw d),.int .i64 42,.int .i64 fl] [.obj (aw (ap TX 42 d r a b c).1),.undef,.undef] (.int .i64 (ap TX 42 d r a b c).2):=by
 have hst:=h.st
 have hl:d.st.length=r.length+0:=by rw[hs];simp
 have hd2:Dk {d with st:=r}:=⟨h.he,h.ce,by simp only;omega,h.ou,h.ba,h.cs⟩
 exact qS 42 (by omega) rfl rfl d r fl h hs hb0 hf (cV 42 {d with st:=r} 0 0) (HZ {d with st:=r} 0 0 hd2 (by omega) (by omega))
theorem Ea(d:Dat)(r:List Int)(a b c:Int)(fl:Int)(h:Dk d)(hs:d.st=r++[c])(hb0:d.bk.length≤32)(hf:0≤fl∧fl≤d.bk.length)(hk:0≤(d.bk.length:Int)-fl)(qb: -2147483648≤b∧b≤2147483647)(qc: -2147483648≤c∧c≤2147483647):Con Tryz.prog 115 [.obj (aw d),.int .i64 43,.int .i64 fl] [.obj (aw (ap TX 43 d r a b c).1),.undef,.undef] (.int .i64 (ap TX 43 d r a b c).2):=by
 have hst:=h.st
 have hl:d.st.length=r.length+1:=by rw[hs];simp
 have hd2:Dk {d with st:=r}:=⟨h.he,h.ce,by simp only;omega,h.ou,h.ba,h.cs⟩
 exact qC 43 (by omega) rfl rfl d r c fl h hs hb0 hf (cV 43 {d with st:=r} 0 c) (GU {d with st:=r} 0 c hd2 (by omega) qc)
theorem Ff(d:Dat)(r:List Int)(a b c:Int)(fl:Int)(h:Dk d)(hs:d.st=r++[c])(hb0:d.bk.length≤32)(hf:0≤fl∧fl≤d.bk.length)(hk:0≤(d.bk.length:Int)-fl)(qb: -2147483648≤b∧b≤2147483647)(qc: -2147483648≤c∧c≤2147483647):Con Tryz.prog 115 [.obj (aw d),.int .i64 44,.int .i64 fl] [.obj (aw (ap TX 44 d r a b c).1),.undef,.undef] (.int .i64 (ap TX 44 d r a b c).2):=by
 have hst:=h.st
 have hl:d.st.length=r.length+1:=by rw[hs];simp
 have hd2:Dk {d with st:=r}:=⟨h.he,h.ce,by simp only;omega,h.ou,h.ba,h.cs⟩
 exact qC 44 (by omega) rfl rfl d r c fl h hs hb0 hf (cV 44 {d with st:=r} 0 c) (Hp {d with st:=r} 0 c hd2 (by omega) qc)
theorem FS(d:Dat)(r:List Int)(a b c:Int)(fl:Int)(h:Dk d)(hs:d.st=r++[c])(hb0:d.bk.length≤32)(hf:0≤fl∧fl≤d.bk.length)(hk:0≤(d.bk.length:Int)-fl)(qb: -2147483648≤b∧b≤2147483647)(qc: -2147483648≤c∧c≤2147483647):Con Tryz.prog 115 [.obj (aw d),.int .i64 45,.int .i64 fl] [.obj (aw (ap TX 45 d r a b c).1),.undef,.undef] (.int .i64 (ap TX 45 d r a b c).2):=by
 have hst:=h.st
 have hl:d.st.length=r.length+1:=by rw[hs];simp
 have hd2:Dk {d with st:=r}:=⟨h.he,h.ce,by simp only;omega,h.ou,h.ba,h.cs⟩
 exact qC 45 (by omega) rfl rfl d r c fl h hs hb0 hf (cV 45 {d with st:=r} 0 c) (HB {d with st:=r} 0 c hd2 (by omega) qc)
theorem EX(d:Dat)(r:List Int)(a b c:Int)(fl:Int)(h:Dk d)(hs:d.st=r++[c])(hb0:d.bk.length≤32)(hf:0≤fl∧fl≤d.bk.length)(hk:0≤(d.bk.length:Int)-fl)(qb: -2147483648≤b∧b≤2147483647)(qc: -2147483648≤c∧c≤2147483647):Con Tryz.prog 115 [.obj (aw d),.int .i64 46,.int .i64 fl] [.obj (aw (ap TX 46 d r a b c).1),.undef,.undef] (.int .i64 (ap TX 46 d r a b c).2):=by
 have hst:=h.st
 have hl:d.st.length=r.length+1:=by rw[hs];simp
 have hd2:Dk {d with st:=r}:=⟨h.he,h.ce,by simp only;omega,h.ou,h.ba,h.cs⟩
 exact qC 46 (by omega) rfl rfl d r c fl h hs hb0 hf (cV 46 {d with st:=r} 0 c) (GV {d with st:=r} 0 c hd2 (by omega) qc)
theorem En(d:Dat)(r:List Int)(a b c:Int)(fl:Int)(h:Dk d)(hs:d.st=r++[])(hb0:d.bk.length≤32)(hf:0≤fl∧fl≤d.bk.length)(hk:0≤(d.bk.length:Int)-fl)(qb: -2147483648≤b∧b≤2147483647)(qc: -2147483648≤c∧c≤2147483647):Con Tryz.prog 115 [.obj (aw d),.int .i64 47,.int .i64 fl] [.obj (aw (ap TX 47 d r a b c).1),.undef,.undef] (.int .i64 (ap TX 47 d r a b c).2):=by
 have hst:=h.st
 have hl:d.st.length=r.length+0:=by rw[hs];simp
 have hd2:Dk {d with st:=r}:=⟨h.he,h.ce,by simp only;omega,h.ou,h.ba,h.cs⟩
 exact qS 47 (by omega) rfl rfl d r fl h hs hb0 hf (cV 47 {d with st:=r} 0 0) (GI {d with st:=r} 0 0 hd2 (by omega) (by omega))
theorem ES(d:Dat)(r:List Int)(a b c:Int)(fl:Int)(h:Dk d)(hs:d.st=r++[])(hb0:d.bk.length≤32)(hf:0≤fl∧fl≤d.bk.length)(hk:0≤(d.bk.length:Int)-fl)(qb: -2147483648≤b∧b≤2147483647)(qc: -2147483648≤c∧c≤2147483647):Con Tryz.prog 115 [.obj (aw d),.int .i64 48,.int .i64 fl] [.obj (aw (ap TX 48 d r a b c).1),.undef,.undef] (.int .i64 (ap TX 48 d r a b c).2):=by
 have hst:=h.st
 have hl:d.st.length=r.length+0:=by rw[hs];simp
 have hd2:Dk {d with st:=r}:=⟨h.he,h.ce,by simp only;omega,h.ou,h.ba,h.cs⟩
 exact qS 48 (by omega) rfl rfl d r fl h hs hb0 hf (cV 48 {d with st:=r} 0 0) (Hq {d with st:=r} 0 0 hd2 (by omega) (by omega))
theorem EJ(d:Dat)(r:List Int)(a b c:Int)(fl:Int)(h:Dk d)(hs:d.st=r++[])(hb0:d.bk.length≤32)(hf:0≤fl∧fl≤d.bk.length)(hk:0≤(d.bk.length:Int)-fl)(qb: -2147483648≤b∧b≤2147483647)(qc: -2147483648≤c∧c≤2147483647):Con Tryz.prog 115 [.obj (aw d),.int .i64 49,.int .i64 fl] [.obj (aw (ap TX 49 d r a b c).1),.undef,.undef] (.int .i64 (ap TX 49 d r a b c).2):=by
 have hst:=h.st
 have hl:d.st.length=r.length+0:=by rw[hs];simp
 have hd2:Dk {d with st:=r}:=⟨h.he,h.ce,by simp only;omega,h.ou,h.ba,h.cs⟩
 exact qS 49 (by omega) rfl rfl d r fl h hs hb0 hf (cV 49 {d with st:=r} 0 0) (GA {d with st:=r} 0 0 hd2 (by omega) (by omega))
theorem Fk(d:Dat)(r:List Int)(a b c:Int)(fl:Int)(h:Dk d)(hs:d.st=r++[])(hb0:d.bk.length≤32)(hf:0≤fl∧fl≤d.bk.length)(hk:0≤(d.bk.length:Int)-fl)(qb: -2147483648≤b∧b≤2147483647)(qc: -2147483648≤c∧c≤2147483647):Con Tryz.prog 115 [.obj (aw d),.int .i64 50,.int .i64 fl] [.obj (aw (ap TX 50 d r a b c).1),.undef,.undef] (.int .i64 (ap TX 50 d r a b c).2):=by
 have hst:=h.st
 have hl:d.st.length=r.length+0:=by rw[hs];simp
 have hd2:Dk {d with st:=r}:=⟨h.he,h.ce,by simp only;omega,h.ou,h.ba,h.cs⟩
 exact qS 50 (by omega) rfl rfl d r fl h hs hb0 hf (cV 50 {d with st:=r} 0 0) (GO {d with st:=r} 0 0 hd2 (by omega) (by omega))
end P7
