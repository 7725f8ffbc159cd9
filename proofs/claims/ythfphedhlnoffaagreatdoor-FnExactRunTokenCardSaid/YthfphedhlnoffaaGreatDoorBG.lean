import Derived.Test.YthfphedhlnoffaaGreatDoorBA
/- Calls of the host, by the program: contracts. -/
set_option linter.unusedVariables false
set_option maxHeartbeats 4000000
set_option linter.unusedSimpArgs false
set_option maxRecDepth 100000
open Go Go.Abs Go.Proofs V1 H1
namespace H2
theorem c80(d:Dat)(n:Int)(h:d.st.length≤1000):Con Tryz.prog 80 [.obj (aw d),.int .i64 n] [.obj (aw (fD d n).1),.undef] (.int .i64 (fD d n).2):=by
 refine rp 21 Tryz.func80 [.tmp 4] (g:= ?_)
 conv=>whnf
 repeat' (first|(focus (refine aq (by((rw[xy (by omega)];first|done|rfl|(simp[aw,aK,aj,am,List.take_of_length_le];done)))) ?_;conv=>whnf))|(focus (refine aq (by((rw[sY (by omega)];first|done|rfl|(simp[aw,aK,aj,am,List.take_of_length_le];done)))) ?_;conv=>whnf))|exact True.intro|refine aO ?_|(refine bS ?_ ?_<;>intro hb))
instance:CC 80:=⟨_,@c80⟩
theorem c156(d:Dat)(h:d.st.length≤1000):Con Tryz.prog 156 [.obj (aw d)] [.obj (aw (rJ d).1)] (.tup [.int .i64 (rJ d).2.1,.int .i64 (rJ d).2.2]):=by
 have w1:IntKind.i64.wrap ((d.st.length:Int)-1)=(d.st.length:Int)-1:=ai (by omega) (by omega)
 have w2:(IntKind.i64.wrap ((d.st.length:Int)-1)).toNat=d.st.length-1:=by omega
 refine rp 31 Tryz.func156 [.tmp 2,.tmp 3] (g:= ?_)
 conv=>whnf
 repeat' (first|(refine aH (by((try simp only[Int.toNat_natCast]);exact aI aj _ _ _ default (by first|omega|(simp;omega)))) ?_;conv=>whnf)|(focus (refine aq (by((rw[qw (by omega)];first|done|rfl|(simp[w2,aw,aK,aj,am,List.map_take];done)))) ?_;conv=>whnf))|(focus (refine aq (by((rw[te (by omega)];first|done|rfl|(simp[w2,aw,aK,aj,am,List.map_take];done)))) ?_;conv=>whnf))|exact True.intro|refine bN ?_|refine im ?_|(refine bS ?_ ?_<;>intro hb))
instance:CC 156:=⟨_,@c156⟩
theorem kT(d:Dat)(h:d.st.length≤1000)(h0: ¬d.st.length=0):Con Tryz.prog 156 [.obj (aw d)] [.obj (aw {d with st:=d.st.take (d.st.length-1)})] (.tup [.int .i64 (bu d),.int .i64 0]):=by
 have e:=te h0
 have:=c156 d h
 rw[e]at this
 exact this
theorem tI(d:Dat)(n:Int)(h:d.st.length≤1000)(h0: ¬d.st.length=32):Con Tryz.prog 80 [.obj (aw d),.int .i64 n] [.obj (aw {d with st:=d.st++[n]}),.undef] (.int .i64 0):=by
 have e:=sY (n:=n) h0
 have:=c80 d n h
 rw[e]at this
 exact this
set_option maxHeartbeats 2000000 in
theorem Bp(h:Hst)(d:Dat)(hg:h.gr.length=4)(hs:h.st.length=8)(hq:h.q.length≤20)(hd:h.ds.length≤40)(h1:d.st.length≤32):Con Tryz.prog 155 [.obj (cb h),.obj (aw d),.int .i64 0] [.obj (cb (cA h d 0).1),.obj (aw (cA h d 0).2.1),.undef] (.int .i64 (cA h d 0).2.2):=by
 refine Con.evP 134 [500000,500100] rfl bH dI Tryz.func155 rfl rfl rfl rfl [.tmp 6] rfl ?_
 conv=>whnf
 (iterate 4 ((first|refine ac (by solve|simp only[bj]|fail) ?_|apply ac rfl|refine ac (by refine aU rfl ?_;simp only[cB];omega) ?_);conv=>whnf));(refine aH (by((try simp only[Int.toNat_natCast]);exact aI dT _ _ _ default (by first|omega|(simp;omega)))) ?_;conv=>whnf);(refine cm ?_ ?_<;>intro hb<;>(try simp only[eH]at hb)<;>conv=>whnf);(apply ac rfl;conv=>whnf);(focus (refine aq (by((rw[fP (by assumption)];first|done|rfl|(simp[cb,aw,aK,aW,aX,aj,bc,am,List.take_of_length_le];done)))) ?_;conv=>whnf));(iterate 4 (apply af (ak (by simp[bj]));conv=>whnf));(focus (refine aq (by((rw[fP (by assumption)];first|done|rfl|(simp[cb,aw,aK,aW,aX,aj,bc,am,List.take_of_length_le];done)))) ?_;conv=>whnf));(iterate 3 (apply af (ak (by simp[bj]));conv=>whnf));(focus (refine aq (by((rw[fP (by assumption)];first|done|rfl|(simp[cb,aw,aK,aW,aX,aj,bc,am,List.take_of_length_le];done)))) ?_;conv=>whnf));(iterate 4 (first|(apply ac rfl;(conv=>whnf))|(refine cm ?_ ?_<;>intro hb<;>(try simp only[eH]at hb)<;>conv=>whnf)|(exact True.intro)));(focus (refine aq (by((rw[ga (by assumption) (by omega)];first|done|rfl|(simp[cb,aw,aK,aW,aX,aj,bc,am,List.take_of_length_le];done)))) ?_;conv=>whnf));(iterate 4 (apply af (ak (by simp[bj]));conv=>whnf));(focus (refine aq (by((rw[ga (by assumption) (by omega)];first|done|rfl|(simp[cb,aw,aK,aW,aX,aj,bc,am,List.take_of_length_le];done)))) ?_;conv=>whnf));(iterate 3 (apply af (ak (by simp[bj]));conv=>whnf));(focus (refine aq (by((rw[ga (by assumption) (by omega)];first|done|rfl|(simp[cb,aw,aK,aW,aX,aj,bc,am,List.take_of_length_le];done)))) ?_;conv=>whnf));(iterate 21 (first|(refine ac (by solve|simp only[bj]|fail) ?_;(conv=>whnf))|(apply ac rfl;(conv=>whnf))|(refine aH (by(rfl)) ?_;(conv=>whnf))|(refine ChkS.mk (by kernel_rfl) ?_;(conv=>whnf))|(refine cm ?_ ?_<;>intro hb<;>(try simp only[eH]at hb)<;>conv=>whnf)|(exact True.intro)));(focus (refine aq (by((rw[pJ (by assumption) (by omega) (by omega)];first|done|rfl|(simp[cb,aw,aK,aW,aX,aj,bc,am,List.take_of_length_le];done)))) ?_;conv=>whnf));(iterate 4 (apply af (ak (by simp[bj]));conv=>whnf));(focus (refine aq (by((rw[pJ (by assumption) (by omega) (by omega)];first|done|rfl|(simp[cb,aw,aK,aW,aX,aj,bc,am,List.take_of_length_le];done)))) ?_;conv=>whnf));(iterate 3 (apply af (ak (by simp[bj]));conv=>whnf));(focus (refine aq (by((rw[pJ (by assumption) (by omega) (by omega)];first|done|rfl|(simp[cb,aw,aK,aW,aX,aj,bc,am,List.take_of_length_le];done)))) ?_;conv=>whnf));(iterate 13 (first|(apply ac rfl;(conv=>whnf))|(apply bL rfl;(conv=>whnf))|(apply aJ rfl;(conv=>whnf))|(refine ax 156 [some 6] ?_;(conv=>whnf))|(exact True.intro)));(focus (apply bo (f:=156);(· repeat' (first|(refine ak ?_;simp[bj];done)|exact be _ _ _ _|apply bg|apply bU|apply bE|apply bB|apply cr|apply cH|apply bT|rfl));refine bz (f:=156) rfl (kT ⟨_,_,_,_,_,_⟩ (by first|omega|(dsimp only;omega)|(simp;omega)) (by first|omega|(dsimp only;omega)|(simp;omega))) ?_;conv=>whnf));(iterate 13 (first|(apply ac rfl;(conv=>whnf))|(refine aG (fun hf=> ?_);(conv=>whnf))|(apply bL rfl;(conv=>whnf))|(refine cm ?_ ?_<;>intro hb<;>(try simp only[eH]at hb)<;>conv=>whnf)|(apply aB;(conv=>whnf))|(refine ag (c95 ..) ?_;(conv=>whnf))));(focus (refine aq (by((rw[pS (by assumption) (by omega) (by omega) (by assumption)];first|done|rfl|(simp[cb,aw,aK,aW,aX,aj,bc,am,List.take_of_length_le];done)))) ?_;conv=>whnf));(iterate 4 (apply af (ak (by simp[bj]));conv=>whnf));(focus (refine aq (by((rw[pS (by assumption) (by omega) (by omega) (by assumption)];first|done|rfl|(simp[cb,aw,aK,aW,aX,aj,bc,am,List.take_of_length_le];done)))) ?_;conv=>whnf));(iterate 3 (apply af (ak (by simp[bj]));conv=>whnf));(focus (refine aq (by((rw[pS (by assumption) (by omega) (by omega) (by assumption)];first|done|rfl|(simp[cb,aw,aK,aW,aX,aj,bc,am,List.take_of_length_le];done)))) ?_;conv=>whnf));(iterate 15 (first|(refine ac (by solve|simp only[bj]|fail) ?_;(conv=>whnf))|(apply ac rfl;(conv=>whnf))|(refine ac (by((first|(simp[ao,am];omega)|(have i1:=aQ (by assumption);first|(simp only[decide_eq_true_eq];omega)|(refine aU rfl ?_;simp only[cB];omega))))) ?_;(conv=>whnf))|(refine ChkS.mk (by kernel_rfl) ?_;(conv=>whnf))|(apply aJ rfl;(conv=>whnf))|(exact True.intro)));(refine aH (by((try simp only[Int.toNat_natCast]);exact aI aj _ _ _ default (by first|omega|(simp;omega)|(have i1:=aQ (by assumption);omega)))) ?_;conv=>whnf);(iterate 30 ((first|refine ac (by solve|simp only[bj]|fail) ?_|apply ac rfl|refine ac (by((first|(simp[ao,am];omega)|(have i1:=aQ (by assumption);first|(simp only[decide_eq_true_eq];omega)|(refine aU rfl ?_;simp only[cB];omega))))) ?_|refine cg ?_|refine ChkS.mk (by kernel_rfl) ?_|apply aJ rfl|refine ax 80 [some 6,none] ?_);conv=>whnf));(focus (apply bo (f:=80);(· repeat' (first|(refine ak ?_;simp[bj];done)|exact be _ _ _ _|apply bg|apply bU|apply bE|apply bB|apply cr|apply cH|apply bT|rfl));refine bz (f:=80) rfl (tI ⟨_,_,_,_,_,_⟩ _ (by first|omega|(dsimp only;omega)|(simp;omega)) (by first|omega|(dsimp only;omega)|(simp;omega))) ?_;conv=>whnf));(refine aG (fun hf=> ?_);conv=>whnf);(apply ac rfl;conv=>whnf);(focus (refine aq (by((rw[pL (by assumption) (by omega) (by omega) (by assumption)];first|done|rfl|(simp[cb,aw,aK,aW,aX,aj,bc,am,List.take_of_length_le];done)))) ?_;conv=>whnf));(iterate 4 ((first|refine af (ak (by solve|simp[bj]|fail)) ?_|apply af rfl);conv=>whnf));(focus (refine aq (by((rw[pL (by assumption) (by omega) (by omega) (by assumption)];first|done|rfl|(simp[cb,aw,aK,aW,aX,aj,bc,am,List.take_of_length_le];done)))) ?_;conv=>whnf));(iterate 3 (apply af (ak (by simp[bj]));conv=>whnf));(focus (refine aq (by((rw[pL (by assumption) (by omega) (by omega) (by assumption)];first|done|rfl|(simp[cb,aw,aK,aW,aX,aj,bc,am,List.take_of_length_le];done)))) ?_;conv=>whnf))
 exact True.intro
set_option maxHeartbeats 2000000 in
theorem B4(h:Hst)(d:Dat)(hg:h.gr.length=4)(hs:h.st.length=8)(hq:h.q.length≤20)(hd:h.ds.length≤40)(h1:d.st.length≤32):Con Tryz.prog 155 [.obj (cb h),.obj (aw d),.int .i64 1] [.obj (cb (cA h d 1).1),.obj (aw (cA h d 1).2.1),.undef] (.int .i64 (cA h d 1).2.2):=by
 have m1:bm (bu d) 0 7=true→bl (h.st.map aj) (bu d).toNat 0 [.int .i64 0] [.int .i64 (iq d)]=(h.st.map aj).set (bu d).toNat [.int .i64 (iq d)]:=fun e=>by
  have e:=aQ e
  rw[gS _ _ _ _ (by omega),List.map_set]
  rfl
 have m2:2≤d.st.length→bu {d with st:=d.st.take (d.st.length-1)}=iq d:=BA
 have m3:d.st.length-1-1=d.st.length-2:=by omega
 have m4:min (d.st.length-2) (d.st.length-1)=d.st.length-2:=by omega
 refine Con.evP 134 [500000,500100] rfl bH dI Tryz.func155 rfl rfl rfl rfl [.tmp 6] rfl ?_
 conv=>whnf
 (iterate 4 ((first|refine ac (by solve|simp only[bj]|fail) ?_|apply ac rfl|refine ac (by refine aU rfl ?_;simp only[cB];omega) ?_);conv=>whnf));(refine aH (by((try simp only[Int.toNat_natCast]);exact aI dT _ _ _ default (by first|omega|(simp;omega)))) ?_;conv=>whnf);(refine cm ?_ ?_<;>intro hb<;>(try simp only[eH]at hb)<;>conv=>whnf);(apply ac rfl;conv=>whnf);(focus (refine aq (by((rw[fP (by assumption)];first|done|rfl|(simp[cb,aw,aK,aW,aX,aj,bc,am,List.take_of_length_le,m1 (by assumption),m2 (by omega),m3,m4,List.map_set,List.map_take,List.take_take];done)))) ?_;conv=>whnf));(iterate 4 (apply af (ak (by simp[bj]));conv=>whnf));(focus (refine aq (by((rw[fP (by assumption)];first|done|rfl|(simp[cb,aw,aK,aW,aX,aj,bc,am,List.take_of_length_le,m1 (by assumption),m2 (by omega),m3,m4,List.map_set,List.map_take,List.take_take];done)))) ?_;conv=>whnf));(iterate 3 (apply af (ak (by simp[bj]));conv=>whnf));(focus (refine aq (by((rw[fP (by assumption)];first|done|rfl|(simp[cb,aw,aK,aW,aX,aj,bc,am,List.take_of_length_le,m1 (by assumption),m2 (by omega),m3,m4,List.map_set,List.map_take,List.take_take];done)))) ?_;conv=>whnf));(iterate 4 (first|(apply ac rfl;(conv=>whnf))|(refine cm ?_ ?_<;>intro hb<;>(try simp only[eH]at hb)<;>conv=>whnf)|(exact True.intro)));(focus (refine aq (by((rw[ga (by assumption) (by omega)];first|done|rfl|(simp[cb,aw,aK,aW,aX,aj,bc,am,List.take_of_length_le,m1 (by assumption),m2 (by omega),m3,m4,List.map_set,List.map_take,List.take_take];done)))) ?_;conv=>whnf));(iterate 4 (apply af (ak (by simp[bj]));conv=>whnf));(focus (refine aq (by((rw[ga (by assumption) (by omega)];first|done|rfl|(simp[cb,aw,aK,aW,aX,aj,bc,am,List.take_of_length_le,m1 (by assumption),m2 (by omega),m3,m4,List.map_set,List.map_take,List.take_take];done)))) ?_;conv=>whnf));(iterate 3 (apply af (ak (by simp[bj]));conv=>whnf));(focus (refine aq (by((rw[ga (by assumption) (by omega)];first|done|rfl|(simp[cb,aw,aK,aW,aX,aj,bc,am,List.take_of_length_le,m1 (by assumption),m2 (by omega),m3,m4,List.map_set,List.map_take,List.take_take];done)))) ?_;conv=>whnf));(iterate 21 (first|(refine ac (by solve|simp only[bj]|fail) ?_;(conv=>whnf))|(apply ac rfl;(conv=>whnf))|(refine aH (by(rfl)) ?_;(conv=>whnf))|(refine ChkS.mk (by kernel_rfl) ?_;(conv=>whnf))|(refine cm ?_ ?_<;>intro hb<;>(try simp only[eH]at hb)<;>conv=>whnf)|(exact True.intro)));(focus (refine aq (by((rw[pU (by assumption) (by omega) (by omega)];first|done|rfl|(simp[cb,aw,aK,aW,aX,aj,bc,am,List.take_of_length_le,m1 (by assumption),m2 (by omega),m3,m4,List.map_set,List.map_take,List.take_take];done)))) ?_;conv=>whnf));(iterate 4 (apply af (ak (by simp[bj]));conv=>whnf));(focus (refine aq (by((rw[pU (by assumption) (by omega) (by omega)];first|done|rfl|(simp[cb,aw,aK,aW,aX,aj,bc,am,List.take_of_length_le,m1 (by assumption),m2 (by omega),m3,m4,List.map_set,List.map_take,List.take_take];done)))) ?_;conv=>whnf));(iterate 3 (apply af (ak (by simp[bj]));conv=>whnf));(focus (refine aq (by((rw[pU (by assumption) (by omega) (by omega)];first|done|rfl|(simp[cb,aw,aK,aW,aX,aj,bc,am,List.take_of_length_le,m1 (by assumption),m2 (by omega),m3,m4,List.map_set,List.map_take,List.take_take];done)))) ?_;conv=>whnf));(iterate 13 (first|(apply ac rfl;(conv=>whnf))|(apply bL rfl;(conv=>whnf))|(apply aJ rfl;(conv=>whnf))|(refine ax 156 [some 6] ?_;(conv=>whnf))|(exact True.intro)));(focus (apply bo (f:=156);(· repeat' (first|(refine ak ?_;simp[bj];done)|exact be _ _ _ _|apply bg|apply bU|apply bE|apply bB|apply cr|apply cH|apply bT|rfl));refine bz (f:=156) rfl (kT ⟨_,_,_,_,_,_⟩ (by first|omega|(dsimp only;omega)|(simp;omega)) (by first|omega|(dsimp only;omega)|(simp;omega))) ?_;conv=>whnf));(iterate 13 (first|(apply ac rfl;(conv=>whnf))|(refine aG (fun hf=> ?_);(conv=>whnf))|(apply bL rfl;(conv=>whnf))|(apply aJ rfl;(conv=>whnf))|(refine cm ?_ ?_<;>intro hb<;>(try simp only[eH]at hb)<;>conv=>whnf)|(apply aB;(conv=>whnf))|(refine ag (c95 ..) ?_;(conv=>whnf))));(focus (refine aq (by((rw[pM (by assumption) (by omega) (by omega) (by assumption)];first|done|rfl|(simp[cb,aw,aK,aW,aX,aj,bc,am,List.take_of_length_le,m1 (by assumption),m2 (by omega),m3,m4,List.map_set,List.map_take,List.take_take];done)))) ?_;conv=>whnf));(iterate 4 (apply af (ak (by simp[bj]));conv=>whnf));(focus (refine aq (by((rw[pM (by assumption) (by omega) (by omega) (by assumption)];first|done|rfl|(simp[cb,aw,aK,aW,aX,aj,bc,am,List.take_of_length_le,m1 (by assumption),m2 (by omega),m3,m4,List.map_set,List.map_take,List.take_take];done)))) ?_;conv=>whnf));(iterate 3 (apply af (ak (by simp[bj]));conv=>whnf));(focus (refine aq (by((rw[pM (by assumption) (by omega) (by omega) (by assumption)];first|done|rfl|(simp[cb,aw,aK,aW,aX,aj,bc,am,List.take_of_length_le,m1 (by assumption),m2 (by omega),m3,m4,List.map_set,List.map_take,List.take_take];done)))) ?_;conv=>whnf));(iterate 4 (first|(apply ac rfl;(conv=>whnf))|(apply bL rfl;(conv=>whnf))|(refine ax 156 [some 6] ?_;(conv=>whnf))|(exact True.intro)));(focus (apply bo (f:=156);(· repeat' (first|(refine ak ?_;simp[bj];done)|exact be _ _ _ _|apply bg|apply bU|apply bE|apply bB|apply cr|apply cH|apply bT|rfl));refine bz (f:=156) rfl (kT ⟨_,_,_,_,_,_⟩ (by first|omega|(dsimp only;omega)|(simp;omega)) (by first|omega|(dsimp only;omega)|(simp;omega))) ?_;conv=>whnf));(iterate 44 ((first|refine ac (by solve|simp only[bj]|fail) ?_|apply ac rfl|refine ac (by((first|(simp[ao,am];omega)|(have i1:=aQ (by assumption);first|(simp only[decide_eq_true_eq];omega)|(refine aU rfl ?_;simp only[cB];omega))))) ?_|apply af rfl|refine cg ?_|refine aG (fun hf=> ?_)|refine ChkS.mk (by kernel_rfl) ?_|apply bL rfl);conv=>whnf));(focus (refine aq (by((rw[pV (by assumption) (by omega) (by omega) (by assumption)];first|done|rfl|(simp[cb,aw,aK,aW,aX,aj,bc,am,List.take_of_length_le,m1 (by assumption),m2 (by omega),m3,m4,List.map_set,List.map_take,List.take_take];done)))) ?_;conv=>whnf));(iterate 4 ((first|refine af (ak (by solve|simp[bj]|fail)) ?_|apply af rfl);conv=>whnf));(focus (refine aq (by((rw[pV (by assumption) (by omega) (by omega) (by assumption)];first|done|rfl|(simp[cb,aw,aK,aW,aX,aj,bc,am,List.take_of_length_le,m1 (by assumption),m2 (by omega),m3,m4,List.map_set,List.map_take,List.take_take];done)))) ?_;conv=>whnf));(iterate 3 (apply af (ak (by simp[bj]));conv=>whnf));(focus (refine aq (by((rw[pV (by assumption) (by omega) (by omega) (by assumption)];first|done|rfl|(simp[cb,aw,aK,aW,aX,aj,bc,am,List.take_of_length_le,m1 (by assumption),m2 (by omega),m3,m4,List.map_set,List.map_take,List.take_take];done)))) ?_;conv=>whnf))
 exact True.intro
set_option maxHeartbeats 2000000 in
theorem B8(h:Hst)(d:Dat)(hg:h.gr.length=4)(hs:h.st.length=8)(hq:h.q.length≤20)(hd:h.ds.length≤40)(h1:d.st.length≤32):Con Tryz.prog 155 [.obj (cb h),.obj (aw d),.int .i64 2] [.obj (cb (cA h d 2).1),.obj (aw (cA h d 2).2.1),.undef] (.int .i64 (cA h d 2).2.2):=by
 refine Con.evP 134 [500000,500100] rfl bH dI Tryz.func155 rfl rfl rfl rfl [.tmp 6] rfl ?_
 conv=>whnf
 (iterate 4 ((first|refine ac (by solve|simp only[bj]|fail) ?_|apply ac rfl|refine ac (by refine aU rfl ?_;simp only[cB];omega) ?_);conv=>whnf));(refine aH (by((try simp only[Int.toNat_natCast]);exact aI dT _ _ _ default (by first|omega|(simp;omega)))) ?_;conv=>whnf);(refine cm ?_ ?_<;>intro hb<;>(try simp only[eH]at hb)<;>conv=>whnf);(apply ac rfl;conv=>whnf);(focus (refine aq (by((rw[fP (by assumption)];first|done|rfl|(simp[cb,aw,aK,aW,aX,aj,bc,am,List.take_of_length_le];done)))) ?_;conv=>whnf));(iterate 4 (apply af (ak (by simp[bj]));conv=>whnf));(focus (refine aq (by((rw[fP (by assumption)];first|done|rfl|(simp[cb,aw,aK,aW,aX,aj,bc,am,List.take_of_length_le];done)))) ?_;conv=>whnf));(iterate 3 (apply af (ak (by simp[bj]));conv=>whnf));(focus (refine aq (by((rw[fP (by assumption)];first|done|rfl|(simp[cb,aw,aK,aW,aX,aj,bc,am,List.take_of_length_le];done)))) ?_;conv=>whnf));(iterate 4 (first|(apply ac rfl;(conv=>whnf))|(refine cm ?_ ?_<;>intro hb<;>(try simp only[eH]at hb)<;>conv=>whnf)|(exact True.intro)));(focus (refine aq (by((rw[ga (by assumption) (by omega)];first|done|rfl|(simp[cb,aw,aK,aW,aX,aj,bc,am,List.take_of_length_le];done)))) ?_;conv=>whnf));(iterate 4 (apply af (ak (by simp[bj]));conv=>whnf));(focus (refine aq (by((rw[ga (by assumption) (by omega)];first|done|rfl|(simp[cb,aw,aK,aW,aX,aj,bc,am,List.take_of_length_le];done)))) ?_;conv=>whnf));(iterate 3 (apply af (ak (by simp[bj]));conv=>whnf));(focus (refine aq (by((rw[ga (by assumption) (by omega)];first|done|rfl|(simp[cb,aw,aK,aW,aX,aj,bc,am,List.take_of_length_le];done)))) ?_;conv=>whnf));(iterate 21 (first|(refine ac (by solve|simp only[bj]|fail) ?_;(conv=>whnf))|(apply ac rfl;(conv=>whnf))|(refine aH (by(rfl)) ?_;(conv=>whnf))|(refine ChkS.mk (by kernel_rfl) ?_;(conv=>whnf))|(refine cm ?_ ?_<;>intro hb<;>(try simp only[eH]at hb)<;>conv=>whnf)|(exact True.intro)));(focus (refine aq (by((rw[pT (by assumption) (by omega) (by omega)];first|done|rfl|(simp[cb,aw,aK,aW,aX,aj,bc,am,List.take_of_length_le];done)))) ?_;conv=>whnf));(iterate 4 (apply af (ak (by simp[bj]));conv=>whnf));(focus (refine aq (by((rw[pT (by assumption) (by omega) (by omega)];first|done|rfl|(simp[cb,aw,aK,aW,aX,aj,bc,am,List.take_of_length_le];done)))) ?_;conv=>whnf));(iterate 3 (apply af (ak (by simp[bj]));conv=>whnf));(focus (refine aq (by((rw[pT (by assumption) (by omega) (by omega)];first|done|rfl|(simp[cb,aw,aK,aW,aX,aj,bc,am,List.take_of_length_le];done)))) ?_;conv=>whnf));(iterate 13 (first|(apply ac rfl;(conv=>whnf))|(apply bL rfl;(conv=>whnf))|(apply aJ rfl;(conv=>whnf))|(refine ax 156 [some 6] ?_;(conv=>whnf))|(exact True.intro)));(focus (apply bo (f:=156);(· repeat' (first|(refine ak ?_;simp[bj];done)|exact be _ _ _ _|apply bg|apply bU|apply bE|apply bB|apply cr|apply cH|apply bT|rfl));refine bz (f:=156) rfl (kT ⟨_,_,_,_,_,_⟩ (by first|omega|(dsimp only;omega)|(simp;omega)) (by first|omega|(dsimp only;omega)|(simp;omega))) ?_;conv=>whnf));(iterate 19 (first|(refine ac (by solve|simp only[bj]|fail) ?_;(conv=>whnf))|(apply ac rfl;(conv=>whnf))|(refine ac (by refine aU rfl ?_;simp only[cB];omega) ?_;(conv=>whnf))|(refine aG (fun hf=> ?_);(conv=>whnf))|(refine ChkS.mk (by kernel_rfl) ?_;(conv=>whnf))|(apply bL rfl;(conv=>whnf))|(apply aJ rfl;(conv=>whnf))|(refine cm ?_ ?_<;>intro hb<;>(try simp only[eH]at hb)<;>conv=>whnf)));(refine aH (by((try simp only[Int.toNat_natCast]);exact aI aj _ _ _ default (by first|omega|(simp;omega)|(have i1:=aQ (by assumption);omega)))) ?_;conv=>whnf);(iterate 44 ((first|refine ac (by solve|simp only[bj]|fail) ?_|apply ac rfl|refine ac (by simp only[Bool.and_eq_true,decide_eq_true_eq,List.length_map];omega) ?_|refine ac (by((first|(simp[ao,am];omega)|(have i1:=aQ (by assumption);first|(simp only[decide_eq_true_eq];omega)|(refine aU rfl ?_;simp only[cB];omega))))) ?_|refine cg ?_|refine ChkS.mk (by kernel_rfl) ?_|apply aJ rfl|refine ax 80 [some 6,none] ?_);conv=>whnf));(focus (apply bo (f:=80);(· repeat' (first|(refine ak ?_;simp[bj];done)|exact be _ _ _ _|apply bg|apply bU|apply bE|apply bB|apply cr|apply cH|apply bT|rfl));refine bz (f:=80) rfl (tI ⟨_,_,_,_,_,_⟩ _ (by first|omega|(dsimp only;omega)|(simp;omega)) (by first|omega|(dsimp only;omega)|(simp;omega))) ?_;conv=>whnf));(refine aG (fun hf=> ?_);conv=>whnf);(apply ac rfl;conv=>whnf);(focus (refine aq (by((rw[nu (by assumption) (by omega) (by omega)];first|done|rfl|(simp[cb,aw,aK,aW,aX,aj,bc,am,List.take_of_length_le];done)))) ?_;conv=>whnf));(iterate 4 ((first|refine af (ak (by solve|simp[bj]|fail)) ?_|apply af rfl);conv=>whnf));(focus (refine aq (by((rw[nu (by assumption) (by omega) (by omega)];first|done|rfl|(simp[cb,aw,aK,aW,aX,aj,bc,am,List.take_of_length_le];done)))) ?_;conv=>whnf));(iterate 3 (apply af (ak (by simp[bj]));conv=>whnf));(focus (refine aq (by((rw[nu (by assumption) (by omega) (by omega)];first|done|rfl|(simp[cb,aw,aK,aW,aX,aj,bc,am,List.take_of_length_le];done)))) ?_;conv=>whnf));(iterate 27 (first|(refine ac (by solve|simp only[bj]|fail) ?_;(conv=>whnf))|(apply ac rfl;(conv=>whnf))|(refine ac (by((first|(simp[ao,am];omega)|(have i1:=aQ (by assumption);first|(simp only[decide_eq_true_eq];omega)|(refine aU rfl ?_;simp only[cB];omega))))) ?_;(conv=>whnf))|(refine cg ?_;(conv=>whnf))|(refine ChkS.mk (by kernel_rfl) ?_;(conv=>whnf))|(apply aJ rfl;(conv=>whnf))|(refine ax 80 [some 6,none] ?_;(conv=>whnf))|(exact True.intro)));(focus (apply bo (f:=80);(· repeat' (first|(refine ak ?_;simp[bj];done)|exact be _ _ _ _|apply bg|apply bU|apply bE|apply bB|apply cr|apply cH|apply bT|rfl));refine bz (f:=80) rfl (tI ⟨_,_,_,_,_,_⟩ _ (by first|omega|(dsimp only;omega)|(simp;omega)) (by first|omega|(dsimp only;omega)|(simp;omega))) ?_;conv=>whnf));(refine aG (fun hf=> ?_);conv=>whnf);(apply ac rfl;conv=>whnf);(focus (refine aq (by((rw[ud (by assumption) (by omega) (by omega) (by omega)];first|done|rfl|(simp[cb,aw,aK,aW,aX,aj,bc,am,List.take_of_length_le];done)))) ?_;conv=>whnf));(iterate 4 ((first|refine af (ak (by solve|simp[bj]|fail)) ?_|apply af rfl);conv=>whnf));(focus (refine aq (by((rw[ud (by assumption) (by omega) (by omega) (by omega)];first|done|rfl|(simp[cb,aw,aK,aW,aX,aj,bc,am,List.take_of_length_le];done)))) ?_;conv=>whnf));(iterate 3 (apply af (ak (by simp[bj]));conv=>whnf));(focus (refine aq (by((rw[ud (by assumption) (by omega) (by omega) (by omega)];first|done|rfl|(simp[cb,aw,aK,aW,aX,aj,bc,am,List.take_of_length_le];done)))) ?_;conv=>whnf))
 exact True.intro
set_option maxHeartbeats 2000000 in
theorem CB(h:Hst)(d:Dat)(hg:h.gr.length=4)(hs:h.st.length=8)(hq:h.q.length≤20)(hd:h.ds.length≤40)(h1:d.st.length≤32):Con Tryz.prog 155 [.obj (cb h),.obj (aw d),.int .i64 3] [.obj (cb (cA h d 3).1),.obj (aw (cA h d 3).2.1),.undef] (.int .i64 (cA h d 3).2.2):=by
 refine Con.evP 134 [500000,500100] rfl bH dI Tryz.func155 rfl rfl rfl rfl [.tmp 6] rfl ?_
 conv=>whnf
 (iterate 4 ((first|refine ac (by solve|simp only[bj]|fail) ?_|apply ac rfl|refine ac (by refine aU rfl ?_;simp only[cB];omega) ?_);conv=>whnf));(refine aH (by((try simp only[Int.toNat_natCast]);exact aI dT _ _ _ default (by first|omega|(simp;omega)))) ?_;conv=>whnf);(refine cm ?_ ?_<;>intro hb<;>(try simp only[eH]at hb)<;>conv=>whnf);(apply ac rfl;conv=>whnf);(focus (refine aq (by((rw[fP (by assumption)];first|done|rfl|(simp[cb,aw,aK,aW,aX,aj,bc,am,List.take_of_length_le];done)))) ?_;conv=>whnf));(iterate 4 (apply af (ak (by simp[bj]));conv=>whnf));(focus (refine aq (by((rw[fP (by assumption)];first|done|rfl|(simp[cb,aw,aK,aW,aX,aj,bc,am,List.take_of_length_le];done)))) ?_;conv=>whnf));(iterate 3 (apply af (ak (by simp[bj]));conv=>whnf));(focus (refine aq (by((rw[fP (by assumption)];first|done|rfl|(simp[cb,aw,aK,aW,aX,aj,bc,am,List.take_of_length_le];done)))) ?_;conv=>whnf));(iterate 4 (first|(apply ac rfl;(conv=>whnf))|(refine cm ?_ ?_<;>intro hb<;>(try simp only[eH]at hb)<;>conv=>whnf)|(exact True.intro)));(focus (refine aq (by((rw[ga (by assumption) (by omega)];first|done|rfl|(simp[cb,aw,aK,aW,aX,aj,bc,am,List.take_of_length_le];done)))) ?_;conv=>whnf));(iterate 4 (apply af (ak (by simp[bj]));conv=>whnf));(focus (refine aq (by((rw[ga (by assumption) (by omega)];first|done|rfl|(simp[cb,aw,aK,aW,aX,aj,bc,am,List.take_of_length_le];done)))) ?_;conv=>whnf));(iterate 3 (apply af (ak (by simp[bj]));conv=>whnf));(focus (refine aq (by((rw[ga (by assumption) (by omega)];first|done|rfl|(simp[cb,aw,aK,aW,aX,aj,bc,am,List.take_of_length_le];done)))) ?_;conv=>whnf));(iterate 29 (first|(refine ac (by solve|simp only[bj]|fail) ?_;(conv=>whnf))|(apply ac rfl;(conv=>whnf))|(refine aH (by(rfl)) ?_;(conv=>whnf))|(refine ChkS.mk (by kernel_rfl) ?_;(conv=>whnf))|(apply bL rfl;(conv=>whnf))|(apply aJ rfl;(conv=>whnf))|(refine cm ?_ ?_<;>intro hb<;>(try simp only[eH]at hb)<;>conv=>whnf)|(exact True.intro)));(focus (refine aq (by((rw[pW (by assumption) (by omega) (by omega)];first|done|rfl|(simp[cb,aw,aK,aW,aX,aj,bc,am,List.take_of_length_le];done)))) ?_;conv=>whnf));(iterate 4 (apply af (ak (by simp[bj]));conv=>whnf));(focus (refine aq (by((rw[pW (by assumption) (by omega) (by omega)];first|done|rfl|(simp[cb,aw,aK,aW,aX,aj,bc,am,List.take_of_length_le];done)))) ?_;conv=>whnf));(iterate 3 (apply af (ak (by simp[bj]));conv=>whnf));(focus (refine aq (by((rw[pW (by assumption) (by omega) (by omega)];first|done|rfl|(simp[cb,aw,aK,aW,aX,aj,bc,am,List.take_of_length_le];done)))) ?_;conv=>whnf));(iterate 34 (first|(refine ac (by solve|simp only[bj]|fail) ?_;(conv=>whnf))|(apply ac rfl;(conv=>whnf))|(refine ac (by((first|(simp[ao,am];omega)|(have i1:=aQ (by assumption);first|(simp only[decide_eq_true_eq];omega)|(refine aU rfl ?_;simp only[cB];omega))))) ?_;(conv=>whnf))|(refine cg ?_;(conv=>whnf))|(refine ChkS.mk (by kernel_rfl) ?_;(conv=>whnf))|(apply aJ rfl;(conv=>whnf))|(refine ax 80 [some 6,none] ?_;(conv=>whnf))|(exact True.intro)));(focus (apply bo (f:=80);(· repeat' (first|(refine ak ?_;simp[bj];done)|exact be _ _ _ _|apply bg|apply bU|apply bE|apply bB|apply cr|apply cH|apply bT|rfl));refine bz (f:=80) rfl (tI ⟨_,_,_,_,_,_⟩ _ (by first|omega|(dsimp only;omega)|(simp;omega)) (by first|omega|(dsimp only;omega)|(simp;omega))) ?_;conv=>whnf));(refine aG (fun hf=> ?_);conv=>whnf);(apply ac rfl;conv=>whnf);(focus (refine aq (by((rw[pR (by assumption) (by omega) (by omega)];first|done|rfl|(simp[cb,aw,aK,aW,aX,aj,bc,am,List.take_of_length_le];done)))) ?_;conv=>whnf));(iterate 4 ((first|refine af (ak (by solve|simp[bj]|fail)) ?_|apply af rfl);conv=>whnf));(focus (refine aq (by((rw[pR (by assumption) (by omega) (by omega)];first|done|rfl|(simp[cb,aw,aK,aW,aX,aj,bc,am,List.take_of_length_le];done)))) ?_;conv=>whnf));(iterate 3 (apply af (ak (by simp[bj]));conv=>whnf));(focus (refine aq (by((rw[pR (by assumption) (by omega) (by omega)];first|done|rfl|(simp[cb,aw,aK,aW,aX,aj,bc,am,List.take_of_length_le];done)))) ?_;conv=>whnf))
 exact True.intro
end H2

/- Calls of the host: the program's and the reference's functions, contracts. -/
open Go Go.Abs Go.Proofs V1 H1 H2
namespace H3
theorem small_host{h:Hst}(e:HostOk h):dA h:=by
 obtain⟨h1,h2,h3,h4,h5,h6,h7,h8⟩:=e
 exact⟨by omega,by omega,by omega,by omega⟩
theorem jO{d:Dat}(e:DataOk d):ep d:=by
 obtain⟨h1,h2,h3,h4,h5,h6,h7,h8,h9⟩:=e
 exact⟨by omega,by omega,by omega,by omega⟩
theorem ir{h h':Hst}{d d':Dat}{c:Nat}{th:Int}(e:cA h d c=(h',d',th))(z:th=0):bC h d c=(h',d',0):=by rw[bC,e,if_pos z,z]
theorem fj{h h':Hst}{d d':Dat}{c:Nat}{th:Int}(e:cA h d c=(h',d',th))(z: ¬th=0):bC h d c=(h,d,th):=by rw[bC,e,if_neg z]
theorem DY(h:Hst)(d:Dat)(hh:HostOk h)(hd:DataOk d):Con Tryz.prog 116 [cV h,az d,.int .i64 0] (aa [cV h,az d,.int .i64 0]) (.tup [fR (bC h d 0).1,jY (bC h d 0).2.1,.int .i64 (bC h d 0).2.2]):=by
 have s1:=small_host hh
 have s2:=jO hd
 have k:=Bp h d hh.gr hh.st hh.q hh.ds hd.st
 generalize hr:cA h d 0=r at k
 obtain⟨h',d',th⟩:=r
 dsimp only at k
 refine rn 27 Tryz.func116 [.cell 6 38,.cell 7 35,.tmp 8] (g:= ?_)
 conv=>whnf
 repeat' (first|(refine ax 155 [some 5,some 6,none] ?_;conv=>whnf)|(refine eo ((k:Con _ _ _ _ _)) ?_;conv=>whnf)|(refine ag (c76 _ s1) ?_;conv=>whnf)|(refine ag (c75 _ s2) ?_;conv=>whnf)|(focus (refine aA ?_;((rw[ir hr (by assumption)];first|done|rfl|(simp[fR,jY,cb,aw,aK,aW,aX,aj,bc,am];done)))))|(focus (refine aA ?_;((rw[fj hr (by assumption)];first|done|rfl|(simp[fR,jY,cb,aw,aK,aW,aX,aj,bc,am];done)))))|refine aO ?_|(refine bS ?_ ?_<;>intro hb))
theorem CQ(h:Hst)(d:Dat)(hh:HostOk h)(hd:DataOk d):Con Tryz.prog 116 [cV h,az d,.int .i64 1] (aa [cV h,az d,.int .i64 1]) (.tup [fR (bC h d 1).1,jY (bC h d 1).2.1,.int .i64 (bC h d 1).2.2]):=by
 have s1:=small_host hh
 have s2:=jO hd
 have k:=B4 h d hh.gr hh.st hh.q hh.ds hd.st
 generalize hr:cA h d 1=r at k
 obtain⟨h',d',th⟩:=r
 dsimp only at k
 refine rn 27 Tryz.func116 [.cell 6 38,.cell 7 35,.tmp 8] (g:= ?_)
 conv=>whnf
 repeat' (first|(refine ax 155 [some 5,some 6,none] ?_;conv=>whnf)|(refine eo ((k:Con _ _ _ _ _)) ?_;conv=>whnf)|(refine ag (c76 _ s1) ?_;conv=>whnf)|(refine ag (c75 _ s2) ?_;conv=>whnf)|(focus (refine aA ?_;((rw[ir hr (by assumption)];first|done|rfl|(simp[fR,jY,cb,aw,aK,aW,aX,aj,bc,am];done)))))|(focus (refine aA ?_;((rw[fj hr (by assumption)];first|done|rfl|(simp[fR,jY,cb,aw,aK,aW,aX,aj,bc,am];done)))))|refine aO ?_|(refine bS ?_ ?_<;>intro hb))
theorem DC(h:Hst)(d:Dat)(hh:HostOk h)(hd:DataOk d):Con Tryz.prog 116 [cV h,az d,.int .i64 2] (aa [cV h,az d,.int .i64 2]) (.tup [fR (bC h d 2).1,jY (bC h d 2).2.1,.int .i64 (bC h d 2).2.2]):=by
 have s1:=small_host hh
 have s2:=jO hd
 have k:=B8 h d hh.gr hh.st hh.q hh.ds hd.st
 generalize hr:cA h d 2=r at k
 obtain⟨h',d',th⟩:=r
 dsimp only at k
 refine rn 27 Tryz.func116 [.cell 6 38,.cell 7 35,.tmp 8] (g:= ?_)
 conv=>whnf
 repeat' (first|(refine ax 155 [some 5,some 6,none] ?_;conv=>whnf)|(refine eo ((k:Con _ _ _ _ _)) ?_;conv=>whnf)|(refine ag (c76 _ s1) ?_;conv=>whnf)|(refine ag (c75 _ s2) ?_;conv=>whnf)|(focus (refine aA ?_;((rw[ir hr (by assumption)];first|done|rfl|(simp[fR,jY,cb,aw,aK,aW,aX,aj,bc,am];done)))))|(focus (refine aA ?_;((rw[fj hr (by assumption)];first|done|rfl|(simp[fR,jY,cb,aw,aK,aW,aX,aj,bc,am];done)))))|refine aO ?_|(refine bS ?_ ?_<;>intro hb))
theorem CY(h:Hst)(d:Dat)(hh:HostOk h)(hd:DataOk d):Con Tryz.prog 116 [cV h,az d,.int .i64 3] (aa [cV h,az d,.int .i64 3]) (.tup [fR (bC h d 3).1,jY (bC h d 3).2.1,.int .i64 (bC h d 3).2.2]):=by
 have s1:=small_host hh
 have s2:=jO hd
 have k:=CB h d hh.gr hh.st hh.q hh.ds hd.st
 generalize hr:cA h d 3=r at k
 obtain⟨h',d',th⟩:=r
 dsimp only at k
 refine rn 27 Tryz.func116 [.cell 6 38,.cell 7 35,.tmp 8] (g:= ?_)
 conv=>whnf
 repeat' (first|(refine ax 155 [some 5,some 6,none] ?_;conv=>whnf)|(refine eo ((k:Con _ _ _ _ _)) ?_;conv=>whnf)|(refine ag (c76 _ s1) ?_;conv=>whnf)|(refine ag (c75 _ s2) ?_;conv=>whnf)|(focus (refine aA ?_;((rw[ir hr (by assumption)];first|done|rfl|(simp[fR,jY,cb,aw,aK,aW,aX,aj,bc,am];done)))))|(focus (refine aA ?_;((rw[fj hr (by assumption)];first|done|rfl|(simp[fR,jY,cb,aw,aK,aW,aX,aj,bc,am];done)))))|refine aO ?_|(refine bS ?_ ?_<;>intro hb))
end H3

/- HostCall: the program's function, and the reference's. -/
open Go Go.Abs Go.Proofs V1 H1 H2 H3
namespace H4
theorem FM(h:Hst)(d:Dat)(c:Int)(hh:cU h=true)(hd:eX d=true)(hc:bm c 0 3=true):Con Tryz.prog 116 [cV h,az d,.int .i64 c] (aa [cV h,az d,.int .i64 c]) (.tup [fR (bC h d c.toNat).1,jY (bC h d c.toNat).2.1,.int .i64 (bC h d c.toNat).2.2]):=by
 have e:=aQ hc
 have hh:=(gZ h).1 hh
 have hd:=(gQ d).1 hd
 have:c=0∨c=1∨c=2∨c=3:=by omega
 rcases this with rfl|rfl|rfl|rfl
 ·exact DY h d hh hd
 ·exact CQ h d hh hd
 ·exact DC h d hh hd
 ·exact CY h d hh hd
section
variable{h:Hst}{d:Dat}{c:Int}
end
end H4

/- HostCall: the reference's parts. -/
open Go Go.Abs Go.Proofs V1 H1 H2 H3
namespace H5
theorem oy{d:Dat}{t:Nat}{l:List Int}(e:d.st.length-t+l.length>32):bt d t l=(d,-3):=by rw[bt,if_pos e]
theorem gq{d:Dat}{t:Nat}{l:List Int}(e: ¬d.st.length-t+l.length>32):bt d t l=({d with st:=d.st.take (d.st.length-t)++l},0):=by rw[bt,if_neg e]
theorem mv{x y:AV}(h:x=y):Sh x y:=h▸Sh.refl x
theorem wO{α:Type}{n:Nat}(hn:n≤1){z:List AV}{f:α→List AV}{xs ys:List α}(e:xs=ys):Sh (.own n z (xs.map f)) (.ro z (ys.map f)):=e▸Sh.own_ro hn _ _
theorem put(d:Dat)(t:Int)(l:List Int)(h:d.st.length≤32)(h0:0≤t)(ht:t≤d.st.length)(hl:l.length≤4):Con Tryz.prog 147 [az d,.int .i64 t,dL l] (aa [az d,.int .i64 t,dL l]) (.tup [az (bt d t.toNat l).1,.int .i64 (bt d t.toNat l).2]):=by
 have w1:IntKind.i64.wrap ((d.st.length:Int)-t)=((d.st.length-t.toNat:Nat):Int):=by rw[ai (by omega) (by omega)];omega
 have w2:IntKind.i64.wrap (((d.st.length-t.toNat:Nat):Int)+l.length)=((d.st.length-t.toNat+l.length:Nat):Int):=by rw[ai (by omega) (by omega)];omega
 refine rn 30 Tryz.func147 [.cell 6 35,.tmp 7] (g:= ?_)
 conv=>whnf
 iterate 14 (first|(apply ac rfl;(conv=>whnf))|(apply af rfl;(conv=>whnf))|(refine cm ?_ ?_<;>intro hb<;>(try simp only[eH]at hb)<;>conv=>whnf))
 rotate_left
 (iterate 7 ((first|apply ac rfl|refine ac (by refine aU rfl ?_;simp only[cB];omega) ?_|refine ac (by simp only[Bool.and_eq_true,decide_eq_true_eq,List.length_map];omega) ?_);conv=>whnf));(apply ac (by((first|(simp[w1,w2,ao,AV.plain,am];done)|(simp[w1,w2,ao,AV.plain,am];omega))));conv=>whnf);(iterate 4 ((first|refine ac (by solve|simp only[bj]|fail) ?_|apply ac rfl|refine cg ?_);conv=>whnf));(apply ac (by((first|(simp[w1,w2,ao,AV.plain,am];done)|(simp[w1,w2,ao,AV.plain,am];omega))));conv=>whnf);iterate 14 ((first|refine ac (by solve|simp only[bj]|fail) ?_|apply ac rfl|apply af rfl|refine cg ?_);conv=>whnf)
 rotate_left
 all_goals rw[w1,w2]at hb
 ·exact⟨by rw[oy (by omega)];exact Sh.refl _⟩
 ·rw[gq (by omega)]
  refine⟨Sh.tup ⟨Sh.agg ⟨?_,Sh.refl _,Sh.refl _,Sh.refl _,Sh.refl _,Sh.refl _,trivial⟩,Sh.refl _,trivial⟩⟩
  refine Sh.trans ?_ (Sh.own_ro (lvl:=1) (by omega) _ _)
  refine mv ?_
  simp[am,w1,List.take_of_length_le]
theorem nn(d:Dat)(t:Int)(h:d.st.length≤32)(h0:0≤t)(ht:t≤d.st.length):Con Tryz.prog 147 [az d,.int .i64 t,AV.emp] (aa [az d,.int .i64 t,AV.emp]) (.tup [az (bt d t.toNat []).1,.int .i64 (bt d t.toNat []).2]):=by
 have w1:IntKind.i64.wrap ((d.st.length:Int)-t)=((d.st.length-t.toNat:Nat):Int):=by rw[ai (by omega) (by omega)];omega
 have w2:IntKind.i64.wrap (((d.st.length-t.toNat:Nat):Int)+((0:Nat):Int))=((d.st.length-t.toNat:Nat):Int):=by rw[ai (by omega) (by omega)];omega
 refine rn 30 Tryz.func147 [.cell 6 35,.tmp 7] (g:= ?_)
 conv=>whnf
 iterate 14 (first|(apply ac rfl;(conv=>whnf))|(apply af rfl;(conv=>whnf))|(refine cm ?_ ?_<;>intro hb<;>(try simp only[eH]at hb)<;>conv=>whnf))
 rotate_left
 (iterate 7 ((first|apply ac rfl|refine ac (by refine aU rfl ?_;simp only[cB];omega) ?_|refine ac (by simp only[Bool.and_eq_true,decide_eq_true_eq,List.length_map];omega) ?_);conv=>whnf));(apply ac (by((first|(simp[w1,w2,ao,AV.plain,am];done)|(simp[w1,w2,ao,AV.plain,am];omega))));conv=>whnf);(iterate 3 ((first|refine ac (by solve|simp only[bj]|fail) ?_|apply ac rfl|refine cg ?_);conv=>whnf));(apply ac (by((first|(simp[w1,w2,ao,AV.plain,am];done)|(simp[w1,w2,ao,AV.plain,am];omega))));conv=>whnf);iterate 14 ((first|refine ac (by solve|simp only[bj]|fail) ?_|apply ac rfl|apply af rfl|refine cg ?_);conv=>whnf)
 rotate_left
 all_goals rw[w1,w2]at hb
 ·exact⟨by rw[oy (by simp;omega)];exact Sh.refl _⟩
 ·rw[gq (by simp;omega)]
  refine⟨Sh.tup ⟨Sh.agg ⟨?_,Sh.refl _,Sh.refl _,Sh.refl _,Sh.refl _,Sh.refl _,trivial⟩,Sh.refl _,trivial⟩⟩
  refine Sh.trans ?_ (Sh.own_ro (lvl:=1) (by omega) _ _)
  refine mv ?_
  simp[am,w1,List.take_of_length_le]
theorem rj:Con Tryz.prog 145 [.int .i64 0] (aa [.int .i64 0]) (.int .i64 1):=
 rn 7 Tryz.func145 [.tmp 2] (g:=go)
theorem Gr:Con Tryz.prog 145 [.int .i64 1] (aa [.int .i64 1]) (.int .i64 2):=
 rn 7 Tryz.func145 [.tmp 2] (g:=go)
theorem qC:Con Tryz.prog 145 [.int .i64 2] (aa [.int .i64 2]) (.int .i64 1):=
 rn 7 Tryz.func145 [.tmp 2] (g:=go)
theorem rx:Con Tryz.prog 145 [.int .i64 3] (aa [.int .i64 3]) (.int .i64 0):=
 rn 7 Tryz.func145 [.tmp 2] (g:=go)
def eT(h:Hst)(a b:Int):Nat→Hst × Int × Int
 |0=>if bm b 0 7=false then(h,0,-9)else({h with ds:=h.ds++[⟨0,b,0,h.st.getD b.toNat 0⟩]},h.st.getD b.toNat 0,0)
 |1=>if bm b 0 7=false then(h,0,-9)else({h with st:=h.st.set b.toNat a,ds:=h.ds++[⟨1,b,a,0⟩]},0,0)
 |2=>({h with q:=h.q.drop 1,ds:=h.ds++[⟨2,b,0,h.q.getD 0 0⟩]},h.q.getD 0 0,0)
 |_=>({h with ds:=h.ds++[⟨3,0,0,h.tk⟩]},h.tk,0)
theorem Jj(h:Hst)(hs:dA h)(a b:Int)(hd:h.ds.length≤40):Con Tryz.prog 146 [cV h,.int .i64 3,.int .i64 a,.int .i64 b] (aa [cV h,.int .i64 3,.int .i64 a,.int .i64 b]) (.tup [fR (eT h a b 3).1,.int .i64 (eT h a b 3).2.1,.int .i64 (eT h a b 3).2.2]):=by
 refine rn 75 Tryz.func146 [.cell 8 38,.tmp 9,.tmp 10] (g:= ?_)
 conv=>whnf
 repeat' (first|(refine ag (c66 _ hs) ?_;conv=>whnf)|(focus (refine aA ?_;(first|rfl|(simp[eT,fR,cb,aK,aW,aX,aj,bc,am,List.take_of_length_le];done))))|refine aO ?_)
theorem Jd(h:Hst)(hs:dA h)(a b:Int)(hd:h.ds.length≤40):Con Tryz.prog 146 [cV h,.int .i64 2,.int .i64 a,.int .i64 b] (aa [cV h,.int .i64 2,.int .i64 a,.int .i64 b]) (.tup [fR (eT h a b 2).1,.int .i64 (eT h a b 2).2.1,.int .i64 (eT h a b 2).2.2]):=by
 refine rn 75 Tryz.func146 [.cell 8 38,.tmp 9,.tmp 10] (g:= ?_)
 conv=>whnf
 (iterate 9 (first|(refine ag (c66 _ hs) ?_;conv=>whnf)|refine im ?_|refine bN ?_|(refine bS ?_ ?_<;>intro hb)));(refine aH (by((try simp only[Int.toNat_natCast]);exact aI aj _ _ _ default (by first|omega|(simp;omega)|(have i1:=aQ (by assumption);omega)))) ?_;conv=>whnf);(iterate 7 (first|refine im ?_|refine bN ?_));(focus (refine aA ?_;(first|rfl|(simp[eT,fR,cb,aK,aW,aX,aj,bc,am,List.take_of_length_le];done))));iterate 7 (first|refine im ?_|refine bN ?_)
 rotate_left
 ·have q0:h.q=[]:=List.length_eq_zero_iff.1 (by omega)
  exact⟨by simp[eT,fR,cb,aK,aW,aX,aj,bc,am,List.take_of_length_le,q0];exact Sh.refl _⟩
theorem Jl(h:Hst)(hs:dA h)(a b:Int)(hst:h.st.length=8)(hd:h.ds.length≤40):Con Tryz.prog 146 [cV h,.int .i64 0,.int .i64 a,.int .i64 b] (aa [cV h,.int .i64 0,.int .i64 a,.int .i64 b]) (.tup [fR (eT h a b 0).1,.int .i64 (eT h a b 0).2.1,.int .i64 (eT h a b 0).2.2]):=by
 refine rn 75 Tryz.func146 [.cell 8 38,.tmp 9,.tmp 10] (g:= ?_)
 conv=>whnf
 repeat' (first|(apply ac (by((first|(simp[ao,am];omega)|(have i1:=aQ (by assumption);simp[ao,am];omega))));conv=>whnf)|(refine aH (by((try simp only[Int.toNat_natCast]);exact aI aj _ _ _ default (by first|omega|(simp;omega)|(have i1:=aQ (by assumption);omega)))) ?_;conv=>whnf)|(refine ag (c66 _ hs) ?_;conv=>whnf)|(focus (refine aA ?_;(first|rfl|(simp[eT,fR,cb,aK,aW,aX,aj,bc,am,List.take_of_length_le, *];done))))|refine bN ?_|refine im ?_|(refine bS ?_ ?_<;>intro hb))
theorem Jf(h:Hst)(hs:dA h)(a b:Int)(hst:h.st.length=8)(hd:h.ds.length≤40):Con Tryz.prog 146 [cV h,.int .i64 1,.int .i64 a,.int .i64 b] (aa [cV h,.int .i64 1,.int .i64 a,.int .i64 b]) (.tup [fR (eT h a b 1).1,.int .i64 (eT h a b 1).2.1,.int .i64 (eT h a b 1).2.2]):=by
 have m1:bm b 0 7=true→bl (h.st.map aj) b.toNat 0 [.int .i64 0] [.int .i64 a]=(h.st.map aj).set b.toNat [.int .i64 a]:=fun e=>by
  have e:=aQ e
  rw[gS _ _ _ _ (by omega),List.map_set]
  rfl
 refine rn 75 Tryz.func146 [.cell 8 38,.tmp 9,.tmp 10] (g:= ?_)
 conv=>whnf
 repeat' (first|(apply ac (by((first|(simp[ao,am];omega)|(have i1:=aQ (by assumption);simp[ao,am];omega))));conv=>whnf)|(refine ag (c66 _ hs) ?_;conv=>whnf)|(focus (refine aA ?_;(first|rfl|(simp[eT,fR,cb,aK,aW,aX,aj,bc,am,List.take_of_length_le, *];done))))|refine aO ?_|(refine bS ?_ ?_<;>intro hb))
end H5

/- HostCall: the reference. -/
open Go Go.Abs Go.Proofs V1 H1 H2 H3 H4 H5
namespace H6
section
variable{h:Hst}{d:Dat}{c:Nat}
theorem CO(a:h.gr.getD c false=false):bC h d c=(h,d,-100):=fj (fP a) (by decide)
theorem Ei(a:h.gr.getD c false=true)(b:h.ds.length=40):bC h d c=(h,d,-8):=fj (ga a b) (by decide)
theorem IQ(a:h.gr.getD 0 false=true)(b: ¬h.ds.length=40)(e:d.st.length<1):bC h d 0=(h,d,-4):=fj (pJ a b e) (by decide)
theorem Ig(a:h.gr.getD 1 false=true)(b: ¬h.ds.length=40)(e:d.st.length<2):bC h d 1=(h,d,-4):=fj (pU a b e) (by decide)
theorem Hu(a:h.gr.getD 2 false=true)(b: ¬h.ds.length=40)(e:d.st.length<1):bC h d 2=(h,d,-4):=fj (pT a b e) (by decide)
theorem Hh(a:h.gr.getD 3 false=true)(b: ¬h.ds.length=40)(e:d.st.length=32):bC h d 3=(h,d,-3):=fj (pW a b e) (by decide)
theorem k0(x:Int)(a:h.gr.getD 0 false=true)(b: ¬h.ds.length=40)(e: ¬d.st.length<1)(h1:d.st.length≤32):bC h d 0=if(eT h x (bu d) 0).2.2=0 then((eT h x (bu d) 0).1,(bt d 1 [(eT h x (bu d) 0).2.1]).1,0)else(h,d,(eT h x (bu d) 0).2.2):=by
 cases hin:bm (bu d) 0 7
 ·rw[fj (pS a b e hin) (by decide)]
  simp[eT,hin]
 ·rw[ir (pL a b e hin) rfl,gq (by simp;omega)]
  simp[eT,hin]
theorem k1(a:h.gr.getD 1 false=true)(b: ¬h.ds.length=40)(e: ¬d.st.length<2)(h1:d.st.length≤32):bC h d 1=if(eT h (iq d) (bu d) 1).2.2=0 then((eT h (iq d) (bu d) 1).1,(bt d 2 []).1,0)else(h,d,(eT h (iq d) (bu d) 1).2.2):=by
 cases hin:bm (bu d) 0 7
 ·rw[fj (pM a b e hin) (by decide)]
  simp[eT,hin]
 ·rw[ir (pV a b e hin) rfl,gq (by simp;omega)]
  simp[eT,hin]
theorem k2(x:Int)(a:h.gr.getD 2 false=true)(b: ¬h.ds.length=40)(e: ¬d.st.length<1)(h1:d.st.length≤32):bC h d 2=((eT h x (bu d) 2).1,(bt d 1 [(eT h x (bu d) 2).2.1]).1,0):=by
 rw[ir (nu a b e) rfl,gq (by simp;omega)]
 simp[eT]
theorem k3(x y:Int)(a:h.gr.getD 3 false=true)(b: ¬h.ds.length=40)(e: ¬d.st.length=32)(h1:d.st.length≤32):bC h d 3=((eT h x y 3).1,(bt d 0 [(eT h x y 3).2.1]).1,0):=by
 rw[ir (pR a b e) rfl,gq (by simp;omega)]
 simp[eT]
theorem pK(z:List AV)(e:1≤d.st.length)(h1:d.st.length≤32):dn (d.st.map aj) (Int.toNat (IntKind.i64.wrap ((d.st.length:Int)-1))) z=[.int .i64 (bu d)]:=by
 rw[ai (by omega) (by omega),show((d.st.length:Int)-1).toNat=d.st.length-1 by omega]
 exact eQ _ _ _ (by omega)
theorem iD(z:List AV)(e:2≤d.st.length)(h1:d.st.length≤32):dn (d.st.map aj) (Int.toNat (IntKind.i64.wrap ((d.st.length:Int)-2))) z=[.int .i64 (iq d)]:=by
 rw[ai (by omega) (by omega),show((d.st.length:Int)-2).toNat=d.st.length-2 by omega]
 exact eQ _ _ _ (by omega)
end
theorem FJ(h:Hst):HA [.own 0 [.bool false] (h.gr.map dT),.own 0 [.int .i64 0] (h.st.map aj),.own 0 [.int .i64 0] (h.q.map aj),.int .i64 h.tk,.own 0 [.int .i64 0,.int .i64 0,.int .i64 0,.int .i64 0] (h.ds.map bc)] (Ek h):=⟨Sh.own_ro (by omega) _ _,Sh.own_ro (by omega) _ _,Sh.own_ro (by omega) _ _,Sh.refl _,Sh.own_ro (by omega) _ _,trivial⟩
theorem iw(h:Hst)(d:Dat)(n:Int):Sh (.tup [fR h,az d,.int .i64 n]) (.tup [cV h,az d,.int .i64 n]):=Sh.tup ⟨Sh.agg (FJ h),Sh.refl _,Sh.refl _,trivial⟩
set_option maxHeartbeats 2000000 in
theorem Bp(h:Hst)(d:Dat)(hh:HostOk h)(hd:DataOk d):Con Tryz.prog 105 [cV h,az d,.int .i64 0] (aa [cV h,az d,.int .i64 0]) (.tup [cV (bC h d 0).1,az (bC h d 0).2.1,.int .i64 (bC h d 0).2.2]):=by
 have s1:=small_host hh
 have g1:=hh.gr
 have g2:=hd.st
 refine rn 96 Tryz.func105 [.cell 6 38,.cell 7 35,.tmp 8] (g:= ?_)
 conv=>whnf
 (iterate 6 ((first|apply ac rfl|refine ac (by refine aU rfl ?_;simp only[cB];omega) ?_);conv=>whnf));(refine aH (by((try simp only[Int.toNat_natCast]);exact aI dT _ _ _ default (by first|omega|(simp;omega)))) ?_;conv=>whnf);iterate 28 (first|(apply ac rfl;(conv=>whnf))|(apply af rfl;(conv=>whnf))|(refine ChkS.mk (by kernel_rfl) ?_;(conv=>whnf))|(refine cm ?_ ?_<;>intro hb<;>(try simp only[eH]at hb)<;>conv=>whnf))
 rotate_left
 iterate 29 (first|(apply ac rfl;(conv=>whnf))|(apply af rfl;(conv=>whnf))|(refine ChkS.mk (by kernel_rfl) ?_;(conv=>whnf))|(refine cm ?_ ?_<;>intro hb<;>(try simp only[eH]at hb)<;>conv=>whnf))
 rotate_left
 iterate 32 (first|(apply ac rfl;(conv=>whnf))|(apply af rfl;(conv=>whnf))|(refine aG (fun hf=> ?_);(conv=>whnf))|(refine ChkS.mk (by kernel_rfl) ?_;(conv=>whnf))|(refine cm ?_ ?_<;>intro hb<;>(try simp only[eH]at hb)<;>conv=>whnf)|(apply aB;(conv=>whnf))|(refine ag (rj ..) ?_;(conv=>whnf)))
 rotate_left
 (iterate 6 (first|(apply ac rfl;(conv=>whnf))|(apply aJ rfl;(conv=>whnf))|(refine cm ?_ ?_<;>intro hb<;>(try simp only[eH]at hb)<;>conv=>whnf)));(iterate 2 (refine ac (by(((first|(simp[ao,am];done)|(refine aU rfl ?_;simp only[cB];rw[ai (by omega) (by omega)];omega)|(simp only[decide_eq_true_eq,Bool.and_eq_true,List.length_map];rw[ai (by omega) (by omega)];omega)|(simp[ao,am];omega))))) ?_;conv=>whnf));(refine aH (by((try simp only[Nat.zero_add,List.length_map]);exact pK _ (by omega) (by omega))) ?_;conv=>whnf);(refine cm ?_ ?_<;>intro hb<;>(try simp only[eH]at hb)<;>conv=>whnf);(apply ac rfl;conv=>whnf);(iterate 2 (refine ac (by(((first|(simp[ao,am];done)|(refine aU rfl ?_;simp only[cB];rw[ai (by omega) (by omega)];omega)|(simp only[decide_eq_true_eq,Bool.and_eq_true,List.length_map];rw[ai (by omega) (by omega)];omega)|(simp[ao,am];omega))))) ?_;conv=>whnf));(refine aH (by((try simp only[Nat.zero_add,List.length_map]);exact iD _ (by omega) (by omega))) ?_;conv=>whnf);iterate 45 (first|(apply ac rfl;(conv=>whnf))|(apply af rfl;(conv=>whnf))|(refine aG (fun hf=> ?_);(conv=>whnf))|(refine ChkS.mk (by kernel_rfl) ?_;(conv=>whnf))|(refine cm ?_ ?_<;>intro hb<;>(try simp only[eH]at hb)<;>conv=>whnf)|(apply aB;(conv=>whnf))|(refine ag (Jl _ s1 _ _ hh.st hh.ds) ?_;(conv=>whnf)))
 rotate_left
 (iterate 23 ((first|refine ac (by solve|simp only[bj]|fail) ?_|apply ac rfl|refine af (ak (by solve|simp[bj]|fail)) ?_|apply af rfl|refine ChkS.mk (by kernel_rfl) ?_|apply aJ rfl|refine ag (rj ..) ?_);conv=>whnf));(refine ag (put _ _ [_] g2 (by first|omega|(dsimp only;omega)|(simp;omega)) (by first|omega|(dsimp only;omega)|(simp;omega)) (by simp)) ?_;conv=>whnf);iterate 38 ((first|refine ac (by solve|simp only[bj]|fail) ?_|apply ac rfl|refine af (ak (by solve|simp[bj]|fail)) ?_|apply af rfl|refine aG (fun hf=> ?_)|refine ChkS.mk (by kernel_rfl) ?_);conv=>whnf)
 rotate_left
 iterate 45 (first|(apply ac rfl;(conv=>whnf))|(apply af rfl;(conv=>whnf))|(refine aG (fun hf=> ?_);(conv=>whnf))|(refine ChkS.mk (by kernel_rfl) ?_;(conv=>whnf))|(refine cm ?_ ?_<;>intro hb<;>(try simp only[eH]at hb)<;>conv=>whnf)|(apply aB;(conv=>whnf))|(refine ag (Jl _ s1 _ _ hh.st hh.ds) ?_;(conv=>whnf)))
 rotate_left
 (iterate 23 ((first|refine ac (by solve|simp only[bj]|fail) ?_|apply ac rfl|refine af (ak (by solve|simp[bj]|fail)) ?_|apply af rfl|refine ChkS.mk (by kernel_rfl) ?_|apply aJ rfl|refine ag (rj ..) ?_);conv=>whnf));(refine ag (put _ _ [_] g2 (by first|omega|(dsimp only;omega)|(simp;omega)) (by first|omega|(dsimp only;omega)|(simp;omega)) (by simp)) ?_;conv=>whnf);iterate 38 ((first|refine ac (by solve|simp only[bj]|fail) ?_|apply ac rfl|refine af (ak (by solve|simp[bj]|fail)) ?_|apply af rfl|refine aG (fun hf=> ?_)|refine ChkS.mk (by kernel_rfl) ?_);conv=>whnf)
 rotate_left
 (iterate 4 (first|(apply ac rfl;(conv=>whnf))|(refine ac (by refine aU rfl ?_;simp only[cB];omega) ?_;(conv=>whnf))|(refine cm ?_ ?_<;>intro hb<;>(try simp only[eH]at hb)<;>conv=>whnf)));(refine aH (by((try simp only[Nat.zero_add,List.length_map]);exact iD _ (by omega) (by omega))) ?_;conv=>whnf);(iterate 40 ((first|refine ac (by solve|simp only[bj]|fail) ?_|apply ac rfl|refine af (ak (by solve|simp[bj]|fail)) ?_|apply af rfl|refine aG (fun hf=> ?_)|refine ChkS.mk (by kernel_rfl) ?_|apply aJ rfl|apply aB|refine ag (rj ..) ?_|refine ag (Jl _ s1 _ _ hh.st hh.ds) ?_);conv=>whnf));(refine ag (put _ _ [_] g2 (by first|omega|(dsimp only;omega)|(simp;omega)) (by first|omega|(dsimp only;omega)|(simp;omega)) (by simp)) ?_;conv=>whnf);iterate 38 ((first|refine ac (by solve|simp only[bj]|fail) ?_|apply ac rfl|refine af (ak (by solve|simp[bj]|fail)) ?_|apply af rfl|refine aG (fun hf=> ?_)|refine ChkS.mk (by kernel_rfl) ?_);conv=>whnf)
 rotate_left
 (iterate 40 ((first|refine ac (by solve|simp only[bj]|fail) ?_|apply ac rfl|refine af (ak (by solve|simp[bj]|fail)) ?_|apply af rfl|refine aG (fun hf=> ?_)|refine ChkS.mk (by kernel_rfl) ?_|apply aJ rfl|apply aB|refine ag (rj ..) ?_|refine ag (Jl _ s1 _ _ hh.st hh.ds) ?_);conv=>whnf));(refine ag (put _ _ [_] g2 (by first|omega|(dsimp only;omega)|(simp;omega)) (by first|omega|(dsimp only;omega)|(simp;omega)) (by simp)) ?_;conv=>whnf);iterate 38 ((first|refine ac (by solve|simp only[bj]|fail) ?_|apply ac rfl|refine af (ak (by solve|simp[bj]|fail)) ?_|apply af rfl|refine aG (fun hf=> ?_)|refine ChkS.mk (by kernel_rfl) ?_);conv=>whnf)
 rotate_left
 all_goals first
  |(exfalso;omega)
  |exact⟨by rw[CO (by assumption)];exact Sh.refl _⟩
  |exact⟨by rw[Ei (by assumption) (by omega)];exact Sh.refl _⟩
  |exact⟨by rw[IQ (by assumption) (by omega) (by omega)];exact Sh.refl _⟩
  |exact⟨by rw[k0 (iq d) (by assumption) (by omega) (by omega) (by omega),if_pos (by assumption)];exact iw _ _ _⟩
  |exact⟨by rw[k0 (iq d) (by assumption) (by omega) (by omega) (by omega),if_neg (by assumption)];exact Sh.refl _⟩
  |exact⟨by rw[k0 0 (by assumption) (by omega) (by omega) (by omega),if_pos (by assumption)];exact iw _ _ _⟩
  |exact⟨by rw[k0 0 (by assumption) (by omega) (by omega) (by omega),if_neg (by assumption)];exact Sh.refl _⟩
set_option maxHeartbeats 2000000 in
theorem B4(h:Hst)(d:Dat)(hh:HostOk h)(hd:DataOk d):Con Tryz.prog 105 [cV h,az d,.int .i64 1] (aa [cV h,az d,.int .i64 1]) (.tup [cV (bC h d 1).1,az (bC h d 1).2.1,.int .i64 (bC h d 1).2.2]):=by
 have s1:=small_host hh
 have g1:=hh.gr
 have g2:=hd.st
 refine rn 96 Tryz.func105 [.cell 6 38,.cell 7 35,.tmp 8] (g:= ?_)
 conv=>whnf
 (iterate 6 ((first|apply ac rfl|refine ac (by refine aU rfl ?_;simp only[cB];omega) ?_);conv=>whnf));(refine aH (by((try simp only[Int.toNat_natCast]);exact aI dT _ _ _ default (by first|omega|(simp;omega)))) ?_;conv=>whnf);iterate 28 (first|(apply ac rfl;(conv=>whnf))|(apply af rfl;(conv=>whnf))|(refine ChkS.mk (by kernel_rfl) ?_;(conv=>whnf))|(refine cm ?_ ?_<;>intro hb<;>(try simp only[eH]at hb)<;>conv=>whnf))
 rotate_left
 iterate 29 (first|(apply ac rfl;(conv=>whnf))|(apply af rfl;(conv=>whnf))|(refine ChkS.mk (by kernel_rfl) ?_;(conv=>whnf))|(refine cm ?_ ?_<;>intro hb<;>(try simp only[eH]at hb)<;>conv=>whnf))
 rotate_left
 iterate 32 (first|(apply ac rfl;(conv=>whnf))|(apply af rfl;(conv=>whnf))|(refine aG (fun hf=> ?_);(conv=>whnf))|(refine ChkS.mk (by kernel_rfl) ?_;(conv=>whnf))|(refine cm ?_ ?_<;>intro hb<;>(try simp only[eH]at hb)<;>conv=>whnf)|(apply aB;(conv=>whnf))|(refine ag (Gr ..) ?_;(conv=>whnf)))
 rotate_left
 (iterate 6 (first|(apply ac rfl;(conv=>whnf))|(apply aJ rfl;(conv=>whnf))|(refine cm ?_ ?_<;>intro hb<;>(try simp only[eH]at hb)<;>conv=>whnf)));(iterate 2 (refine ac (by(((first|(simp[ao,am];done)|(refine aU rfl ?_;simp only[cB];rw[ai (by omega) (by omega)];omega)|(simp only[decide_eq_true_eq,Bool.and_eq_true,List.length_map];rw[ai (by omega) (by omega)];omega)|(simp[ao,am];omega))))) ?_;conv=>whnf));(refine aH (by((try simp only[Nat.zero_add,List.length_map]);exact pK _ (by omega) (by omega))) ?_;conv=>whnf);(refine cm ?_ ?_<;>intro hb<;>(try simp only[eH]at hb)<;>conv=>whnf);(apply ac rfl;conv=>whnf);(iterate 2 (refine ac (by(((first|(simp[ao,am];done)|(refine aU rfl ?_;simp only[cB];rw[ai (by omega) (by omega)];omega)|(simp only[decide_eq_true_eq,Bool.and_eq_true,List.length_map];rw[ai (by omega) (by omega)];omega)|(simp[ao,am];omega))))) ?_;conv=>whnf));(refine aH (by((try simp only[Nat.zero_add,List.length_map]);exact iD _ (by omega) (by omega))) ?_;conv=>whnf);iterate 45 (first|(apply ac rfl;(conv=>whnf))|(apply af rfl;(conv=>whnf))|(refine aG (fun hf=> ?_);(conv=>whnf))|(refine ChkS.mk (by kernel_rfl) ?_;(conv=>whnf))|(refine cm ?_ ?_<;>intro hb<;>(try simp only[eH]at hb)<;>conv=>whnf)|(apply aB;(conv=>whnf))|(refine ag (Jf _ s1 _ _ hh.st hh.ds) ?_;(conv=>whnf)))
 rotate_left
 iterate 46 ((first|refine ac (by solve|simp only[bj]|fail) ?_|apply ac rfl|refine af (ak (by solve|simp[bj]|fail)) ?_|apply af rfl|refine aG (fun hf=> ?_)|refine ChkS.mk (by kernel_rfl) ?_|apply bL rfl|apply aB|refine ag (nn _ _ g2 (by first|omega|(dsimp only;omega)|(simp;omega)) (by first|omega|(dsimp only;omega)|(simp;omega))) ?_);conv=>whnf)
 rotate_left
 iterate 45 (first|(apply ac rfl;(conv=>whnf))|(apply af rfl;(conv=>whnf))|(refine aG (fun hf=> ?_);(conv=>whnf))|(refine ChkS.mk (by kernel_rfl) ?_;(conv=>whnf))|(refine cm ?_ ?_<;>intro hb<;>(try simp only[eH]at hb)<;>conv=>whnf)|(apply aB;(conv=>whnf))|(refine ag (Jf _ s1 _ _ hh.st hh.ds) ?_;(conv=>whnf)))
 rotate_left
 iterate 46 ((first|refine ac (by solve|simp only[bj]|fail) ?_|apply ac rfl|refine af (ak (by solve|simp[bj]|fail)) ?_|apply af rfl|refine aG (fun hf=> ?_)|refine ChkS.mk (by kernel_rfl) ?_|apply bL rfl|apply aB|refine ag (nn _ _ g2 (by first|omega|(dsimp only;omega)|(simp;omega)) (by first|omega|(dsimp only;omega)|(simp;omega))) ?_);conv=>whnf)
 rotate_left
 (iterate 4 (first|(apply ac rfl;(conv=>whnf))|(refine ac (by refine aU rfl ?_;simp only[cB];omega) ?_;(conv=>whnf))|(refine cm ?_ ?_<;>intro hb<;>(try simp only[eH]at hb)<;>conv=>whnf)));(refine aH (by((try simp only[Nat.zero_add,List.length_map]);exact iD _ (by omega) (by omega))) ?_;conv=>whnf);iterate 63 ((first|refine ac (by solve|simp only[bj]|fail) ?_|apply ac rfl|refine af (ak (by solve|simp[bj]|fail)) ?_|apply af rfl|refine aG (fun hf=> ?_)|refine ChkS.mk (by kernel_rfl) ?_|apply bL rfl|apply aJ rfl|apply aB|refine ag (Jf _ s1 _ _ hh.st hh.ds) ?_|refine ag (nn _ _ g2 (by first|omega|(dsimp only;omega)|(simp;omega)) (by first|omega|(dsimp only;omega)|(simp;omega))) ?_);conv=>whnf)
 rotate_left
 iterate 63 ((first|refine ac (by solve|simp only[bj]|fail) ?_|apply ac rfl|refine af (ak (by solve|simp[bj]|fail)) ?_|apply af rfl|refine aG (fun hf=> ?_)|refine ChkS.mk (by kernel_rfl) ?_|apply bL rfl|apply aJ rfl|apply aB|refine ag (Jf _ s1 _ _ hh.st hh.ds) ?_|refine ag (nn _ _ g2 (by first|omega|(dsimp only;omega)|(simp;omega)) (by first|omega|(dsimp only;omega)|(simp;omega))) ?_);conv=>whnf)
 rotate_left
 all_goals first
  |(exfalso;omega)
  |exact⟨by rw[CO (by assumption)];exact Sh.refl _⟩
  |exact⟨by rw[Ei (by assumption) (by omega)];exact Sh.refl _⟩
  |exact⟨by rw[Ig (by assumption) (by omega) (by omega)];exact Sh.refl _⟩
  |exact⟨by rw[k1 (by assumption) (by omega) (by omega) (by omega),if_pos (by assumption)];exact iw _ _ _⟩
  |exact⟨by rw[k1 (by assumption) (by omega) (by omega) (by omega),if_neg (by assumption)];exact Sh.refl _⟩
set_option maxHeartbeats 2000000 in
theorem B8(h:Hst)(d:Dat)(hh:HostOk h)(hd:DataOk d):Con Tryz.prog 105 [cV h,az d,.int .i64 2] (aa [cV h,az d,.int .i64 2]) (.tup [cV (bC h d 2).1,az (bC h d 2).2.1,.int .i64 (bC h d 2).2.2]):=by
 have s1:=small_host hh
 have g1:=hh.gr
 have g2:=hd.st
 refine rn 96 Tryz.func105 [.cell 6 38,.cell 7 35,.tmp 8] (g:= ?_)
 conv=>whnf
 (iterate 6 ((first|apply ac rfl|refine ac (by refine aU rfl ?_;simp only[cB];omega) ?_);conv=>whnf));(refine aH (by((try simp only[Int.toNat_natCast]);exact aI dT _ _ _ default (by first|omega|(simp;omega)))) ?_;conv=>whnf);iterate 28 (first|(apply ac rfl;(conv=>whnf))|(apply af rfl;(conv=>whnf))|(refine ChkS.mk (by kernel_rfl) ?_;(conv=>whnf))|(refine cm ?_ ?_<;>intro hb<;>(try simp only[eH]at hb)<;>conv=>whnf))
 rotate_left
 iterate 29 (first|(apply ac rfl;(conv=>whnf))|(apply af rfl;(conv=>whnf))|(refine ChkS.mk (by kernel_rfl) ?_;(conv=>whnf))|(refine cm ?_ ?_<;>intro hb<;>(try simp only[eH]at hb)<;>conv=>whnf))
 rotate_left
 iterate 32 (first|(apply ac rfl;(conv=>whnf))|(apply af rfl;(conv=>whnf))|(refine aG (fun hf=> ?_);(conv=>whnf))|(refine ChkS.mk (by kernel_rfl) ?_;(conv=>whnf))|(refine cm ?_ ?_<;>intro hb<;>(try simp only[eH]at hb)<;>conv=>whnf)|(apply aB;(conv=>whnf))|(refine ag (qC ..) ?_;(conv=>whnf)))
 rotate_left
 (iterate 6 (first|(apply ac rfl;(conv=>whnf))|(apply aJ rfl;(conv=>whnf))|(refine cm ?_ ?_<;>intro hb<;>(try simp only[eH]at hb)<;>conv=>whnf)));(iterate 2 (refine ac (by(((first|(simp[ao,am];done)|(refine aU rfl ?_;simp only[cB];rw[ai (by omega) (by omega)];omega)|(simp only[decide_eq_true_eq,Bool.and_eq_true,List.length_map];rw[ai (by omega) (by omega)];omega)|(simp[ao,am];omega))))) ?_;conv=>whnf));(refine aH (by((try simp only[Nat.zero_add,List.length_map]);exact pK _ (by omega) (by omega))) ?_;conv=>whnf);(refine cm ?_ ?_<;>intro hb<;>(try simp only[eH]at hb)<;>conv=>whnf);(apply ac rfl;conv=>whnf);(iterate 2 (refine ac (by(((first|(simp[ao,am];done)|(refine aU rfl ?_;simp only[cB];rw[ai (by omega) (by omega)];omega)|(simp only[decide_eq_true_eq,Bool.and_eq_true,List.length_map];rw[ai (by omega) (by omega)];omega)|(simp[ao,am];omega))))) ?_;conv=>whnf));(refine aH (by((try simp only[Nat.zero_add,List.length_map]);exact iD _ (by omega) (by omega))) ?_;conv=>whnf);(iterate 40 ((first|refine ac (by solve|simp only[bj]|fail) ?_|apply ac rfl|refine af (ak (by solve|simp[bj]|fail)) ?_|apply af rfl|refine aG (fun hf=> ?_)|refine ChkS.mk (by kernel_rfl) ?_|apply aJ rfl|apply aB|refine ag (qC ..) ?_|refine ag (Jd _ s1 _ _ hh.ds) ?_);conv=>whnf));(refine ag (put _ _ [_] g2 (by first|omega|(dsimp only;omega)|(simp;omega)) (by first|omega|(dsimp only;omega)|(simp;omega)) (by simp)) ?_;conv=>whnf);iterate 38 ((first|refine ac (by solve|simp only[bj]|fail) ?_|apply ac rfl|refine af (ak (by solve|simp[bj]|fail)) ?_|apply af rfl|refine aG (fun hf=> ?_)|refine ChkS.mk (by kernel_rfl) ?_);conv=>whnf)
 rotate_left
 (iterate 40 ((first|refine ac (by solve|simp only[bj]|fail) ?_|apply ac rfl|refine af (ak (by solve|simp[bj]|fail)) ?_|apply af rfl|refine aG (fun hf=> ?_)|refine ChkS.mk (by kernel_rfl) ?_|apply aJ rfl|apply aB|refine ag (qC ..) ?_|refine ag (Jd _ s1 _ _ hh.ds) ?_);conv=>whnf));(refine ag (put _ _ [_] g2 (by first|omega|(dsimp only;omega)|(simp;omega)) (by first|omega|(dsimp only;omega)|(simp;omega)) (by simp)) ?_;conv=>whnf);iterate 38 ((first|refine ac (by solve|simp only[bj]|fail) ?_|apply ac rfl|refine af (ak (by solve|simp[bj]|fail)) ?_|apply af rfl|refine aG (fun hf=> ?_)|refine ChkS.mk (by kernel_rfl) ?_);conv=>whnf)
 rotate_left
 (iterate 4 (first|(apply ac rfl;(conv=>whnf))|(refine ac (by refine aU rfl ?_;simp only[cB];omega) ?_;(conv=>whnf))|(refine cm ?_ ?_<;>intro hb<;>(try simp only[eH]at hb)<;>conv=>whnf)));(refine aH (by((try simp only[Nat.zero_add,List.length_map]);exact iD _ (by omega) (by omega))) ?_;conv=>whnf);(iterate 40 ((first|refine ac (by solve|simp only[bj]|fail) ?_|apply ac rfl|refine af (ak (by solve|simp[bj]|fail)) ?_|apply af rfl|refine aG (fun hf=> ?_)|refine ChkS.mk (by kernel_rfl) ?_|apply aJ rfl|apply aB|refine ag (qC ..) ?_|refine ag (Jd _ s1 _ _ hh.ds) ?_);conv=>whnf));(refine ag (put _ _ [_] g2 (by first|omega|(dsimp only;omega)|(simp;omega)) (by first|omega|(dsimp only;omega)|(simp;omega)) (by simp)) ?_;conv=>whnf);iterate 38 ((first|refine ac (by solve|simp only[bj]|fail) ?_|apply ac rfl|refine af (ak (by solve|simp[bj]|fail)) ?_|apply af rfl|refine aG (fun hf=> ?_)|refine ChkS.mk (by kernel_rfl) ?_);conv=>whnf)
 rotate_left
 (iterate 40 ((first|refine ac (by solve|simp only[bj]|fail) ?_|apply ac rfl|refine af (ak (by solve|simp[bj]|fail)) ?_|apply af rfl|refine aG (fun hf=> ?_)|refine ChkS.mk (by kernel_rfl) ?_|apply aJ rfl|apply aB|refine ag (qC ..) ?_|refine ag (Jd _ s1 _ _ hh.ds) ?_);conv=>whnf));(refine ag (put _ _ [_] g2 (by first|omega|(dsimp only;omega)|(simp;omega)) (by first|omega|(dsimp only;omega)|(simp;omega)) (by simp)) ?_;conv=>whnf);iterate 38 ((first|refine ac (by solve|simp only[bj]|fail) ?_|apply ac rfl|refine af (ak (by solve|simp[bj]|fail)) ?_|apply af rfl|refine aG (fun hf=> ?_)|refine ChkS.mk (by kernel_rfl) ?_);conv=>whnf)
 rotate_left
 all_goals first
  |(exfalso;omega)
  |exact⟨by rw[CO (by assumption)];exact Sh.refl _⟩
  |exact⟨by rw[Ei (by assumption) (by omega)];exact Sh.refl _⟩
  |exact⟨by rw[Hu (by assumption) (by omega) (by omega)];exact Sh.refl _⟩
  |exact⟨by rw[k2 (iq d) (by assumption) (by omega) (by omega) (by omega)];exact iw _ _ _⟩
  |exact⟨by rw[k2 0 (by assumption) (by omega) (by omega) (by omega)];exact iw _ _ _⟩
set_option maxHeartbeats 2000000 in
theorem CB(h:Hst)(d:Dat)(hh:HostOk h)(hd:DataOk d):Con Tryz.prog 105 [cV h,az d,.int .i64 3] (aa [cV h,az d,.int .i64 3]) (.tup [cV (bC h d 3).1,az (bC h d 3).2.1,.int .i64 (bC h d 3).2.2]):=by
 have s1:=small_host hh
 have g1:=hh.gr
 have g2:=hd.st
 refine rn 96 Tryz.func105 [.cell 6 38,.cell 7 35,.tmp 8] (g:= ?_)
 conv=>whnf
 refine bN ?_
 (refine aH (by((try simp only[Int.toNat_natCast]);exact aI dT _ _ _ default (by first|omega|(simp;omega)))) ?_;conv=>whnf);(refine bS ?_ ?_<;>intro hb)
 refine bN ?_
 iterate 7 (refine im ?_)
 rotate_left
 iterate 10 (first|refine im ?_|refine bN ?_|(refine bS ?_ ?_<;>intro hb))
 rotate_left
 iterate 12 (first|refine im ?_|(refine ag (rx ..) ?_;conv=>whnf)|refine bN ?_|(refine bS ?_ ?_<;>intro hb))
 rotate_left
 (refine bS ?_ ?_<;>intro hb)
 refine bN ?_
 (iterate 2 (refine ac (by(((first|(simp[ao,am];done)|(refine aU rfl ?_;simp only[cB];rw[ai (by omega) (by omega)];omega)|(simp only[decide_eq_true_eq,Bool.and_eq_true,List.length_map];rw[ai (by omega) (by omega)];omega)|(simp[ao,am];omega))))) ?_;conv=>whnf));(refine aH (by((try simp only[Nat.zero_add,List.length_map]);exact pK _ (by omega) (by omega))) ?_;conv=>whnf);(refine bS ?_ ?_<;>intro hb)
 refine bN ?_
 (iterate 2 (refine ac (by(((first|(simp[ao,am];done)|(refine aU rfl ?_;simp only[cB];rw[ai (by omega) (by omega)];omega)|(simp only[decide_eq_true_eq,Bool.and_eq_true,List.length_map];rw[ai (by omega) (by omega)];omega)|(simp[ao,am];omega))))) ?_;conv=>whnf));(refine aH (by((try simp only[Nat.zero_add,List.length_map]);exact iD _ (by omega) (by omega))) ?_;conv=>whnf);(iterate 13 (first|refine im ?_|(refine ag (rx ..) ?_;conv=>whnf)|(refine ag (Jj _ s1 _ _ hh.ds) ?_;conv=>whnf)|refine bN ?_));(refine ag (put _ _ [_] g2 (by first|omega|(dsimp only;omega)|(simp;omega)) (by first|omega|(dsimp only;omega)|(simp;omega)) (by simp)) ?_;conv=>whnf)
 refine bN ?_
 iterate 7 (refine im ?_)
 rotate_left
 (iterate 13 (first|refine im ?_|(refine ag (rx ..) ?_;conv=>whnf)|(refine ag (Jj _ s1 _ _ hh.ds) ?_;conv=>whnf)|refine bN ?_));(refine ag (put _ _ [_] g2 (by first|omega|(dsimp only;omega)|(simp;omega)) (by first|omega|(dsimp only;omega)|(simp;omega)) (by simp)) ?_;conv=>whnf)
 refine bN ?_
 iterate 7 (refine im ?_)
 rotate_left
 (refine bS ?_ ?_<;>intro hb)
 refine bN ?_
 (refine aH (by((try simp only[Nat.zero_add,List.length_map]);exact iD _ (by omega) (by omega))) ?_;conv=>whnf);(iterate 13 (first|refine im ?_|(refine ag (rx ..) ?_;conv=>whnf)|(refine ag (Jj _ s1 _ _ hh.ds) ?_;conv=>whnf)|refine bN ?_));(refine ag (put _ _ [_] g2 (by first|omega|(dsimp only;omega)|(simp;omega)) (by first|omega|(dsimp only;omega)|(simp;omega)) (by simp)) ?_;conv=>whnf)
 refine bN ?_
 iterate 7 (refine im ?_)
 rotate_left
 (iterate 13 (first|refine im ?_|(refine ag (rx ..) ?_;conv=>whnf)|(refine ag (Jj _ s1 _ _ hh.ds) ?_;conv=>whnf)|refine bN ?_));(refine ag (put _ _ [_] g2 (by first|omega|(dsimp only;omega)|(simp;omega)) (by first|omega|(dsimp only;omega)|(simp;omega)) (by simp)) ?_;conv=>whnf)
 refine bN ?_
 iterate 7 (refine im ?_)
 rotate_left
 all_goals first
  |(exfalso;omega)
  |exact⟨by rw[CO (by assumption)];exact Sh.refl _⟩
  |exact⟨by rw[Ei (by assumption) (by omega)];exact Sh.refl _⟩
  |exact⟨by rw[Hh (by assumption) (by omega) (by omega)];exact Sh.refl _⟩
  |exact⟨by rw[k3 (iq d) (bu d) (by assumption) (by omega) (by omega) (by omega)];exact iw _ _ _⟩
  |exact⟨by rw[k3 0 (bu d) (by assumption) (by omega) (by omega) (by omega)];exact iw _ _ _⟩
  |exact⟨by rw[k3 0 0 (by assumption) (by omega) (by omega) (by omega)];exact iw _ _ _⟩
theorem scall(h:Hst)(d:Dat)(c:Int)(hh:cU h=true)(hd:eX d=true)(hc:bm c 0 3=true):Con Tryz.prog 105 [cV h,az d,.int .i64 c] (aa [cV h,az d,.int .i64 c]) (.tup [cV (bC h d c.toNat).1,az (bC h d c.toNat).2.1,.int .i64 (bC h d c.toNat).2.2]):=by
 have e:=aQ hc
 have hh:=(gZ h).1 hh
 have hd:=(gQ d).1 hd
 have:c=0∨c=1∨c=2∨c=3:=by omega
 rcases this with rfl|rfl|rfl|rfl
 ·exact Bp h d hh hd
 ·exact B4 h d hh hd
 ·exact B8 h d hh hd
 ·exact CB h d hh hd
end H6
