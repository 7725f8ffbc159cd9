import Derived.Test.YthfphedhlnoffaaGreatDoorBA
/- Calls of the host, by the program: contracts. -/
set_option linter.unusedVariables false
set_option maxHeartbeats 4000000
set_option linter.unusedSimpArgs false
set_option maxRecDepth 100000
open Go Go.Abs Go.Proofs V1 H1
namespace H2
theorem c80(d:Dat)(n:Int)(h:d.st.length≤1000):Con Tryz.prog 80 [.obj (aw d),.int .i64 n] [.obj (aw (fp d n).1),.undef] (.int .i64 (fp d n).2):=by
 refine rp 21 Tryz.func80 [.tmp 4] (g:= ?_)
 conv=>whnf
 repeat' (first|(focus (refine aq (by((rw[xu (by omega)];first|done|rfl|(simp[aw,aU,aj,am,List.take_of_length_le];done)))) ?_;conv=>whnf))|(focus (refine aq (by((rw[sJ (by omega)];first|done|rfl|(simp[aw,aU,aj,am,List.take_of_length_le];done)))) ?_;conv=>whnf))|exact True.intro|refine aP ?_|(refine bN ?_ ?_<;>intro hb))
instance:CC 80:=⟨_,@c80⟩
theorem c156(d:Dat)(h:d.st.length≤1000):Con Tryz.prog 156 [.obj (aw d)] [.obj (aw (rk d).1)] (.tup [.int .i64 (rk d).2.1,.int .i64 (rk d).2.2]):=by
 have w1:IntKind.i64.wrap ((d.st.length:Int)-1)=(d.st.length:Int)-1:=ai (by omega) (by omega)
 have w2:(IntKind.i64.wrap ((d.st.length:Int)-1)).toNat=d.st.length-1:=by omega
 refine rp 31 Tryz.func156 [.tmp 2,.tmp 3] (g:= ?_)
 conv=>whnf
 repeat' (first|(refine aD (by((try simp only[Int.toNat_natCast]);exact aF aj _ _ _ default (by first|omega|(simp;omega)))) ?_;conv=>whnf)|(focus (refine aq (by((rw[qU (by omega)];first|done|rfl|(simp[w2,aw,aU,aj,am,List.map_take];done)))) ?_;conv=>whnf))|(focus (refine aq (by((rw[sR (by omega)];first|done|rfl|(simp[w2,aw,aU,aj,am,List.map_take];done)))) ?_;conv=>whnf))|exact True.intro|refine bJ ?_|refine ie ?_|(refine bN ?_ ?_<;>intro hb))
instance:CC 156:=⟨_,@c156⟩
theorem ku(d:Dat)(h:d.st.length≤1000)(h0: ¬d.st.length=0):Con Tryz.prog 156 [.obj (aw d)] [.obj (aw {d with st:=d.st.take (d.st.length-1)})] (.tup [.int .i64 (bp d),.int .i64 0]):=by
 have e:=sR h0
 have:=c156 d h
 rw[e]at this
 exact this
theorem sV(d:Dat)(n:Int)(h:d.st.length≤1000)(h0: ¬d.st.length=32):Con Tryz.prog 80 [.obj (aw d),.int .i64 n] [.obj (aw {d with st:=d.st++[n]}),.undef] (.int .i64 0):=by
 have e:=sJ (n:=n) h0
 have:=c80 d n h
 rw[e]at this
 exact this
set_option maxHeartbeats 2000000 in
theorem Bb(h:Hst)(d:Dat)(hg:h.gr.length=4)(hs:h.st.length=8)(hq:h.q.length≤20)(hd:h.ds.length≤40)(h1:d.st.length≤32):Con Tryz.prog 155 [.obj (bS h),.obj (aw d),.int .i64 0] [.obj (bS (cx h d 0).1),.obj (aw (cx h d 0).2.1),.undef] (.int .i64 (cx h d 0).2.2):=by
 refine Con.evP 134 [500000,500100] rfl bI dN Tryz.func155 rfl rfl rfl rfl [.tmp 6] rfl ?_
 conv=>whnf
 (iterate 4 ((first|refine ac (by solve|simp only[bc]|fail) ?_|apply ac rfl|refine ac (by refine aO rfl ?_;simp only[cR];omega) ?_);conv=>whnf));(refine aD (by((try simp only[Int.toNat_natCast]);exact aF dQ _ _ _ default (by first|omega|(simp;omega)))) ?_;conv=>whnf);(refine ck ?_ ?_<;>intro hb<;>(try simp only[ew]at hb)<;>conv=>whnf);(apply ac rfl;conv=>whnf);(focus (refine aq (by((rw[fK (by assumption)];first|done|rfl|(simp[bS,aw,aU,bm,bn,aj,aV,am,List.take_of_length_le];done)))) ?_;conv=>whnf));(iterate 4 (apply ag (al (by simp[bc]));conv=>whnf));(focus (refine aq (by((rw[fK (by assumption)];first|done|rfl|(simp[bS,aw,aU,bm,bn,aj,aV,am,List.take_of_length_le];done)))) ?_;conv=>whnf));(iterate 3 (apply ag (al (by simp[bc]));conv=>whnf));(focus (refine aq (by((rw[fK (by assumption)];first|done|rfl|(simp[bS,aw,aU,bm,bn,aj,aV,am,List.take_of_length_le];done)))) ?_;conv=>whnf));(iterate 4 (first|(apply ac rfl;(conv=>whnf))|(refine ck ?_ ?_<;>intro hb<;>(try simp only[ew]at hb)<;>conv=>whnf)|(exact True.intro)));(focus (refine aq (by((rw[fQ (by assumption) (by omega)];first|done|rfl|(simp[bS,aw,aU,bm,bn,aj,aV,am,List.take_of_length_le];done)))) ?_;conv=>whnf));(iterate 4 (apply ag (al (by simp[bc]));conv=>whnf));(focus (refine aq (by((rw[fQ (by assumption) (by omega)];first|done|rfl|(simp[bS,aw,aU,bm,bn,aj,aV,am,List.take_of_length_le];done)))) ?_;conv=>whnf));(iterate 3 (apply ag (al (by simp[bc]));conv=>whnf));(focus (refine aq (by((rw[fQ (by assumption) (by omega)];first|done|rfl|(simp[bS,aw,aU,bm,bn,aj,aV,am,List.take_of_length_le];done)))) ?_;conv=>whnf));(iterate 21 (first|(refine ac (by solve|simp only[bc]|fail) ?_;(conv=>whnf))|(apply ac rfl;(conv=>whnf))|(refine aD (by(rfl)) ?_;(conv=>whnf))|(refine ChkS.mk (by kernel_rfl) ?_;(conv=>whnf))|(refine ck ?_ ?_<;>intro hb<;>(try simp only[ew]at hb)<;>conv=>whnf)|(exact True.intro)));(focus (refine aq (by((rw[pg (by assumption) (by omega) (by omega)];first|done|rfl|(simp[bS,aw,aU,bm,bn,aj,aV,am,List.take_of_length_le];done)))) ?_;conv=>whnf));(iterate 4 (apply ag (al (by simp[bc]));conv=>whnf));(focus (refine aq (by((rw[pg (by assumption) (by omega) (by omega)];first|done|rfl|(simp[bS,aw,aU,bm,bn,aj,aV,am,List.take_of_length_le];done)))) ?_;conv=>whnf));(iterate 3 (apply ag (al (by simp[bc]));conv=>whnf));(focus (refine aq (by((rw[pg (by assumption) (by omega) (by omega)];first|done|rfl|(simp[bS,aw,aU,bm,bn,aj,aV,am,List.take_of_length_le];done)))) ?_;conv=>whnf));(iterate 13 (first|(apply ac rfl;(conv=>whnf))|(apply bH rfl;(conv=>whnf))|(apply aK rfl;(conv=>whnf))|(refine ay 156 [some 6] ?_;(conv=>whnf))|(exact True.intro)));(focus (apply bj (f:=156);(· repeat' (first|(refine al ?_;simp[bc];done)|exact aW _ _ _ _|apply aY|apply bO|apply bC|apply bz|apply cm|apply cB|apply bM|rfl));refine bx (f:=156) rfl (ku ⟨_,_,_,_,_,_⟩ (by first|omega|(dsimp only;omega)|(simp;omega)) (by first|omega|(dsimp only;omega)|(simp;omega))) ?_;conv=>whnf));(iterate 13 (first|(apply ac rfl;(conv=>whnf))|(refine aG (fun hf=> ?_);(conv=>whnf))|(apply bH rfl;(conv=>whnf))|(refine ck ?_ ?_<;>intro hb<;>(try simp only[ew]at hb)<;>conv=>whnf)|(apply aH;(conv=>whnf))|(refine ah (c95 ..) ?_;(conv=>whnf))));(focus (refine aq (by((rw[pc (by assumption) (by omega) (by omega) (by assumption)];first|done|rfl|(simp[bS,aw,aU,bm,bn,aj,aV,am,List.take_of_length_le];done)))) ?_;conv=>whnf));(iterate 4 (apply ag (al (by simp[bc]));conv=>whnf));(focus (refine aq (by((rw[pc (by assumption) (by omega) (by omega) (by assumption)];first|done|rfl|(simp[bS,aw,aU,bm,bn,aj,aV,am,List.take_of_length_le];done)))) ?_;conv=>whnf));(iterate 3 (apply ag (al (by simp[bc]));conv=>whnf));(focus (refine aq (by((rw[pc (by assumption) (by omega) (by omega) (by assumption)];first|done|rfl|(simp[bS,aw,aU,bm,bn,aj,aV,am,List.take_of_length_le];done)))) ?_;conv=>whnf));(iterate 15 (first|(refine ac (by solve|simp only[bc]|fail) ?_;(conv=>whnf))|(apply ac rfl;(conv=>whnf))|(refine ac (by((first|(simp[ao,am];omega)|(have i1:=aN (by assumption);first|(simp only[decide_eq_true_eq];omega)|(refine aO rfl ?_;simp only[cR];omega))))) ?_;(conv=>whnf))|(refine ChkS.mk (by kernel_rfl) ?_;(conv=>whnf))|(apply aK rfl;(conv=>whnf))|(exact True.intro)));(refine aD (by((try simp only[Int.toNat_natCast]);exact aF aj _ _ _ default (by first|omega|(simp;omega)|(have i1:=aN (by assumption);omega)))) ?_;conv=>whnf);(iterate 30 ((first|refine ac (by solve|simp only[bc]|fail) ?_|apply ac rfl|refine ac (by((first|(simp[ao,am];omega)|(have i1:=aN (by assumption);first|(simp only[decide_eq_true_eq];omega)|(refine aO rfl ?_;simp only[cR];omega))))) ?_|refine bW ?_|refine ChkS.mk (by kernel_rfl) ?_|apply aK rfl|refine ay 80 [some 6,none] ?_);conv=>whnf));(focus (apply bj (f:=80);(· repeat' (first|(refine al ?_;simp[bc];done)|exact aW _ _ _ _|apply aY|apply bO|apply bC|apply bz|apply cm|apply cB|apply bM|rfl));refine bx (f:=80) rfl (sV ⟨_,_,_,_,_,_⟩ _ (by first|omega|(dsimp only;omega)|(simp;omega)) (by first|omega|(dsimp only;omega)|(simp;omega))) ?_;conv=>whnf));(refine aG (fun hf=> ?_);conv=>whnf);(apply ac rfl;conv=>whnf);(focus (refine aq (by((rw[pv (by assumption) (by omega) (by omega) (by assumption)];first|done|rfl|(simp[bS,aw,aU,bm,bn,aj,aV,am,List.take_of_length_le];done)))) ?_;conv=>whnf));(iterate 4 ((first|refine ag (al (by solve|simp[bc]|fail)) ?_|apply ag rfl);conv=>whnf));(focus (refine aq (by((rw[pv (by assumption) (by omega) (by omega) (by assumption)];first|done|rfl|(simp[bS,aw,aU,bm,bn,aj,aV,am,List.take_of_length_le];done)))) ?_;conv=>whnf));(iterate 3 (apply ag (al (by simp[bc]));conv=>whnf));(focus (refine aq (by((rw[pv (by assumption) (by omega) (by omega) (by assumption)];first|done|rfl|(simp[bS,aw,aU,bm,bn,aj,aV,am,List.take_of_length_le];done)))) ?_;conv=>whnf))
 exact True.intro
set_option maxHeartbeats 2000000 in
theorem zM(h:Hst)(d:Dat)(hg:h.gr.length=4)(hs:h.st.length=8)(hq:h.q.length≤20)(hd:h.ds.length≤40)(h1:d.st.length≤32):Con Tryz.prog 155 [.obj (bS h),.obj (aw d),.int .i64 1] [.obj (bS (cx h d 1).1),.obj (aw (cx h d 1).2.1),.undef] (.int .i64 (cx h d 1).2.2):=by
 have m1:bh (bp d) 0 7=true→be (h.st.map aj) (bp d).toNat 0 [.int .i64 0] [.int .i64 (ia d)]=(h.st.map aj).set (bp d).toNat [.int .i64 (ia d)]:=fun e=>by
  have e:=aN e
  rw[gL _ _ _ _ (by omega),List.map_set]
  rfl
 have m2:2≤d.st.length→bp {d with st:=d.st.take (d.st.length-1)}=ia d:=Bh
 have m3:d.st.length-1-1=d.st.length-2:=by omega
 have m4:min (d.st.length-2) (d.st.length-1)=d.st.length-2:=by omega
 refine Con.evP 134 [500000,500100] rfl bI dN Tryz.func155 rfl rfl rfl rfl [.tmp 6] rfl ?_
 conv=>whnf
 (iterate 4 ((first|refine ac (by solve|simp only[bc]|fail) ?_|apply ac rfl|refine ac (by refine aO rfl ?_;simp only[cR];omega) ?_);conv=>whnf));(refine aD (by((try simp only[Int.toNat_natCast]);exact aF dQ _ _ _ default (by first|omega|(simp;omega)))) ?_;conv=>whnf);(refine ck ?_ ?_<;>intro hb<;>(try simp only[ew]at hb)<;>conv=>whnf);(apply ac rfl;conv=>whnf);(focus (refine aq (by((rw[fK (by assumption)];first|done|rfl|(simp[bS,aw,aU,bm,bn,aj,aV,am,List.take_of_length_le,m1 (by assumption),m2 (by omega),m3,m4,List.map_set,List.map_take,List.take_take];done)))) ?_;conv=>whnf));(iterate 4 (apply ag (al (by simp[bc]));conv=>whnf));(focus (refine aq (by((rw[fK (by assumption)];first|done|rfl|(simp[bS,aw,aU,bm,bn,aj,aV,am,List.take_of_length_le,m1 (by assumption),m2 (by omega),m3,m4,List.map_set,List.map_take,List.take_take];done)))) ?_;conv=>whnf));(iterate 3 (apply ag (al (by simp[bc]));conv=>whnf));(focus (refine aq (by((rw[fK (by assumption)];first|done|rfl|(simp[bS,aw,aU,bm,bn,aj,aV,am,List.take_of_length_le,m1 (by assumption),m2 (by omega),m3,m4,List.map_set,List.map_take,List.take_take];done)))) ?_;conv=>whnf));(iterate 4 (first|(apply ac rfl;(conv=>whnf))|(refine ck ?_ ?_<;>intro hb<;>(try simp only[ew]at hb)<;>conv=>whnf)|(exact True.intro)));(focus (refine aq (by((rw[fQ (by assumption) (by omega)];first|done|rfl|(simp[bS,aw,aU,bm,bn,aj,aV,am,List.take_of_length_le,m1 (by assumption),m2 (by omega),m3,m4,List.map_set,List.map_take,List.take_take];done)))) ?_;conv=>whnf));(iterate 4 (apply ag (al (by simp[bc]));conv=>whnf));(focus (refine aq (by((rw[fQ (by assumption) (by omega)];first|done|rfl|(simp[bS,aw,aU,bm,bn,aj,aV,am,List.take_of_length_le,m1 (by assumption),m2 (by omega),m3,m4,List.map_set,List.map_take,List.take_take];done)))) ?_;conv=>whnf));(iterate 3 (apply ag (al (by simp[bc]));conv=>whnf));(focus (refine aq (by((rw[fQ (by assumption) (by omega)];first|done|rfl|(simp[bS,aw,aU,bm,bn,aj,aV,am,List.take_of_length_le,m1 (by assumption),m2 (by omega),m3,m4,List.map_set,List.map_take,List.take_take];done)))) ?_;conv=>whnf));(iterate 21 (first|(refine ac (by solve|simp only[bc]|fail) ?_;(conv=>whnf))|(apply ac rfl;(conv=>whnf))|(refine aD (by(rfl)) ?_;(conv=>whnf))|(refine ChkS.mk (by kernel_rfl) ?_;(conv=>whnf))|(refine ck ?_ ?_<;>intro hb<;>(try simp only[ew]at hb)<;>conv=>whnf)|(exact True.intro)));(focus (refine aq (by((rw[pe (by assumption) (by omega) (by omega)];first|done|rfl|(simp[bS,aw,aU,bm,bn,aj,aV,am,List.take_of_length_le,m1 (by assumption),m2 (by omega),m3,m4,List.map_set,List.map_take,List.take_take];done)))) ?_;conv=>whnf));(iterate 4 (apply ag (al (by simp[bc]));conv=>whnf));(focus (refine aq (by((rw[pe (by assumption) (by omega) (by omega)];first|done|rfl|(simp[bS,aw,aU,bm,bn,aj,aV,am,List.take_of_length_le,m1 (by assumption),m2 (by omega),m3,m4,List.map_set,List.map_take,List.take_take];done)))) ?_;conv=>whnf));(iterate 3 (apply ag (al (by simp[bc]));conv=>whnf));(focus (refine aq (by((rw[pe (by assumption) (by omega) (by omega)];first|done|rfl|(simp[bS,aw,aU,bm,bn,aj,aV,am,List.take_of_length_le,m1 (by assumption),m2 (by omega),m3,m4,List.map_set,List.map_take,List.take_take];done)))) ?_;conv=>whnf));(iterate 13 (first|(apply ac rfl;(conv=>whnf))|(apply bH rfl;(conv=>whnf))|(apply aK rfl;(conv=>whnf))|(refine ay 156 [some 6] ?_;(conv=>whnf))|(exact True.intro)));(focus (apply bj (f:=156);(· repeat' (first|(refine al ?_;simp[bc];done)|exact aW _ _ _ _|apply aY|apply bO|apply bC|apply bz|apply cm|apply cB|apply bM|rfl));refine bx (f:=156) rfl (ku ⟨_,_,_,_,_,_⟩ (by first|omega|(dsimp only;omega)|(simp;omega)) (by first|omega|(dsimp only;omega)|(simp;omega))) ?_;conv=>whnf));(iterate 13 (first|(apply ac rfl;(conv=>whnf))|(refine aG (fun hf=> ?_);(conv=>whnf))|(apply bH rfl;(conv=>whnf))|(apply aK rfl;(conv=>whnf))|(refine ck ?_ ?_<;>intro hb<;>(try simp only[ew]at hb)<;>conv=>whnf)|(apply aH;(conv=>whnf))|(refine ah (c95 ..) ?_;(conv=>whnf))));(focus (refine aq (by((rw[pA (by assumption) (by omega) (by omega) (by assumption)];first|done|rfl|(simp[bS,aw,aU,bm,bn,aj,aV,am,List.take_of_length_le,m1 (by assumption),m2 (by omega),m3,m4,List.map_set,List.map_take,List.take_take];done)))) ?_;conv=>whnf));(iterate 4 (apply ag (al (by simp[bc]));conv=>whnf));(focus (refine aq (by((rw[pA (by assumption) (by omega) (by omega) (by assumption)];first|done|rfl|(simp[bS,aw,aU,bm,bn,aj,aV,am,List.take_of_length_le,m1 (by assumption),m2 (by omega),m3,m4,List.map_set,List.map_take,List.take_take];done)))) ?_;conv=>whnf));(iterate 3 (apply ag (al (by simp[bc]));conv=>whnf));(focus (refine aq (by((rw[pA (by assumption) (by omega) (by omega) (by assumption)];first|done|rfl|(simp[bS,aw,aU,bm,bn,aj,aV,am,List.take_of_length_le,m1 (by assumption),m2 (by omega),m3,m4,List.map_set,List.map_take,List.take_take];done)))) ?_;conv=>whnf));(iterate 4 (first|(apply ac rfl;(conv=>whnf))|(apply bH rfl;(conv=>whnf))|(refine ay 156 [some 6] ?_;(conv=>whnf))|(exact True.intro)));(focus (apply bj (f:=156);(· repeat' (first|(refine al ?_;simp[bc];done)|exact aW _ _ _ _|apply aY|apply bO|apply bC|apply bz|apply cm|apply cB|apply bM|rfl));refine bx (f:=156) rfl (ku ⟨_,_,_,_,_,_⟩ (by first|omega|(dsimp only;omega)|(simp;omega)) (by first|omega|(dsimp only;omega)|(simp;omega))) ?_;conv=>whnf));(iterate 44 ((first|refine ac (by solve|simp only[bc]|fail) ?_|apply ac rfl|refine ac (by((first|(simp[ao,am];omega)|(have i1:=aN (by assumption);first|(simp only[decide_eq_true_eq];omega)|(refine aO rfl ?_;simp only[cR];omega))))) ?_|apply ag rfl|refine bW ?_|refine aG (fun hf=> ?_)|refine ChkS.mk (by kernel_rfl) ?_|apply bH rfl);conv=>whnf));(focus (refine aq (by((rw[pq (by assumption) (by omega) (by omega) (by assumption)];first|done|rfl|(simp[bS,aw,aU,bm,bn,aj,aV,am,List.take_of_length_le,m1 (by assumption),m2 (by omega),m3,m4,List.map_set,List.map_take,List.take_take];done)))) ?_;conv=>whnf));(iterate 4 ((first|refine ag (al (by solve|simp[bc]|fail)) ?_|apply ag rfl);conv=>whnf));(focus (refine aq (by((rw[pq (by assumption) (by omega) (by omega) (by assumption)];first|done|rfl|(simp[bS,aw,aU,bm,bn,aj,aV,am,List.take_of_length_le,m1 (by assumption),m2 (by omega),m3,m4,List.map_set,List.map_take,List.take_take];done)))) ?_;conv=>whnf));(iterate 3 (apply ag (al (by simp[bc]));conv=>whnf));(focus (refine aq (by((rw[pq (by assumption) (by omega) (by omega) (by assumption)];first|done|rfl|(simp[bS,aw,aU,bm,bn,aj,aV,am,List.take_of_length_le,m1 (by assumption),m2 (by omega),m3,m4,List.map_set,List.map_take,List.take_take];done)))) ?_;conv=>whnf))
 exact True.intro
set_option maxHeartbeats 2000000 in
theorem A3(h:Hst)(d:Dat)(hg:h.gr.length=4)(hs:h.st.length=8)(hq:h.q.length≤20)(hd:h.ds.length≤40)(h1:d.st.length≤32):Con Tryz.prog 155 [.obj (bS h),.obj (aw d),.int .i64 2] [.obj (bS (cx h d 2).1),.obj (aw (cx h d 2).2.1),.undef] (.int .i64 (cx h d 2).2.2):=by
 refine Con.evP 134 [500000,500100] rfl bI dN Tryz.func155 rfl rfl rfl rfl [.tmp 6] rfl ?_
 conv=>whnf
 (iterate 4 ((first|refine ac (by solve|simp only[bc]|fail) ?_|apply ac rfl|refine ac (by refine aO rfl ?_;simp only[cR];omega) ?_);conv=>whnf));(refine aD (by((try simp only[Int.toNat_natCast]);exact aF dQ _ _ _ default (by first|omega|(simp;omega)))) ?_;conv=>whnf);(refine ck ?_ ?_<;>intro hb<;>(try simp only[ew]at hb)<;>conv=>whnf);(apply ac rfl;conv=>whnf);(focus (refine aq (by((rw[fK (by assumption)];first|done|rfl|(simp[bS,aw,aU,bm,bn,aj,aV,am,List.take_of_length_le];done)))) ?_;conv=>whnf));(iterate 4 (apply ag (al (by simp[bc]));conv=>whnf));(focus (refine aq (by((rw[fK (by assumption)];first|done|rfl|(simp[bS,aw,aU,bm,bn,aj,aV,am,List.take_of_length_le];done)))) ?_;conv=>whnf));(iterate 3 (apply ag (al (by simp[bc]));conv=>whnf));(focus (refine aq (by((rw[fK (by assumption)];first|done|rfl|(simp[bS,aw,aU,bm,bn,aj,aV,am,List.take_of_length_le];done)))) ?_;conv=>whnf));(iterate 4 (first|(apply ac rfl;(conv=>whnf))|(refine ck ?_ ?_<;>intro hb<;>(try simp only[ew]at hb)<;>conv=>whnf)|(exact True.intro)));(focus (refine aq (by((rw[fQ (by assumption) (by omega)];first|done|rfl|(simp[bS,aw,aU,bm,bn,aj,aV,am,List.take_of_length_le];done)))) ?_;conv=>whnf));(iterate 4 (apply ag (al (by simp[bc]));conv=>whnf));(focus (refine aq (by((rw[fQ (by assumption) (by omega)];first|done|rfl|(simp[bS,aw,aU,bm,bn,aj,aV,am,List.take_of_length_le];done)))) ?_;conv=>whnf));(iterate 3 (apply ag (al (by simp[bc]));conv=>whnf));(focus (refine aq (by((rw[fQ (by assumption) (by omega)];first|done|rfl|(simp[bS,aw,aU,bm,bn,aj,aV,am,List.take_of_length_le];done)))) ?_;conv=>whnf));(iterate 21 (first|(refine ac (by solve|simp only[bc]|fail) ?_;(conv=>whnf))|(apply ac rfl;(conv=>whnf))|(refine aD (by(rfl)) ?_;(conv=>whnf))|(refine ChkS.mk (by kernel_rfl) ?_;(conv=>whnf))|(refine ck ?_ ?_<;>intro hb<;>(try simp only[ew]at hb)<;>conv=>whnf)|(exact True.intro)));(focus (refine aq (by((rw[py (by assumption) (by omega) (by omega)];first|done|rfl|(simp[bS,aw,aU,bm,bn,aj,aV,am,List.take_of_length_le];done)))) ?_;conv=>whnf));(iterate 4 (apply ag (al (by simp[bc]));conv=>whnf));(focus (refine aq (by((rw[py (by assumption) (by omega) (by omega)];first|done|rfl|(simp[bS,aw,aU,bm,bn,aj,aV,am,List.take_of_length_le];done)))) ?_;conv=>whnf));(iterate 3 (apply ag (al (by simp[bc]));conv=>whnf));(focus (refine aq (by((rw[py (by assumption) (by omega) (by omega)];first|done|rfl|(simp[bS,aw,aU,bm,bn,aj,aV,am,List.take_of_length_le];done)))) ?_;conv=>whnf));(iterate 13 (first|(apply ac rfl;(conv=>whnf))|(apply bH rfl;(conv=>whnf))|(apply aK rfl;(conv=>whnf))|(refine ay 156 [some 6] ?_;(conv=>whnf))|(exact True.intro)));(focus (apply bj (f:=156);(· repeat' (first|(refine al ?_;simp[bc];done)|exact aW _ _ _ _|apply aY|apply bO|apply bC|apply bz|apply cm|apply cB|apply bM|rfl));refine bx (f:=156) rfl (ku ⟨_,_,_,_,_,_⟩ (by first|omega|(dsimp only;omega)|(simp;omega)) (by first|omega|(dsimp only;omega)|(simp;omega))) ?_;conv=>whnf));(iterate 19 (first|(refine ac (by solve|simp only[bc]|fail) ?_;(conv=>whnf))|(apply ac rfl;(conv=>whnf))|(refine ac (by refine aO rfl ?_;simp only[cR];omega) ?_;(conv=>whnf))|(refine aG (fun hf=> ?_);(conv=>whnf))|(refine ChkS.mk (by kernel_rfl) ?_;(conv=>whnf))|(apply bH rfl;(conv=>whnf))|(apply aK rfl;(conv=>whnf))|(refine ck ?_ ?_<;>intro hb<;>(try simp only[ew]at hb)<;>conv=>whnf)));(refine aD (by((try simp only[Int.toNat_natCast]);exact aF aj _ _ _ default (by first|omega|(simp;omega)|(have i1:=aN (by assumption);omega)))) ?_;conv=>whnf);(iterate 44 ((first|refine ac (by solve|simp only[bc]|fail) ?_|apply ac rfl|refine ac (by simp only[Bool.and_eq_true,decide_eq_true_eq,List.length_map];omega) ?_|refine ac (by((first|(simp[ao,am];omega)|(have i1:=aN (by assumption);first|(simp only[decide_eq_true_eq];omega)|(refine aO rfl ?_;simp only[cR];omega))))) ?_|refine bW ?_|refine ChkS.mk (by kernel_rfl) ?_|apply aK rfl|refine ay 80 [some 6,none] ?_);conv=>whnf));(focus (apply bj (f:=80);(· repeat' (first|(refine al ?_;simp[bc];done)|exact aW _ _ _ _|apply aY|apply bO|apply bC|apply bz|apply cm|apply cB|apply bM|rfl));refine bx (f:=80) rfl (sV ⟨_,_,_,_,_,_⟩ _ (by first|omega|(dsimp only;omega)|(simp;omega)) (by first|omega|(dsimp only;omega)|(simp;omega))) ?_;conv=>whnf));(refine aG (fun hf=> ?_);conv=>whnf);(apply ac rfl;conv=>whnf);(focus (refine aq (by((rw[mO (by assumption) (by omega) (by omega)];first|done|rfl|(simp[bS,aw,aU,bm,bn,aj,aV,am,List.take_of_length_le];done)))) ?_;conv=>whnf));(iterate 4 ((first|refine ag (al (by solve|simp[bc]|fail)) ?_|apply ag rfl);conv=>whnf));(focus (refine aq (by((rw[mO (by assumption) (by omega) (by omega)];first|done|rfl|(simp[bS,aw,aU,bm,bn,aj,aV,am,List.take_of_length_le];done)))) ?_;conv=>whnf));(iterate 3 (apply ag (al (by simp[bc]));conv=>whnf));(focus (refine aq (by((rw[mO (by assumption) (by omega) (by omega)];first|done|rfl|(simp[bS,aw,aU,bm,bn,aj,aV,am,List.take_of_length_le];done)))) ?_;conv=>whnf));(iterate 27 (first|(refine ac (by solve|simp only[bc]|fail) ?_;(conv=>whnf))|(apply ac rfl;(conv=>whnf))|(refine ac (by((first|(simp[ao,am];omega)|(have i1:=aN (by assumption);first|(simp only[decide_eq_true_eq];omega)|(refine aO rfl ?_;simp only[cR];omega))))) ?_;(conv=>whnf))|(refine bW ?_;(conv=>whnf))|(refine ChkS.mk (by kernel_rfl) ?_;(conv=>whnf))|(apply aK rfl;(conv=>whnf))|(refine ay 80 [some 6,none] ?_;(conv=>whnf))|(exact True.intro)));(focus (apply bj (f:=80);(· repeat' (first|(refine al ?_;simp[bc];done)|exact aW _ _ _ _|apply aY|apply bO|apply bC|apply bz|apply cm|apply cB|apply bM|rfl));refine bx (f:=80) rfl (sV ⟨_,_,_,_,_,_⟩ _ (by first|omega|(dsimp only;omega)|(simp;omega)) (by first|omega|(dsimp only;omega)|(simp;omega))) ?_;conv=>whnf));(refine aG (fun hf=> ?_);conv=>whnf);(apply ac rfl;conv=>whnf);(focus (refine aq (by((rw[sl (by assumption) (by omega) (by omega) (by omega)];first|done|rfl|(simp[bS,aw,aU,bm,bn,aj,aV,am,List.take_of_length_le];done)))) ?_;conv=>whnf));(iterate 4 ((first|refine ag (al (by solve|simp[bc]|fail)) ?_|apply ag rfl);conv=>whnf));(focus (refine aq (by((rw[sl (by assumption) (by omega) (by omega) (by omega)];first|done|rfl|(simp[bS,aw,aU,bm,bn,aj,aV,am,List.take_of_length_le];done)))) ?_;conv=>whnf));(iterate 3 (apply ag (al (by simp[bc]));conv=>whnf));(focus (refine aq (by((rw[sl (by assumption) (by omega) (by omega) (by omega)];first|done|rfl|(simp[bS,aw,aU,bm,bn,aj,aV,am,List.take_of_length_le];done)))) ?_;conv=>whnf))
 exact True.intro
set_option maxHeartbeats 2000000 in
theorem zq(h:Hst)(d:Dat)(hg:h.gr.length=4)(hs:h.st.length=8)(hq:h.q.length≤20)(hd:h.ds.length≤40)(h1:d.st.length≤32):Con Tryz.prog 155 [.obj (bS h),.obj (aw d),.int .i64 3] [.obj (bS (cx h d 3).1),.obj (aw (cx h d 3).2.1),.undef] (.int .i64 (cx h d 3).2.2):=by
 refine Con.evP 134 [500000,500100] rfl bI dN Tryz.func155 rfl rfl rfl rfl [.tmp 6] rfl ?_
 conv=>whnf
 (iterate 4 ((first|refine ac (by solve|simp only[bc]|fail) ?_|apply ac rfl|refine ac (by refine aO rfl ?_;simp only[cR];omega) ?_);conv=>whnf));(refine aD (by((try simp only[Int.toNat_natCast]);exact aF dQ _ _ _ default (by first|omega|(simp;omega)))) ?_;conv=>whnf);(refine ck ?_ ?_<;>intro hb<;>(try simp only[ew]at hb)<;>conv=>whnf);(apply ac rfl;conv=>whnf);(focus (refine aq (by((rw[fK (by assumption)];first|done|rfl|(simp[bS,aw,aU,bm,bn,aj,aV,am,List.take_of_length_le];done)))) ?_;conv=>whnf));(iterate 4 (apply ag (al (by simp[bc]));conv=>whnf));(focus (refine aq (by((rw[fK (by assumption)];first|done|rfl|(simp[bS,aw,aU,bm,bn,aj,aV,am,List.take_of_length_le];done)))) ?_;conv=>whnf));(iterate 3 (apply ag (al (by simp[bc]));conv=>whnf));(focus (refine aq (by((rw[fK (by assumption)];first|done|rfl|(simp[bS,aw,aU,bm,bn,aj,aV,am,List.take_of_length_le];done)))) ?_;conv=>whnf));(iterate 4 (first|(apply ac rfl;(conv=>whnf))|(refine ck ?_ ?_<;>intro hb<;>(try simp only[ew]at hb)<;>conv=>whnf)|(exact True.intro)));(focus (refine aq (by((rw[fQ (by assumption) (by omega)];first|done|rfl|(simp[bS,aw,aU,bm,bn,aj,aV,am,List.take_of_length_le];done)))) ?_;conv=>whnf));(iterate 4 (apply ag (al (by simp[bc]));conv=>whnf));(focus (refine aq (by((rw[fQ (by assumption) (by omega)];first|done|rfl|(simp[bS,aw,aU,bm,bn,aj,aV,am,List.take_of_length_le];done)))) ?_;conv=>whnf));(iterate 3 (apply ag (al (by simp[bc]));conv=>whnf));(focus (refine aq (by((rw[fQ (by assumption) (by omega)];first|done|rfl|(simp[bS,aw,aU,bm,bn,aj,aV,am,List.take_of_length_le];done)))) ?_;conv=>whnf));(iterate 29 (first|(refine ac (by solve|simp only[bc]|fail) ?_;(conv=>whnf))|(apply ac rfl;(conv=>whnf))|(refine aD (by(rfl)) ?_;(conv=>whnf))|(refine ChkS.mk (by kernel_rfl) ?_;(conv=>whnf))|(apply bH rfl;(conv=>whnf))|(apply aK rfl;(conv=>whnf))|(refine ck ?_ ?_<;>intro hb<;>(try simp only[ew]at hb)<;>conv=>whnf)|(exact True.intro)));(focus (refine aq (by((rw[ph (by assumption) (by omega) (by omega)];first|done|rfl|(simp[bS,aw,aU,bm,bn,aj,aV,am,List.take_of_length_le];done)))) ?_;conv=>whnf));(iterate 4 (apply ag (al (by simp[bc]));conv=>whnf));(focus (refine aq (by((rw[ph (by assumption) (by omega) (by omega)];first|done|rfl|(simp[bS,aw,aU,bm,bn,aj,aV,am,List.take_of_length_le];done)))) ?_;conv=>whnf));(iterate 3 (apply ag (al (by simp[bc]));conv=>whnf));(focus (refine aq (by((rw[ph (by assumption) (by omega) (by omega)];first|done|rfl|(simp[bS,aw,aU,bm,bn,aj,aV,am,List.take_of_length_le];done)))) ?_;conv=>whnf));(iterate 34 (first|(refine ac (by solve|simp only[bc]|fail) ?_;(conv=>whnf))|(apply ac rfl;(conv=>whnf))|(refine ac (by((first|(simp[ao,am];omega)|(have i1:=aN (by assumption);first|(simp only[decide_eq_true_eq];omega)|(refine aO rfl ?_;simp only[cR];omega))))) ?_;(conv=>whnf))|(refine bW ?_;(conv=>whnf))|(refine ChkS.mk (by kernel_rfl) ?_;(conv=>whnf))|(apply aK rfl;(conv=>whnf))|(refine ay 80 [some 6,none] ?_;(conv=>whnf))|(exact True.intro)));(focus (apply bj (f:=80);(· repeat' (first|(refine al ?_;simp[bc];done)|exact aW _ _ _ _|apply aY|apply bO|apply bC|apply bz|apply cm|apply cB|apply bM|rfl));refine bx (f:=80) rfl (sV ⟨_,_,_,_,_,_⟩ _ (by first|omega|(dsimp only;omega)|(simp;omega)) (by first|omega|(dsimp only;omega)|(simp;omega))) ?_;conv=>whnf));(refine aG (fun hf=> ?_);conv=>whnf);(apply ac rfl;conv=>whnf);(focus (refine aq (by((rw[po (by assumption) (by omega) (by omega)];first|done|rfl|(simp[bS,aw,aU,bm,bn,aj,aV,am,List.take_of_length_le];done)))) ?_;conv=>whnf));(iterate 4 ((first|refine ag (al (by solve|simp[bc]|fail)) ?_|apply ag rfl);conv=>whnf));(focus (refine aq (by((rw[po (by assumption) (by omega) (by omega)];first|done|rfl|(simp[bS,aw,aU,bm,bn,aj,aV,am,List.take_of_length_le];done)))) ?_;conv=>whnf));(iterate 3 (apply ag (al (by simp[bc]));conv=>whnf));(focus (refine aq (by((rw[po (by assumption) (by omega) (by omega)];first|done|rfl|(simp[bS,aw,aU,bm,bn,aj,aV,am,List.take_of_length_le];done)))) ?_;conv=>whnf))
 exact True.intro
end H2

/- Calls of the host: the program's and the reference's functions, contracts. -/
open Go Go.Abs Go.Proofs V1 H1 H2
namespace H3
theorem small_host{h:Hst}(e:HostOk h):dv h:=by
 obtain⟨h1,h2,h3,h4,h5,h6,h7,h8⟩:=e
 exact⟨by omega,by omega,by omega,by omega⟩
theorem jv{d:Dat}(e:DataOk d):ef d:=by
 obtain⟨h1,h2,h3,h4,h5,h6,h7,h8,h9⟩:=e
 exact⟨by omega,by omega,by omega,by omega⟩
theorem ix{h h':Hst}{d d':Dat}{c:Nat}{th:Int}(e:cx h d c=(h',d',th))(z:th=0):bA h d c=(h',d',0):=by rw[bA,e,if_pos z,z]
theorem eY{h h':Hst}{d d':Dat}{c:Nat}{th:Int}(e:cx h d c=(h',d',th))(z: ¬th=0):bA h d c=(h,d,th):=by rw[bA,e,if_neg z]
theorem C9(h:Hst)(d:Dat)(hh:HostOk h)(hd:DataOk d):Con Tryz.prog 116 [cS h,az d,.int .i64 0] (aa [cS h,az d,.int .i64 0]) (.tup [fI (bA h d 0).1,jK (bA h d 0).2.1,.int .i64 (bA h d 0).2.2]):=by
 have s1:=small_host hh
 have s2:=jv hd
 have k:=Bb h d hh.gr hh.st hh.q hh.ds hd.st
 generalize hr:cx h d 0=r at k
 obtain⟨h',d',th⟩:=r
 dsimp only at k
 refine rn 27 Tryz.func116 [.cell 6 38,.cell 7 35,.tmp 8] (g:= ?_)
 conv=>whnf
 repeat' (first|(refine ay 155 [some 5,some 6,none] ?_;conv=>whnf)|(refine eH ((k:Con _ _ _ _ _)) ?_;conv=>whnf)|(refine ah (c76 _ s1) ?_;conv=>whnf)|(refine ah (c75 _ s2) ?_;conv=>whnf)|(focus (refine aA ?_;((rw[ix hr (by assumption)];first|done|rfl|(simp[fI,jK,bS,aw,aU,bm,bn,aj,aV,am];done)))))|(focus (refine aA ?_;((rw[eY hr (by assumption)];first|done|rfl|(simp[fI,jK,bS,aw,aU,bm,bn,aj,aV,am];done)))))|refine aP ?_|(refine bN ?_ ?_<;>intro hb))
theorem BX(h:Hst)(d:Dat)(hh:HostOk h)(hd:DataOk d):Con Tryz.prog 116 [cS h,az d,.int .i64 1] (aa [cS h,az d,.int .i64 1]) (.tup [fI (bA h d 1).1,jK (bA h d 1).2.1,.int .i64 (bA h d 1).2.2]):=by
 have s1:=small_host hh
 have s2:=jv hd
 have k:=zM h d hh.gr hh.st hh.q hh.ds hd.st
 generalize hr:cx h d 1=r at k
 obtain⟨h',d',th⟩:=r
 dsimp only at k
 refine rn 27 Tryz.func116 [.cell 6 38,.cell 7 35,.tmp 8] (g:= ?_)
 conv=>whnf
 repeat' (first|(refine ay 155 [some 5,some 6,none] ?_;conv=>whnf)|(refine eH ((k:Con _ _ _ _ _)) ?_;conv=>whnf)|(refine ah (c76 _ s1) ?_;conv=>whnf)|(refine ah (c75 _ s2) ?_;conv=>whnf)|(focus (refine aA ?_;((rw[ix hr (by assumption)];first|done|rfl|(simp[fI,jK,bS,aw,aU,bm,bn,aj,aV,am];done)))))|(focus (refine aA ?_;((rw[eY hr (by assumption)];first|done|rfl|(simp[fI,jK,bS,aw,aU,bm,bn,aj,aV,am];done)))))|refine aP ?_|(refine bN ?_ ?_<;>intro hb))
theorem Dw(h:Hst)(d:Dat)(hh:HostOk h)(hd:DataOk d):Con Tryz.prog 116 [cS h,az d,.int .i64 2] (aa [cS h,az d,.int .i64 2]) (.tup [fI (bA h d 2).1,jK (bA h d 2).2.1,.int .i64 (bA h d 2).2.2]):=by
 have s1:=small_host hh
 have s2:=jv hd
 have k:=A3 h d hh.gr hh.st hh.q hh.ds hd.st
 generalize hr:cx h d 2=r at k
 obtain⟨h',d',th⟩:=r
 dsimp only at k
 refine rn 27 Tryz.func116 [.cell 6 38,.cell 7 35,.tmp 8] (g:= ?_)
 conv=>whnf
 repeat' (first|(refine ay 155 [some 5,some 6,none] ?_;conv=>whnf)|(refine eH ((k:Con _ _ _ _ _)) ?_;conv=>whnf)|(refine ah (c76 _ s1) ?_;conv=>whnf)|(refine ah (c75 _ s2) ?_;conv=>whnf)|(focus (refine aA ?_;((rw[ix hr (by assumption)];first|done|rfl|(simp[fI,jK,bS,aw,aU,bm,bn,aj,aV,am];done)))))|(focus (refine aA ?_;((rw[eY hr (by assumption)];first|done|rfl|(simp[fI,jK,bS,aw,aU,bm,bn,aj,aV,am];done)))))|refine aP ?_|(refine bN ?_ ?_<;>intro hb))
theorem C2(h:Hst)(d:Dat)(hh:HostOk h)(hd:DataOk d):Con Tryz.prog 116 [cS h,az d,.int .i64 3] (aa [cS h,az d,.int .i64 3]) (.tup [fI (bA h d 3).1,jK (bA h d 3).2.1,.int .i64 (bA h d 3).2.2]):=by
 have s1:=small_host hh
 have s2:=jv hd
 have k:=zq h d hh.gr hh.st hh.q hh.ds hd.st
 generalize hr:cx h d 3=r at k
 obtain⟨h',d',th⟩:=r
 dsimp only at k
 refine rn 27 Tryz.func116 [.cell 6 38,.cell 7 35,.tmp 8] (g:= ?_)
 conv=>whnf
 repeat' (first|(refine ay 155 [some 5,some 6,none] ?_;conv=>whnf)|(refine eH ((k:Con _ _ _ _ _)) ?_;conv=>whnf)|(refine ah (c76 _ s1) ?_;conv=>whnf)|(refine ah (c75 _ s2) ?_;conv=>whnf)|(focus (refine aA ?_;((rw[ix hr (by assumption)];first|done|rfl|(simp[fI,jK,bS,aw,aU,bm,bn,aj,aV,am];done)))))|(focus (refine aA ?_;((rw[eY hr (by assumption)];first|done|rfl|(simp[fI,jK,bS,aw,aU,bm,bn,aj,aV,am];done)))))|refine aP ?_|(refine bN ?_ ?_<;>intro hb))
end H3

/- HostCall: the program's function, and the reference's. -/
open Go Go.Abs Go.Proofs V1 H1 H2 H3
namespace H4
theorem Es(h:Hst)(d:Dat)(c:Int)(hh:cP h=true)(hd:eN d=true)(hc:bh c 0 3=true):Con Tryz.prog 116 [cS h,az d,.int .i64 c] (aa [cS h,az d,.int .i64 c]) (.tup [fI (bA h d c.toNat).1,jK (bA h d c.toNat).2.1,.int .i64 (bA h d c.toNat).2.2]):=by
 have e:=aN hc
 have hh:=(gV h).1 hh
 have hd:=(gP d).1 hd
 have:c=0∨c=1∨c=2∨c=3:=by omega
 rcases this with rfl|rfl|rfl|rfl
 ·exact C9 h d hh hd
 ·exact BX h d hh hd
 ·exact Dw h d hh hd
 ·exact C2 h d hh hd
section
variable{h:Hst}{d:Dat}{c:Int}
end
end H4

/- HostCall: the reference's parts. -/
open Go Go.Abs Go.Proofs V1 H1 H2 H3
namespace H5
theorem oi{d:Dat}{t:Nat}{l:List Int}(e:d.st.length-t+l.length>32):bo d t l=(d,-3):=by rw[bo,if_pos e]
theorem gi{d:Dat}{t:Nat}{l:List Int}(e: ¬d.st.length-t+l.length>32):bo d t l=({d with st:=d.st.take (d.st.length-t)++l},0):=by rw[bo,if_neg e]
theorem lO{x y:AV}(h:x=y):Sh x y:=h▸Sh.refl x
theorem vv{α:Type}{n:Nat}(hn:n≤1){z:List AV}{f:α→List AV}{xs ys:List α}(e:xs=ys):Sh (.own n z (xs.map f)) (.ro z (ys.map f)):=e▸Sh.own_ro hn _ _
theorem put(d:Dat)(t:Int)(l:List Int)(h:d.st.length≤32)(h0:0≤t)(ht:t≤d.st.length)(hl:l.length≤4):Con Tryz.prog 147 [az d,.int .i64 t,dE l] (aa [az d,.int .i64 t,dE l]) (.tup [az (bo d t.toNat l).1,.int .i64 (bo d t.toNat l).2]):=by
 have w1:IntKind.i64.wrap ((d.st.length:Int)-t)=((d.st.length-t.toNat:Nat):Int):=by rw[ai (by omega) (by omega)];omega
 have w2:IntKind.i64.wrap (((d.st.length-t.toNat:Nat):Int)+l.length)=((d.st.length-t.toNat+l.length:Nat):Int):=by rw[ai (by omega) (by omega)];omega
 refine rn 30 Tryz.func147 [.cell 6 35,.tmp 7] (g:= ?_)
 conv=>whnf
 iterate 14 (first|(apply ac rfl;(conv=>whnf))|(apply ag rfl;(conv=>whnf))|(refine ck ?_ ?_<;>intro hb<;>(try simp only[ew]at hb)<;>conv=>whnf))
 rotate_left
 (iterate 7 ((first|apply ac rfl|refine ac (by refine aO rfl ?_;simp only[cR];omega) ?_|refine ac (by simp only[Bool.and_eq_true,decide_eq_true_eq,List.length_map];omega) ?_);conv=>whnf));(apply ac (by((first|(simp[w1,w2,ao,AV.plain,am];done)|(simp[w1,w2,ao,AV.plain,am];omega))));conv=>whnf);(iterate 4 ((first|refine ac (by solve|simp only[bc]|fail) ?_|apply ac rfl|refine bW ?_);conv=>whnf));(apply ac (by((first|(simp[w1,w2,ao,AV.plain,am];done)|(simp[w1,w2,ao,AV.plain,am];omega))));conv=>whnf);iterate 14 ((first|refine ac (by solve|simp only[bc]|fail) ?_|apply ac rfl|apply ag rfl|refine bW ?_);conv=>whnf)
 rotate_left
 all_goals rw[w1,w2]at hb
 ·exact⟨by rw[oi (by omega)];exact Sh.refl _⟩
 ·rw[gi (by omega)]
  refine⟨Sh.tup ⟨Sh.agg ⟨?_,Sh.refl _,Sh.refl _,Sh.refl _,Sh.refl _,Sh.refl _,trivial⟩,Sh.refl _,trivial⟩⟩
  refine Sh.trans ?_ (Sh.own_ro (lvl:=1) (by omega) _ _)
  refine lO ?_
  simp[am,w1,List.take_of_length_le]
theorem mU(d:Dat)(t:Int)(h:d.st.length≤32)(h0:0≤t)(ht:t≤d.st.length):Con Tryz.prog 147 [az d,.int .i64 t,AV.emp] (aa [az d,.int .i64 t,AV.emp]) (.tup [az (bo d t.toNat []).1,.int .i64 (bo d t.toNat []).2]):=by
 have w1:IntKind.i64.wrap ((d.st.length:Int)-t)=((d.st.length-t.toNat:Nat):Int):=by rw[ai (by omega) (by omega)];omega
 have w2:IntKind.i64.wrap (((d.st.length-t.toNat:Nat):Int)+((0:Nat):Int))=((d.st.length-t.toNat:Nat):Int):=by rw[ai (by omega) (by omega)];omega
 refine rn 30 Tryz.func147 [.cell 6 35,.tmp 7] (g:= ?_)
 conv=>whnf
 iterate 14 (first|(apply ac rfl;(conv=>whnf))|(apply ag rfl;(conv=>whnf))|(refine ck ?_ ?_<;>intro hb<;>(try simp only[ew]at hb)<;>conv=>whnf))
 rotate_left
 (iterate 7 ((first|apply ac rfl|refine ac (by refine aO rfl ?_;simp only[cR];omega) ?_|refine ac (by simp only[Bool.and_eq_true,decide_eq_true_eq,List.length_map];omega) ?_);conv=>whnf));(apply ac (by((first|(simp[w1,w2,ao,AV.plain,am];done)|(simp[w1,w2,ao,AV.plain,am];omega))));conv=>whnf);(iterate 3 ((first|refine ac (by solve|simp only[bc]|fail) ?_|apply ac rfl|refine bW ?_);conv=>whnf));(apply ac (by((first|(simp[w1,w2,ao,AV.plain,am];done)|(simp[w1,w2,ao,AV.plain,am];omega))));conv=>whnf);iterate 14 ((first|refine ac (by solve|simp only[bc]|fail) ?_|apply ac rfl|apply ag rfl|refine bW ?_);conv=>whnf)
 rotate_left
 all_goals rw[w1,w2]at hb
 ·exact⟨by rw[oi (by simp;omega)];exact Sh.refl _⟩
 ·rw[gi (by simp;omega)]
  refine⟨Sh.tup ⟨Sh.agg ⟨?_,Sh.refl _,Sh.refl _,Sh.refl _,Sh.refl _,Sh.refl _,trivial⟩,Sh.refl _,trivial⟩⟩
  refine Sh.trans ?_ (Sh.own_ro (lvl:=1) (by omega) _ _)
  refine lO ?_
  simp[am,w1,List.take_of_length_le]
theorem pD:Con Tryz.prog 145 [.int .i64 0] (aa [.int .i64 0]) (.int .i64 1):=
 rn 7 Tryz.func145 [.tmp 2] (g:=go)
theorem Fg:Con Tryz.prog 145 [.int .i64 1] (aa [.int .i64 1]) (.int .i64 2):=
 rn 7 Tryz.func145 [.tmp 2] (g:=go)
theorem pP:Con Tryz.prog 145 [.int .i64 2] (aa [.int .i64 2]) (.int .i64 1):=
 rn 7 Tryz.func145 [.tmp 2] (g:=go)
theorem pM:Con Tryz.prog 145 [.int .i64 3] (aa [.int .i64 3]) (.int .i64 0):=
 rn 7 Tryz.func145 [.tmp 2] (g:=go)
def dohF(h:Hst)(a b:Int):Nat→Hst × Int × Int
 |0=>if bh b 0 7=false then(h,0,-9)else({h with ds:=h.ds++[⟨0,b,0,h.st.getD b.toNat 0⟩]},h.st.getD b.toNat 0,0)
 |1=>if bh b 0 7=false then(h,0,-9)else({h with st:=h.st.set b.toNat a,ds:=h.ds++[⟨1,b,a,0⟩]},0,0)
 |2=>({h with q:=h.q.drop 1,ds:=h.ds++[⟨2,b,0,h.q.getD 0 0⟩]},h.q.getD 0 0,0)
 |_=>({h with ds:=h.ds++[⟨3,0,0,h.tk⟩]},h.tk,0)
theorem Ie(h:Hst)(hs:dv h)(a b:Int)(hd:h.ds.length≤40):Con Tryz.prog 146 [cS h,.int .i64 3,.int .i64 a,.int .i64 b] (aa [cS h,.int .i64 3,.int .i64 a,.int .i64 b]) (.tup [fI (dohF h a b 3).1,.int .i64 (dohF h a b 3).2.1,.int .i64 (dohF h a b 3).2.2]):=by
 refine rn 75 Tryz.func146 [.cell 8 38,.tmp 9,.tmp 10] (g:= ?_)
 conv=>whnf
 repeat' (first|(refine ah (c66 _ hs) ?_;conv=>whnf)|(focus (refine aA ?_;(first|rfl|(simp[dohF,fI,bS,aU,bm,bn,aj,aV,am,List.take_of_length_le];done))))|refine aP ?_)
theorem Ib(h:Hst)(hs:dv h)(a b:Int)(hd:h.ds.length≤40):Con Tryz.prog 146 [cS h,.int .i64 2,.int .i64 a,.int .i64 b] (aa [cS h,.int .i64 2,.int .i64 a,.int .i64 b]) (.tup [fI (dohF h a b 2).1,.int .i64 (dohF h a b 2).2.1,.int .i64 (dohF h a b 2).2.2]):=by
 refine rn 75 Tryz.func146 [.cell 8 38,.tmp 9,.tmp 10] (g:= ?_)
 conv=>whnf
 (iterate 9 (first|(refine ah (c66 _ hs) ?_;conv=>whnf)|refine ie ?_|refine bJ ?_|(refine bN ?_ ?_<;>intro hb)));(refine aD (by((try simp only[Int.toNat_natCast]);exact aF aj _ _ _ default (by first|omega|(simp;omega)|(have i1:=aN (by assumption);omega)))) ?_;conv=>whnf);(iterate 7 (first|refine ie ?_|refine bJ ?_));(focus (refine aA ?_;(first|rfl|(simp[dohF,fI,bS,aU,bm,bn,aj,aV,am,List.take_of_length_le];done))));iterate 7 (first|refine ie ?_|refine bJ ?_)
 rotate_left
 ·have q0:h.q=[]:=List.length_eq_zero_iff.1 (by omega)
  exact⟨by simp[dohF,fI,bS,aU,bm,bn,aj,aV,am,List.take_of_length_le,q0];exact Sh.refl _⟩
theorem Ii(h:Hst)(hs:dv h)(a b:Int)(hst:h.st.length=8)(hd:h.ds.length≤40):Con Tryz.prog 146 [cS h,.int .i64 0,.int .i64 a,.int .i64 b] (aa [cS h,.int .i64 0,.int .i64 a,.int .i64 b]) (.tup [fI (dohF h a b 0).1,.int .i64 (dohF h a b 0).2.1,.int .i64 (dohF h a b 0).2.2]):=by
 refine rn 75 Tryz.func146 [.cell 8 38,.tmp 9,.tmp 10] (g:= ?_)
 conv=>whnf
 repeat' (first|(apply ac (by((first|(simp[ao,am];omega)|(have i1:=aN (by assumption);simp[ao,am];omega))));conv=>whnf)|(refine aD (by((try simp only[Int.toNat_natCast]);exact aF aj _ _ _ default (by first|omega|(simp;omega)|(have i1:=aN (by assumption);omega)))) ?_;conv=>whnf)|(refine ah (c66 _ hs) ?_;conv=>whnf)|(focus (refine aA ?_;(first|rfl|(simp[dohF,fI,bS,aU,bm,bn,aj,aV,am,List.take_of_length_le, *];done))))|refine bJ ?_|refine ie ?_|(refine bN ?_ ?_<;>intro hb))
theorem Il(h:Hst)(hs:dv h)(a b:Int)(hst:h.st.length=8)(hd:h.ds.length≤40):Con Tryz.prog 146 [cS h,.int .i64 1,.int .i64 a,.int .i64 b] (aa [cS h,.int .i64 1,.int .i64 a,.int .i64 b]) (.tup [fI (dohF h a b 1).1,.int .i64 (dohF h a b 1).2.1,.int .i64 (dohF h a b 1).2.2]):=by
 have m1:bh b 0 7=true→be (h.st.map aj) b.toNat 0 [.int .i64 0] [.int .i64 a]=(h.st.map aj).set b.toNat [.int .i64 a]:=fun e=>by
  have e:=aN e
  rw[gL _ _ _ _ (by omega),List.map_set]
  rfl
 refine rn 75 Tryz.func146 [.cell 8 38,.tmp 9,.tmp 10] (g:= ?_)
 conv=>whnf
 repeat' (first|(apply ac (by((first|(simp[ao,am];omega)|(have i1:=aN (by assumption);simp[ao,am];omega))));conv=>whnf)|(refine ah (c66 _ hs) ?_;conv=>whnf)|(focus (refine aA ?_;(first|rfl|(simp[dohF,fI,bS,aU,bm,bn,aj,aV,am,List.take_of_length_le, *];done))))|refine aP ?_|(refine bN ?_ ?_<;>intro hb))
end H5

/- HostCall: the reference. -/
open Go Go.Abs Go.Proofs V1 H1 H2 H3 H4 H5
namespace H6
section
variable{h:Hst}{d:Dat}{c:Nat}
theorem Cl(a:h.gr.getD c false=false):bA h d c=(h,d,-100):=eY (fK a) (by decide)
theorem Cv(a:h.gr.getD c false=true)(b:h.ds.length=40):bA h d c=(h,d,-8):=eY (fQ a b) (by decide)
theorem GS(a:h.gr.getD 0 false=true)(b: ¬h.ds.length=40)(e:d.st.length<1):bA h d 0=(h,d,-4):=eY (pg a b e) (by decide)
theorem Hr(a:h.gr.getD 1 false=true)(b: ¬h.ds.length=40)(e:d.st.length<2):bA h d 1=(h,d,-4):=eY (pe a b e) (by decide)
theorem Gq(a:h.gr.getD 2 false=true)(b: ¬h.ds.length=40)(e:d.st.length<1):bA h d 2=(h,d,-4):=eY (py a b e) (by decide)
theorem HK(a:h.gr.getD 3 false=true)(b: ¬h.ds.length=40)(e:d.st.length=32):bA h d 3=(h,d,-3):=eY (ph a b e) (by decide)
theorem k0(x:Int)(a:h.gr.getD 0 false=true)(b: ¬h.ds.length=40)(e: ¬d.st.length<1)(h1:d.st.length≤32):bA h d 0=if(dohF h x (bp d) 0).2.2=0 then((dohF h x (bp d) 0).1,(bo d 1 [(dohF h x (bp d) 0).2.1]).1,0)else(h,d,(dohF h x (bp d) 0).2.2):=by
 cases hin:bh (bp d) 0 7
 ·rw[eY (pc a b e hin) (by decide)]
  simp[dohF,hin]
 ·rw[ix (pv a b e hin) rfl,gi (by simp;omega)]
  simp[dohF,hin]
theorem k1(a:h.gr.getD 1 false=true)(b: ¬h.ds.length=40)(e: ¬d.st.length<2)(h1:d.st.length≤32):bA h d 1=if(dohF h (ia d) (bp d) 1).2.2=0 then((dohF h (ia d) (bp d) 1).1,(bo d 2 []).1,0)else(h,d,(dohF h (ia d) (bp d) 1).2.2):=by
 cases hin:bh (bp d) 0 7
 ·rw[eY (pA a b e hin) (by decide)]
  simp[dohF,hin]
 ·rw[ix (pq a b e hin) rfl,gi (by simp;omega)]
  simp[dohF,hin]
theorem k2(x:Int)(a:h.gr.getD 2 false=true)(b: ¬h.ds.length=40)(e: ¬d.st.length<1)(h1:d.st.length≤32):bA h d 2=((dohF h x (bp d) 2).1,(bo d 1 [(dohF h x (bp d) 2).2.1]).1,0):=by
 rw[ix (mO a b e) rfl,gi (by simp;omega)]
 simp[dohF]
theorem k3(x y:Int)(a:h.gr.getD 3 false=true)(b: ¬h.ds.length=40)(e: ¬d.st.length=32)(h1:d.st.length≤32):bA h d 3=((dohF h x y 3).1,(bo d 0 [(dohF h x y 3).2.1]).1,0):=by
 rw[ix (po a b e) rfl,gi (by simp;omega)]
 simp[dohF]
theorem pk(z:List AV)(e:1≤d.st.length)(h1:d.st.length≤32):dm (d.st.map aj) (Int.toNat (IntKind.i64.wrap ((d.st.length:Int)-1))) z=[.int .i64 (bp d)]:=by
 rw[ai (by omega) (by omega),show((d.st.length:Int)-1).toNat=d.st.length-1 by omega]
 exact eI _ _ _ (by omega)
theorem it(z:List AV)(e:2≤d.st.length)(h1:d.st.length≤32):dm (d.st.map aj) (Int.toNat (IntKind.i64.wrap ((d.st.length:Int)-2))) z=[.int .i64 (ia d)]:=by
 rw[ai (by omega) (by omega),show((d.st.length:Int)-2).toNat=d.st.length-2 by omega]
 exact eI _ _ _ (by omega)
end
theorem E8(h:Hst):Hy [.own 0 [.bool false] (h.gr.map dQ),.own 0 [.int .i64 0] (h.st.map aj),.own 0 [.int .i64 0] (h.q.map aj),.int .i64 h.tk,.own 0 [.int .i64 0,.int .i64 0,.int .i64 0,.int .i64 0] (h.ds.map aV)] (C8 h):=⟨Sh.own_ro (by omega) _ _,Sh.own_ro (by omega) _ _,Sh.own_ro (by omega) _ _,Sh.refl _,Sh.own_ro (by omega) _ _,trivial⟩
theorem ig(h:Hst)(d:Dat)(n:Int):Sh (.tup [fI h,az d,.int .i64 n]) (.tup [cS h,az d,.int .i64 n]):=Sh.tup ⟨Sh.agg (E8 h),Sh.refl _,Sh.refl _,trivial⟩
set_option maxHeartbeats 2000000 in
theorem Bb(h:Hst)(d:Dat)(hh:HostOk h)(hd:DataOk d):Con Tryz.prog 105 [cS h,az d,.int .i64 0] (aa [cS h,az d,.int .i64 0]) (.tup [cS (bA h d 0).1,az (bA h d 0).2.1,.int .i64 (bA h d 0).2.2]):=by
 have s1:=small_host hh
 have g1:=hh.gr
 have g2:=hd.st
 refine rn 96 Tryz.func105 [.cell 6 38,.cell 7 35,.tmp 8] (g:= ?_)
 conv=>whnf
 (iterate 6 ((first|apply ac rfl|refine ac (by refine aO rfl ?_;simp only[cR];omega) ?_);conv=>whnf));(refine aD (by((try simp only[Int.toNat_natCast]);exact aF dQ _ _ _ default (by first|omega|(simp;omega)))) ?_;conv=>whnf);iterate 28 (first|(apply ac rfl;(conv=>whnf))|(apply ag rfl;(conv=>whnf))|(refine ChkS.mk (by kernel_rfl) ?_;(conv=>whnf))|(refine ck ?_ ?_<;>intro hb<;>(try simp only[ew]at hb)<;>conv=>whnf))
 rotate_left
 iterate 29 (first|(apply ac rfl;(conv=>whnf))|(apply ag rfl;(conv=>whnf))|(refine ChkS.mk (by kernel_rfl) ?_;(conv=>whnf))|(refine ck ?_ ?_<;>intro hb<;>(try simp only[ew]at hb)<;>conv=>whnf))
 rotate_left
 iterate 32 (first|(apply ac rfl;(conv=>whnf))|(apply ag rfl;(conv=>whnf))|(refine aG (fun hf=> ?_);(conv=>whnf))|(refine ChkS.mk (by kernel_rfl) ?_;(conv=>whnf))|(refine ck ?_ ?_<;>intro hb<;>(try simp only[ew]at hb)<;>conv=>whnf)|(apply aH;(conv=>whnf))|(refine ah (pD ..) ?_;(conv=>whnf)))
 rotate_left
 (iterate 6 (first|(apply ac rfl;(conv=>whnf))|(apply aK rfl;(conv=>whnf))|(refine ck ?_ ?_<;>intro hb<;>(try simp only[ew]at hb)<;>conv=>whnf)));(iterate 2 (refine ac (by(((first|(simp[ao,am];done)|(refine aO rfl ?_;simp only[cR];rw[ai (by omega) (by omega)];omega)|(simp only[decide_eq_true_eq,Bool.and_eq_true,List.length_map];rw[ai (by omega) (by omega)];omega)|(simp[ao,am];omega))))) ?_;conv=>whnf));(refine aD (by((try simp only[Nat.zero_add,List.length_map]);exact pk _ (by omega) (by omega))) ?_;conv=>whnf);(refine ck ?_ ?_<;>intro hb<;>(try simp only[ew]at hb)<;>conv=>whnf);(apply ac rfl;conv=>whnf);(iterate 2 (refine ac (by(((first|(simp[ao,am];done)|(refine aO rfl ?_;simp only[cR];rw[ai (by omega) (by omega)];omega)|(simp only[decide_eq_true_eq,Bool.and_eq_true,List.length_map];rw[ai (by omega) (by omega)];omega)|(simp[ao,am];omega))))) ?_;conv=>whnf));(refine aD (by((try simp only[Nat.zero_add,List.length_map]);exact it _ (by omega) (by omega))) ?_;conv=>whnf);iterate 45 (first|(apply ac rfl;(conv=>whnf))|(apply ag rfl;(conv=>whnf))|(refine aG (fun hf=> ?_);(conv=>whnf))|(refine ChkS.mk (by kernel_rfl) ?_;(conv=>whnf))|(refine ck ?_ ?_<;>intro hb<;>(try simp only[ew]at hb)<;>conv=>whnf)|(apply aH;(conv=>whnf))|(refine ah (Ii _ s1 _ _ hh.st hh.ds) ?_;(conv=>whnf)))
 rotate_left
 (iterate 23 ((first|refine ac (by solve|simp only[bc]|fail) ?_|apply ac rfl|refine ag (al (by solve|simp[bc]|fail)) ?_|apply ag rfl|refine ChkS.mk (by kernel_rfl) ?_|apply aK rfl|refine ah (pD ..) ?_);conv=>whnf));(refine ah (put _ _ [_] g2 (by first|omega|(dsimp only;omega)|(simp;omega)) (by first|omega|(dsimp only;omega)|(simp;omega)) (by simp)) ?_;conv=>whnf);iterate 38 ((first|refine ac (by solve|simp only[bc]|fail) ?_|apply ac rfl|refine ag (al (by solve|simp[bc]|fail)) ?_|apply ag rfl|refine aG (fun hf=> ?_)|refine ChkS.mk (by kernel_rfl) ?_);conv=>whnf)
 rotate_left
 iterate 45 (first|(apply ac rfl;(conv=>whnf))|(apply ag rfl;(conv=>whnf))|(refine aG (fun hf=> ?_);(conv=>whnf))|(refine ChkS.mk (by kernel_rfl) ?_;(conv=>whnf))|(refine ck ?_ ?_<;>intro hb<;>(try simp only[ew]at hb)<;>conv=>whnf)|(apply aH;(conv=>whnf))|(refine ah (Ii _ s1 _ _ hh.st hh.ds) ?_;(conv=>whnf)))
 rotate_left
 (iterate 23 ((first|refine ac (by solve|simp only[bc]|fail) ?_|apply ac rfl|refine ag (al (by solve|simp[bc]|fail)) ?_|apply ag rfl|refine ChkS.mk (by kernel_rfl) ?_|apply aK rfl|refine ah (pD ..) ?_);conv=>whnf));(refine ah (put _ _ [_] g2 (by first|omega|(dsimp only;omega)|(simp;omega)) (by first|omega|(dsimp only;omega)|(simp;omega)) (by simp)) ?_;conv=>whnf);iterate 38 ((first|refine ac (by solve|simp only[bc]|fail) ?_|apply ac rfl|refine ag (al (by solve|simp[bc]|fail)) ?_|apply ag rfl|refine aG (fun hf=> ?_)|refine ChkS.mk (by kernel_rfl) ?_);conv=>whnf)
 rotate_left
 (iterate 4 (first|(apply ac rfl;(conv=>whnf))|(refine ac (by refine aO rfl ?_;simp only[cR];omega) ?_;(conv=>whnf))|(refine ck ?_ ?_<;>intro hb<;>(try simp only[ew]at hb)<;>conv=>whnf)));(refine aD (by((try simp only[Nat.zero_add,List.length_map]);exact it _ (by omega) (by omega))) ?_;conv=>whnf);(iterate 40 ((first|refine ac (by solve|simp only[bc]|fail) ?_|apply ac rfl|refine ag (al (by solve|simp[bc]|fail)) ?_|apply ag rfl|refine aG (fun hf=> ?_)|refine ChkS.mk (by kernel_rfl) ?_|apply aK rfl|apply aH|refine ah (pD ..) ?_|refine ah (Ii _ s1 _ _ hh.st hh.ds) ?_);conv=>whnf));(refine ah (put _ _ [_] g2 (by first|omega|(dsimp only;omega)|(simp;omega)) (by first|omega|(dsimp only;omega)|(simp;omega)) (by simp)) ?_;conv=>whnf);iterate 38 ((first|refine ac (by solve|simp only[bc]|fail) ?_|apply ac rfl|refine ag (al (by solve|simp[bc]|fail)) ?_|apply ag rfl|refine aG (fun hf=> ?_)|refine ChkS.mk (by kernel_rfl) ?_);conv=>whnf)
 rotate_left
 (iterate 40 ((first|refine ac (by solve|simp only[bc]|fail) ?_|apply ac rfl|refine ag (al (by solve|simp[bc]|fail)) ?_|apply ag rfl|refine aG (fun hf=> ?_)|refine ChkS.mk (by kernel_rfl) ?_|apply aK rfl|apply aH|refine ah (pD ..) ?_|refine ah (Ii _ s1 _ _ hh.st hh.ds) ?_);conv=>whnf));(refine ah (put _ _ [_] g2 (by first|omega|(dsimp only;omega)|(simp;omega)) (by first|omega|(dsimp only;omega)|(simp;omega)) (by simp)) ?_;conv=>whnf);iterate 38 ((first|refine ac (by solve|simp only[bc]|fail) ?_|apply ac rfl|refine ag (al (by solve|simp[bc]|fail)) ?_|apply ag rfl|refine aG (fun hf=> ?_)|refine ChkS.mk (by kernel_rfl) ?_);conv=>whnf)
 rotate_left
 all_goals first
  |(exfalso;omega)
  |exact⟨by rw[Cl (by assumption)];exact Sh.refl _⟩
  |exact⟨by rw[Cv (by assumption) (by omega)];exact Sh.refl _⟩
  |exact⟨by rw[GS (by assumption) (by omega) (by omega)];exact Sh.refl _⟩
  |exact⟨by rw[k0 (ia d) (by assumption) (by omega) (by omega) (by omega),if_pos (by assumption)];exact ig _ _ _⟩
  |exact⟨by rw[k0 (ia d) (by assumption) (by omega) (by omega) (by omega),if_neg (by assumption)];exact Sh.refl _⟩
  |exact⟨by rw[k0 0 (by assumption) (by omega) (by omega) (by omega),if_pos (by assumption)];exact ig _ _ _⟩
  |exact⟨by rw[k0 0 (by assumption) (by omega) (by omega) (by omega),if_neg (by assumption)];exact Sh.refl _⟩
set_option maxHeartbeats 2000000 in
theorem zM(h:Hst)(d:Dat)(hh:HostOk h)(hd:DataOk d):Con Tryz.prog 105 [cS h,az d,.int .i64 1] (aa [cS h,az d,.int .i64 1]) (.tup [cS (bA h d 1).1,az (bA h d 1).2.1,.int .i64 (bA h d 1).2.2]):=by
 have s1:=small_host hh
 have g1:=hh.gr
 have g2:=hd.st
 refine rn 96 Tryz.func105 [.cell 6 38,.cell 7 35,.tmp 8] (g:= ?_)
 conv=>whnf
 (iterate 6 ((first|apply ac rfl|refine ac (by refine aO rfl ?_;simp only[cR];omega) ?_);conv=>whnf));(refine aD (by((try simp only[Int.toNat_natCast]);exact aF dQ _ _ _ default (by first|omega|(simp;omega)))) ?_;conv=>whnf);iterate 28 (first|(apply ac rfl;(conv=>whnf))|(apply ag rfl;(conv=>whnf))|(refine ChkS.mk (by kernel_rfl) ?_;(conv=>whnf))|(refine ck ?_ ?_<;>intro hb<;>(try simp only[ew]at hb)<;>conv=>whnf))
 rotate_left
 iterate 29 (first|(apply ac rfl;(conv=>whnf))|(apply ag rfl;(conv=>whnf))|(refine ChkS.mk (by kernel_rfl) ?_;(conv=>whnf))|(refine ck ?_ ?_<;>intro hb<;>(try simp only[ew]at hb)<;>conv=>whnf))
 rotate_left
 iterate 32 (first|(apply ac rfl;(conv=>whnf))|(apply ag rfl;(conv=>whnf))|(refine aG (fun hf=> ?_);(conv=>whnf))|(refine ChkS.mk (by kernel_rfl) ?_;(conv=>whnf))|(refine ck ?_ ?_<;>intro hb<;>(try simp only[ew]at hb)<;>conv=>whnf)|(apply aH;(conv=>whnf))|(refine ah (Fg ..) ?_;(conv=>whnf)))
 rotate_left
 (iterate 6 (first|(apply ac rfl;(conv=>whnf))|(apply aK rfl;(conv=>whnf))|(refine ck ?_ ?_<;>intro hb<;>(try simp only[ew]at hb)<;>conv=>whnf)));(iterate 2 (refine ac (by(((first|(simp[ao,am];done)|(refine aO rfl ?_;simp only[cR];rw[ai (by omega) (by omega)];omega)|(simp only[decide_eq_true_eq,Bool.and_eq_true,List.length_map];rw[ai (by omega) (by omega)];omega)|(simp[ao,am];omega))))) ?_;conv=>whnf));(refine aD (by((try simp only[Nat.zero_add,List.length_map]);exact pk _ (by omega) (by omega))) ?_;conv=>whnf);(refine ck ?_ ?_<;>intro hb<;>(try simp only[ew]at hb)<;>conv=>whnf);(apply ac rfl;conv=>whnf);(iterate 2 (refine ac (by(((first|(simp[ao,am];done)|(refine aO rfl ?_;simp only[cR];rw[ai (by omega) (by omega)];omega)|(simp only[decide_eq_true_eq,Bool.and_eq_true,List.length_map];rw[ai (by omega) (by omega)];omega)|(simp[ao,am];omega))))) ?_;conv=>whnf));(refine aD (by((try simp only[Nat.zero_add,List.length_map]);exact it _ (by omega) (by omega))) ?_;conv=>whnf);iterate 45 (first|(apply ac rfl;(conv=>whnf))|(apply ag rfl;(conv=>whnf))|(refine aG (fun hf=> ?_);(conv=>whnf))|(refine ChkS.mk (by kernel_rfl) ?_;(conv=>whnf))|(refine ck ?_ ?_<;>intro hb<;>(try simp only[ew]at hb)<;>conv=>whnf)|(apply aH;(conv=>whnf))|(refine ah (Il _ s1 _ _ hh.st hh.ds) ?_;(conv=>whnf)))
 rotate_left
 iterate 46 ((first|refine ac (by solve|simp only[bc]|fail) ?_|apply ac rfl|refine ag (al (by solve|simp[bc]|fail)) ?_|apply ag rfl|refine aG (fun hf=> ?_)|refine ChkS.mk (by kernel_rfl) ?_|apply bH rfl|apply aH|refine ah (mU _ _ g2 (by first|omega|(dsimp only;omega)|(simp;omega)) (by first|omega|(dsimp only;omega)|(simp;omega))) ?_);conv=>whnf)
 rotate_left
 iterate 45 (first|(apply ac rfl;(conv=>whnf))|(apply ag rfl;(conv=>whnf))|(refine aG (fun hf=> ?_);(conv=>whnf))|(refine ChkS.mk (by kernel_rfl) ?_;(conv=>whnf))|(refine ck ?_ ?_<;>intro hb<;>(try simp only[ew]at hb)<;>conv=>whnf)|(apply aH;(conv=>whnf))|(refine ah (Il _ s1 _ _ hh.st hh.ds) ?_;(conv=>whnf)))
 rotate_left
 iterate 46 ((first|refine ac (by solve|simp only[bc]|fail) ?_|apply ac rfl|refine ag (al (by solve|simp[bc]|fail)) ?_|apply ag rfl|refine aG (fun hf=> ?_)|refine ChkS.mk (by kernel_rfl) ?_|apply bH rfl|apply aH|refine ah (mU _ _ g2 (by first|omega|(dsimp only;omega)|(simp;omega)) (by first|omega|(dsimp only;omega)|(simp;omega))) ?_);conv=>whnf)
 rotate_left
 (iterate 4 (first|(apply ac rfl;(conv=>whnf))|(refine ac (by refine aO rfl ?_;simp only[cR];omega) ?_;(conv=>whnf))|(refine ck ?_ ?_<;>intro hb<;>(try simp only[ew]at hb)<;>conv=>whnf)));(refine aD (by((try simp only[Nat.zero_add,List.length_map]);exact it _ (by omega) (by omega))) ?_;conv=>whnf);iterate 63 ((first|refine ac (by solve|simp only[bc]|fail) ?_|apply ac rfl|refine ag (al (by solve|simp[bc]|fail)) ?_|apply ag rfl|refine aG (fun hf=> ?_)|refine ChkS.mk (by kernel_rfl) ?_|apply bH rfl|apply aK rfl|apply aH|refine ah (Il _ s1 _ _ hh.st hh.ds) ?_|refine ah (mU _ _ g2 (by first|omega|(dsimp only;omega)|(simp;omega)) (by first|omega|(dsimp only;omega)|(simp;omega))) ?_);conv=>whnf)
 rotate_left
 iterate 63 ((first|refine ac (by solve|simp only[bc]|fail) ?_|apply ac rfl|refine ag (al (by solve|simp[bc]|fail)) ?_|apply ag rfl|refine aG (fun hf=> ?_)|refine ChkS.mk (by kernel_rfl) ?_|apply bH rfl|apply aK rfl|apply aH|refine ah (Il _ s1 _ _ hh.st hh.ds) ?_|refine ah (mU _ _ g2 (by first|omega|(dsimp only;omega)|(simp;omega)) (by first|omega|(dsimp only;omega)|(simp;omega))) ?_);conv=>whnf)
 rotate_left
 all_goals first
  |(exfalso;omega)
  |exact⟨by rw[Cl (by assumption)];exact Sh.refl _⟩
  |exact⟨by rw[Cv (by assumption) (by omega)];exact Sh.refl _⟩
  |exact⟨by rw[Hr (by assumption) (by omega) (by omega)];exact Sh.refl _⟩
  |exact⟨by rw[k1 (by assumption) (by omega) (by omega) (by omega),if_pos (by assumption)];exact ig _ _ _⟩
  |exact⟨by rw[k1 (by assumption) (by omega) (by omega) (by omega),if_neg (by assumption)];exact Sh.refl _⟩
set_option maxHeartbeats 2000000 in
theorem A3(h:Hst)(d:Dat)(hh:HostOk h)(hd:DataOk d):Con Tryz.prog 105 [cS h,az d,.int .i64 2] (aa [cS h,az d,.int .i64 2]) (.tup [cS (bA h d 2).1,az (bA h d 2).2.1,.int .i64 (bA h d 2).2.2]):=by
 have s1:=small_host hh
 have g1:=hh.gr
 have g2:=hd.st
 refine rn 96 Tryz.func105 [.cell 6 38,.cell 7 35,.tmp 8] (g:= ?_)
 conv=>whnf
 (iterate 6 ((first|apply ac rfl|refine ac (by refine aO rfl ?_;simp only[cR];omega) ?_);conv=>whnf));(refine aD (by((try simp only[Int.toNat_natCast]);exact aF dQ _ _ _ default (by first|omega|(simp;omega)))) ?_;conv=>whnf);iterate 28 (first|(apply ac rfl;(conv=>whnf))|(apply ag rfl;(conv=>whnf))|(refine ChkS.mk (by kernel_rfl) ?_;(conv=>whnf))|(refine ck ?_ ?_<;>intro hb<;>(try simp only[ew]at hb)<;>conv=>whnf))
 rotate_left
 iterate 29 (first|(apply ac rfl;(conv=>whnf))|(apply ag rfl;(conv=>whnf))|(refine ChkS.mk (by kernel_rfl) ?_;(conv=>whnf))|(refine ck ?_ ?_<;>intro hb<;>(try simp only[ew]at hb)<;>conv=>whnf))
 rotate_left
 iterate 32 (first|(apply ac rfl;(conv=>whnf))|(apply ag rfl;(conv=>whnf))|(refine aG (fun hf=> ?_);(conv=>whnf))|(refine ChkS.mk (by kernel_rfl) ?_;(conv=>whnf))|(refine ck ?_ ?_<;>intro hb<;>(try simp only[ew]at hb)<;>conv=>whnf)|(apply aH;(conv=>whnf))|(refine ah (pP ..) ?_;(conv=>whnf)))
 rotate_left
 (iterate 6 (first|(apply ac rfl;(conv=>whnf))|(apply aK rfl;(conv=>whnf))|(refine ck ?_ ?_<;>intro hb<;>(try simp only[ew]at hb)<;>conv=>whnf)));(iterate 2 (refine ac (by(((first|(simp[ao,am];done)|(refine aO rfl ?_;simp only[cR];rw[ai (by omega) (by omega)];omega)|(simp only[decide_eq_true_eq,Bool.and_eq_true,List.length_map];rw[ai (by omega) (by omega)];omega)|(simp[ao,am];omega))))) ?_;conv=>whnf));(refine aD (by((try simp only[Nat.zero_add,List.length_map]);exact pk _ (by omega) (by omega))) ?_;conv=>whnf);(refine ck ?_ ?_<;>intro hb<;>(try simp only[ew]at hb)<;>conv=>whnf);(apply ac rfl;conv=>whnf);(iterate 2 (refine ac (by(((first|(simp[ao,am];done)|(refine aO rfl ?_;simp only[cR];rw[ai (by omega) (by omega)];omega)|(simp only[decide_eq_true_eq,Bool.and_eq_true,List.length_map];rw[ai (by omega) (by omega)];omega)|(simp[ao,am];omega))))) ?_;conv=>whnf));(refine aD (by((try simp only[Nat.zero_add,List.length_map]);exact it _ (by omega) (by omega))) ?_;conv=>whnf);(iterate 40 ((first|refine ac (by solve|simp only[bc]|fail) ?_|apply ac rfl|refine ag (al (by solve|simp[bc]|fail)) ?_|apply ag rfl|refine aG (fun hf=> ?_)|refine ChkS.mk (by kernel_rfl) ?_|apply aK rfl|apply aH|refine ah (pP ..) ?_|refine ah (Ib _ s1 _ _ hh.ds) ?_);conv=>whnf));(refine ah (put _ _ [_] g2 (by first|omega|(dsimp only;omega)|(simp;omega)) (by first|omega|(dsimp only;omega)|(simp;omega)) (by simp)) ?_;conv=>whnf);iterate 38 ((first|refine ac (by solve|simp only[bc]|fail) ?_|apply ac rfl|refine ag (al (by solve|simp[bc]|fail)) ?_|apply ag rfl|refine aG (fun hf=> ?_)|refine ChkS.mk (by kernel_rfl) ?_);conv=>whnf)
 rotate_left
 (iterate 40 ((first|refine ac (by solve|simp only[bc]|fail) ?_|apply ac rfl|refine ag (al (by solve|simp[bc]|fail)) ?_|apply ag rfl|refine aG (fun hf=> ?_)|refine ChkS.mk (by kernel_rfl) ?_|apply aK rfl|apply aH|refine ah (pP ..) ?_|refine ah (Ib _ s1 _ _ hh.ds) ?_);conv=>whnf));(refine ah (put _ _ [_] g2 (by first|omega|(dsimp only;omega)|(simp;omega)) (by first|omega|(dsimp only;omega)|(simp;omega)) (by simp)) ?_;conv=>whnf);iterate 38 ((first|refine ac (by solve|simp only[bc]|fail) ?_|apply ac rfl|refine ag (al (by solve|simp[bc]|fail)) ?_|apply ag rfl|refine aG (fun hf=> ?_)|refine ChkS.mk (by kernel_rfl) ?_);conv=>whnf)
 rotate_left
 (iterate 4 (first|(apply ac rfl;(conv=>whnf))|(refine ac (by refine aO rfl ?_;simp only[cR];omega) ?_;(conv=>whnf))|(refine ck ?_ ?_<;>intro hb<;>(try simp only[ew]at hb)<;>conv=>whnf)));(refine aD (by((try simp only[Nat.zero_add,List.length_map]);exact it _ (by omega) (by omega))) ?_;conv=>whnf);(iterate 40 ((first|refine ac (by solve|simp only[bc]|fail) ?_|apply ac rfl|refine ag (al (by solve|simp[bc]|fail)) ?_|apply ag rfl|refine aG (fun hf=> ?_)|refine ChkS.mk (by kernel_rfl) ?_|apply aK rfl|apply aH|refine ah (pP ..) ?_|refine ah (Ib _ s1 _ _ hh.ds) ?_);conv=>whnf));(refine ah (put _ _ [_] g2 (by first|omega|(dsimp only;omega)|(simp;omega)) (by first|omega|(dsimp only;omega)|(simp;omega)) (by simp)) ?_;conv=>whnf);iterate 38 ((first|refine ac (by solve|simp only[bc]|fail) ?_|apply ac rfl|refine ag (al (by solve|simp[bc]|fail)) ?_|apply ag rfl|refine aG (fun hf=> ?_)|refine ChkS.mk (by kernel_rfl) ?_);conv=>whnf)
 rotate_left
 (iterate 40 ((first|refine ac (by solve|simp only[bc]|fail) ?_|apply ac rfl|refine ag (al (by solve|simp[bc]|fail)) ?_|apply ag rfl|refine aG (fun hf=> ?_)|refine ChkS.mk (by kernel_rfl) ?_|apply aK rfl|apply aH|refine ah (pP ..) ?_|refine ah (Ib _ s1 _ _ hh.ds) ?_);conv=>whnf));(refine ah (put _ _ [_] g2 (by first|omega|(dsimp only;omega)|(simp;omega)) (by first|omega|(dsimp only;omega)|(simp;omega)) (by simp)) ?_;conv=>whnf);iterate 38 ((first|refine ac (by solve|simp only[bc]|fail) ?_|apply ac rfl|refine ag (al (by solve|simp[bc]|fail)) ?_|apply ag rfl|refine aG (fun hf=> ?_)|refine ChkS.mk (by kernel_rfl) ?_);conv=>whnf)
 rotate_left
 all_goals first
  |(exfalso;omega)
  |exact⟨by rw[Cl (by assumption)];exact Sh.refl _⟩
  |exact⟨by rw[Cv (by assumption) (by omega)];exact Sh.refl _⟩
  |exact⟨by rw[Gq (by assumption) (by omega) (by omega)];exact Sh.refl _⟩
  |exact⟨by rw[k2 (ia d) (by assumption) (by omega) (by omega) (by omega)];exact ig _ _ _⟩
  |exact⟨by rw[k2 0 (by assumption) (by omega) (by omega) (by omega)];exact ig _ _ _⟩
set_option maxHeartbeats 2000000 in
theorem zq(h:Hst)(d:Dat)(hh:HostOk h)(hd:DataOk d):Con Tryz.prog 105 [cS h,az d,.int .i64 3] (aa [cS h,az d,.int .i64 3]) (.tup [cS (bA h d 3).1,az (bA h d 3).2.1,.int .i64 (bA h d 3).2.2]):=by
 have s1:=small_host hh
 have g1:=hh.gr
 have g2:=hd.st
 refine rn 96 Tryz.func105 [.cell 6 38,.cell 7 35,.tmp 8] (g:= ?_)
 conv=>whnf
 refine bJ ?_
 (refine aD (by((try simp only[Int.toNat_natCast]);exact aF dQ _ _ _ default (by first|omega|(simp;omega)))) ?_;conv=>whnf);(refine bN ?_ ?_<;>intro hb)
 refine bJ ?_
 iterate 7 (refine ie ?_)
 rotate_left
 iterate 10 (first|refine ie ?_|refine bJ ?_|(refine bN ?_ ?_<;>intro hb))
 rotate_left
 iterate 12 (first|refine ie ?_|(refine ah (pM ..) ?_;conv=>whnf)|refine bJ ?_|(refine bN ?_ ?_<;>intro hb))
 rotate_left
 (refine bN ?_ ?_<;>intro hb)
 refine bJ ?_
 (iterate 2 (refine ac (by(((first|(simp[ao,am];done)|(refine aO rfl ?_;simp only[cR];rw[ai (by omega) (by omega)];omega)|(simp only[decide_eq_true_eq,Bool.and_eq_true,List.length_map];rw[ai (by omega) (by omega)];omega)|(simp[ao,am];omega))))) ?_;conv=>whnf));(refine aD (by((try simp only[Nat.zero_add,List.length_map]);exact pk _ (by omega) (by omega))) ?_;conv=>whnf);(refine bN ?_ ?_<;>intro hb)
 refine bJ ?_
 (iterate 2 (refine ac (by(((first|(simp[ao,am];done)|(refine aO rfl ?_;simp only[cR];rw[ai (by omega) (by omega)];omega)|(simp only[decide_eq_true_eq,Bool.and_eq_true,List.length_map];rw[ai (by omega) (by omega)];omega)|(simp[ao,am];omega))))) ?_;conv=>whnf));(refine aD (by((try simp only[Nat.zero_add,List.length_map]);exact it _ (by omega) (by omega))) ?_;conv=>whnf);(iterate 13 (first|refine ie ?_|(refine ah (pM ..) ?_;conv=>whnf)|(refine ah (Ie _ s1 _ _ hh.ds) ?_;conv=>whnf)|refine bJ ?_));(refine ah (put _ _ [_] g2 (by first|omega|(dsimp only;omega)|(simp;omega)) (by first|omega|(dsimp only;omega)|(simp;omega)) (by simp)) ?_;conv=>whnf)
 refine bJ ?_
 iterate 7 (refine ie ?_)
 rotate_left
 (iterate 13 (first|refine ie ?_|(refine ah (pM ..) ?_;conv=>whnf)|(refine ah (Ie _ s1 _ _ hh.ds) ?_;conv=>whnf)|refine bJ ?_));(refine ah (put _ _ [_] g2 (by first|omega|(dsimp only;omega)|(simp;omega)) (by first|omega|(dsimp only;omega)|(simp;omega)) (by simp)) ?_;conv=>whnf)
 refine bJ ?_
 iterate 7 (refine ie ?_)
 rotate_left
 (refine bN ?_ ?_<;>intro hb)
 refine bJ ?_
 (refine aD (by((try simp only[Nat.zero_add,List.length_map]);exact it _ (by omega) (by omega))) ?_;conv=>whnf);(iterate 13 (first|refine ie ?_|(refine ah (pM ..) ?_;conv=>whnf)|(refine ah (Ie _ s1 _ _ hh.ds) ?_;conv=>whnf)|refine bJ ?_));(refine ah (put _ _ [_] g2 (by first|omega|(dsimp only;omega)|(simp;omega)) (by first|omega|(dsimp only;omega)|(simp;omega)) (by simp)) ?_;conv=>whnf)
 refine bJ ?_
 iterate 7 (refine ie ?_)
 rotate_left
 (iterate 13 (first|refine ie ?_|(refine ah (pM ..) ?_;conv=>whnf)|(refine ah (Ie _ s1 _ _ hh.ds) ?_;conv=>whnf)|refine bJ ?_));(refine ah (put _ _ [_] g2 (by first|omega|(dsimp only;omega)|(simp;omega)) (by first|omega|(dsimp only;omega)|(simp;omega)) (by simp)) ?_;conv=>whnf)
 refine bJ ?_
 iterate 7 (refine ie ?_)
 rotate_left
 all_goals first
  |(exfalso;omega)
  |exact⟨by rw[Cl (by assumption)];exact Sh.refl _⟩
  |exact⟨by rw[Cv (by assumption) (by omega)];exact Sh.refl _⟩
  |exact⟨by rw[HK (by assumption) (by omega) (by omega)];exact Sh.refl _⟩
  |exact⟨by rw[k3 (ia d) (bp d) (by assumption) (by omega) (by omega) (by omega)];exact ig _ _ _⟩
  |exact⟨by rw[k3 0 (bp d) (by assumption) (by omega) (by omega) (by omega)];exact ig _ _ _⟩
  |exact⟨by rw[k3 0 0 (by assumption) (by omega) (by omega) (by omega)];exact ig _ _ _⟩
theorem scall(h:Hst)(d:Dat)(c:Int)(hh:cP h=true)(hd:eN d=true)(hc:bh c 0 3=true):Con Tryz.prog 105 [cS h,az d,.int .i64 c] (aa [cS h,az d,.int .i64 c]) (.tup [cS (bA h d c.toNat).1,az (bA h d c.toNat).2.1,.int .i64 (bA h d c.toNat).2.2]):=by
 have e:=aN hc
 have hh:=(gV h).1 hh
 have hd:=(gP d).1 hd
 have:c=0∨c=1∨c=2∨c=3:=by omega
 rcases this with rfl|rfl|rfl|rfl
 ·exact Bb h d hh hd
 ·exact zM h d hh hd
 ·exact A3 h d hh hd
 ·exact zq h d hh hd
end H6
