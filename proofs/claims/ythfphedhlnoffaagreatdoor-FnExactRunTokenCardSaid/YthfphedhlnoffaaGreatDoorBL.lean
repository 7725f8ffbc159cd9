import Derived.Test.YthfphedhlnoffaaGreatDoorBK
import Derived.Test.YthfphedhlnoffaaGreatDoorBV
import Derived.Test.YthfphedhlnoffaaGreatDoorLK
import Derived.Test.YthfphedhlnoffaaGreatDoorLJ
import Derived.Test.YthfphedhlnoffaaGreatDoorRows
import Derived.Test.YthfphedhlnoffaaGreatDoorTie
import Derived.Test.YthfphedhlnoffaaGreatDoorCards
import Derived.SevenTiedAt
import Derived.LaidMore
import Derived.LaidLaws
import Derived.Lay
/- The laws of BeginToken, StepMachine, RunToken. -/
set_option linter.unusedVariables false
set_option maxHeartbeats 4000000
set_option linter.unusedSimpArgs false
set_option maxRecDepth 100000
open Go Go.Abs Go.Proofs V1 H1 M1 N1 N2 P5 X10 X17
namespace X18
theorem wS(m:Mch)(n:Int):oW true m n=oW false m n:=by unfold oW;rw[oE]
theorem AZ(m:Mch):nX true m=nX false m:=by unfold nX;rw[rR]
theorem vI: ∀(k:Nat)(m:Mch)(t s:Int),iW TX true k m t s=iW TX false k m t s
 |0,m,t,s=>rfl
 |k+1,m,t,s=>by rw[iW,iW,rR,vI k]
theorem CJ(m:Mch)(n:Int):oA true m n=oA false m n:=by unfold oA mB;rw[oE,vI]
theorem sm{m:Mch}(h:X10.smallM m):M1.smallM m:=⟨h.ws,h.co,h.da,h.ho,h.ca⟩
theorem Km:M1.smallM uk:=⟨Nat.zero_le _,Nat.zero_le _,⟨Nat.zero_le _,Nat.zero_le _,Nat.zero_le _,Nat.zero_le _⟩,⟨Nat.zero_le _,Nat.zero_le _,Nat.zero_le _,Nat.zero_le _⟩,Nat.zero_le _⟩
theorem LB(m:Mch)(n:Int):M1.smallM (oW false m n).1:=by
 unfold oW
 split
 ·rename_i h;exact sm (gF (ix (pN h).1 n).1)
 ·exact Km
theorem LL(m:Mch):M1.smallM (nX false m).1:=by
 unfold nX
 split
 ·rename_i h
  unfold uH at h
  repeat' split at h
  ·exact absurd h (by decide)
  ·exact absurd h (by decide)
  ·rename_i h1 h2
   rw[Bool.not_eq_false]at h1
   exact sm (gF (jG ((fW m).1 h1).1).1)
 ·exact Km
theorem Lr(m:Mch)(n:Int):M1.smallM (oA false m n).1:=by
 unfold oA
 split
 ·rename_i h;exact sm (gF (wh _ _ _ _ (ix (pN h).1 n).1))
 ·exact Km
theorem zA{m:Mch}(h:M1.smallM m):0≤cJ m.da∧0≤dg m.ho∧0≤lY m∧lY m≤50000000:=by
 have a:=wG h.2.2.1
 have b:=vX h.2.2.2.1
 obtain⟨h1,h2,_,_,h5⟩:=h
 unfold lY
 refine⟨?_,?_,?_,?_⟩<;>omega
theorem law1(m:Mch)(n:Int):Con Tryz.prog 3 [aR m,.int .i64 n] (aa [aR m,.int .i64 n]) (.bool true):=by
 have k1:=c9 m n
 have k2:=c7 m n
 rw[wS]at k1
 have k3:=LB m n
 generalize oW false m n=r at k1 k2 k3
 obtain⟨m2,t,e⟩:=r
 dsimp only[FX]at k1 k2 k3
 obtain⟨d1,d2,d3,d4⟩:=zA k3
 have q2:=A9 m2 1 (by omega) (by omega) d1 d2
 refine Con.evFK [(0,[1,2,4]),(1,[1,2,4,5]),(2,[1,2,4,5]),(3,[1,2,4,23]),(4,[1,2,4]),(5,[1,2,4,6,7,8]),(6,[1,2,4,6,7,8,9]),(7,[1,2,4,6,7,8,9,10,11,12]),(8,[1,2,4,6,7,8,9,10,11,12,54]),(9,[1,2,4,6,7,8,9,10,11,12]),(10,[1,2,4,6,7,8,9,10,11,12,59]),(11,[1,2,4,6,7,8,9,10,11,12]),(12,[1,2,4,6,7,8,9,10,11,12,13]),(13,[1,2,4,6,7,8,10,11,12,13]),(14,[1,2,4,6,7,8,10,80]),(15,[1,2,4,6,7,8,10]),(16,[1,2,4,6,7,8,10,14]),(17,[1,2,4,6,7,8,10,14]),(18,[1,2,4,6,7,8,10,14,15]),(19,[1,2,4,6,7,8,10,14,15]),(20,[1,2,4,6,7,8,10,14,15,88]),(21,[1,2,4,6,7,8,10,14,15]),(22,[1,2,4,6,7,8,10,14,15,91]),(23,[1,2,4,6,7,8,10,14,15]),(24,[4,6,7,8,10,14,15,16,17,18]),(25,[4,10,14,15,113]),(26,[4,10,14,15]),(27,[4,10,14,15]),(28,[4,14,15]),(29,[4,14,15,118]),(30,[4,14,15]),(31,[4,121]),(32,[4]),(33,[4])] 122 bH dI Tryz.func3 rfl rfl rfl rfl [.tmp 4] rfl fun⟨hy,_⟩=> ?_
 have y:=jm hy
 clear hy
 conv=>whnf
 (iterate 33 (first|(apply ac rfl;(conv=>whnf))|(apply af rfl;(conv=>whnf))|(refine aG (fun hf=> ?_);(conv=>whnf))|(refine cm ?_ ?_<;>intro hb<;>(try simp only[eH]at hb)<;>conv=>whnf)|(apply aB;(conv=>whnf))|(refine ag (c6 m _ (by omega) (by omega)) ?_;(conv=>whnf))));(refine aA ?_;(rfl));iterate 27 ((first|apply ac rfl|apply af rfl|apply aB);conv=>whnf)
 rotate_left
 have a3:0≤mT m 1048576:=by omega
 obtain⟨_,s2⟩:=oV (by omega) (by omega) y a3
 obtain⟨e1,e2,e3,e4⟩:=zA s2
 (iterate 29 ((first|refine ac (by solve|simp only[cB,aF,aZ,aV,eI,aK,aX,aW,bO,bR]|fail) ?_|apply ac rfl|apply aB|refine ag (c8 _ s2) ?_);conv=>whnf));(iterate 10 (refine af (by((refine ak ?_;simp[List.length_map,aF,aZ,aV,eI,aK,aX,aW,bO,bR];done))) ?_;conv=>whnf));(iterate 91 ((first|refine ac (by solve|simp only[cB,aF,aZ,aV,eI,aK,aX,aW,bO,bR]|fail) ?_|apply ac rfl|apply af rfl|refine aG (fun hf=> ?_)|apply aB|refine ag (c8 _ s2) ?_|refine ag (k2 ..) ?_);conv=>whnf));(iterate 10 (refine af (by((refine ak ?_;simp[List.length_map,aF,aZ,aV,eI,aK,aX,aW,bO,bR];done))) ?_;conv=>whnf));(iterate 56 ((first|refine ac (by solve|simp only[cB,aF,aZ,aV,eI,aK,aX,aW,bO,bR]|fail) ?_|apply ac rfl|refine aG (fun hf=> ?_)|apply aB|refine ag (k1 ..) ?_);conv=>whnf));(iterate 20 (refine af (by((refine ak ?_;simp[List.length_map,aF,aZ,aV,eI,aK,aX,aW,bO,bR];done))) ?_;conv=>whnf));(iterate 91 (first|(refine ac (by solve|simp only[cB,aF,aZ,aV,eI,aK,aX,aW,bO,bR]|fail) ?_;(conv=>whnf))|(apply ac rfl;(conv=>whnf))|(apply af rfl;(conv=>whnf))|(refine ChkS.mk (by kernel_rfl) ?_;(conv=>whnf))|(apply aJ rfl;(conv=>whnf))|(focus (apply aJ (by solve|simp|fail);(conv=>whnf)))|(refine ag (c8 _ s2) ?_;(conv=>whnf))|(refine ag (zR m2 ..) ?_;(conv=>whnf))));(iterate 20 (refine af (by((refine ak ?_;simp[List.length_map,aF,aZ,aV,eI,aK,aX,aW,bO,bR];done))) ?_;conv=>whnf));(iterate 127 ((first|refine ac (by solve|simp only[cB,aF,aZ,aV,eI,aK,aX,aW,bO,bR]|fail) ?_|apply ac rfl|apply af rfl|refine aG (fun hf=> ?_)|refine ChkS.mk (by kernel_rfl) ?_|apply aJ rfl|refine iE 11 ?_|refine gj (f:=11) (sq m 1 (by omega) (by omega) e1 e2 ..) (by solve|simp[ox,List.length_map,aF,aZ,aV,eI,aK,aX,aW,bO,bR]|fail) ?_|apply aB|refine ag (zR m ..) ?_);conv=>whnf));(iterate 20 (refine af (by((refine ak ?_;simp[List.length_map,aF,aZ,aV,eI,aK,aX,aW,bO,bR];done))) ?_;conv=>whnf));(iterate 88 (first|(refine ac (by solve|simp only[cB,aF,aZ,aV,eI,aK,aX,aW,bO,bR]|fail) ?_;(conv=>whnf))|(apply ac rfl;(conv=>whnf))|(apply af rfl;(conv=>whnf))|(refine aG (fun hf=> ?_);(conv=>whnf))|(apply aJ rfl;(conv=>whnf))|(focus (apply aJ (by solve|simp|fail);(conv=>whnf)))|(refine iE 11 ?_;(conv=>whnf))|(refine gj (f:=11) (sq m2 1 (by omega) (by omega) d1 d2 ..) (by solve|simp[ox,List.length_map,aF,aZ,aV,eI,aK,aX,aW,bO,bR]|fail) ?_;(conv=>whnf))|(apply aB;(conv=>whnf))|(refine ag (zR m2 ..) ?_;(conv=>whnf))));(iterate 10 (refine af (by((refine ak ?_;simp[List.length_map,aF,aZ,aV,eI,aK,aX,aW,bO,bR];done))) ?_;conv=>whnf));(iterate 60 (first|(refine ac (by solve|simp only[cB,aF,aZ,aV,eI,aK,aX,aW,bO,bR]|fail) ?_;(conv=>whnf))|(apply ac rfl;(conv=>whnf))|(apply af rfl;(conv=>whnf))|(refine aG (fun hf=> ?_);(conv=>whnf))|(apply aJ rfl;(conv=>whnf))|(focus (apply aJ (by solve|simp|fail);(conv=>whnf)))|(apply aB;(conv=>whnf))|(refine ag (c8 _ s2) ?_;(conv=>whnf))|(refine ag (q2 ..) ?_;(conv=>whnf))));(iterate 10 (refine af (by((refine ak ?_;simp[List.length_map,aF,aZ,aV,eI,aK,aX,aW,bO,bR];done))) ?_;conv=>whnf));(iterate 72 ((first|refine ac (by solve|simp only[cB,aF,aZ,aV,eI,aK,aX,aW,bO,bR]|fail) ?_|apply ac rfl|refine aG (fun hf=> ?_)|apply aB|refine ag (k1 ..) ?_);conv=>whnf));(iterate 20 (refine af (by((refine ak ?_;simp[List.length_map,aF,aZ,aV,eI,aK,aX,aW,bO,bR];done))) ?_;conv=>whnf));(iterate 36 (first|(refine ac (by solve|simp only[cB,aF,aZ,aV,eI,aK,aX,aW,bO,bR]|fail) ?_;(conv=>whnf))|(apply ac rfl;(conv=>whnf))|(apply aJ rfl;(conv=>whnf))|(focus (apply aJ (by solve|simp|fail);(conv=>whnf)))|(apply aB;(conv=>whnf))|(refine ag (zR m2 ..) ?_;(conv=>whnf))));(iterate 10 (refine af (by((refine ak ?_;simp[List.length_map,aF,aZ,aV,eI,aK,aX,aW,bO,bR];done))) ?_;conv=>whnf));(iterate 5 (first|(apply ac rfl;(conv=>whnf))|(refine aG (fun hf=> ?_);(conv=>whnf))|(apply aJ rfl;(conv=>whnf))|(focus (apply aJ (by solve|simp|fail);(conv=>whnf)))|(refine ag (q2 ..) ?_;(conv=>whnf))));(refine aA ?_;(first|rfl|(exfalso;omega)))
theorem law2(m:Mch):Con Tryz.prog 4 [aR m] (aa [aR m]) (.bool true):=by
 have k1:=c14 m
 have k2:=c13 m
 rw[AZ]at k1
 have k3:=LL m
 generalize nX false m=r at k1 k2 k3
 obtain⟨m2,t,e⟩:=r
 dsimp only[FX]at k1 k2 k3
 obtain⟨d1,d2,d3,d4⟩:=zA k3
 have q2:=A9 m2 1 (by omega) (by omega) d1 d2
 refine Con.evFK [(0,[1,2]),(1,[1,2,3]),(2,[1,2,3]),(3,[1,2,21]),(4,[1,2]),(5,[1,2,4,5,6]),(6,[1,2,4,5,6,7]),(7,[1,2,4,5,6,7,8,9,10]),(8,[1,2,4,5,6,7,8,9,10,50]),(9,[1,2,4,5,6,7,8,9,10]),(10,[1,2,4,5,6,7,8,9,10,55]),(11,[1,2,4,5,6,7,8,9,10]),(12,[1,2,4,5,6,7,8,9,10,11]),(13,[1,2,4,5,6,8,9,10,11]),(14,[1,2,4,5,6,8,76]),(15,[1,2,4,5,6,8]),(16,[1,2,4,5,6,8,12]),(17,[1,2,4,5,6,8,12]),(18,[1,2,4,5,6,8,12,13]),(19,[1,2,4,5,6,8,12,13]),(20,[1,2,4,5,6,8,12,13,84]),(21,[1,2,4,5,6,8,12,13]),(22,[1,2,4,5,6,8,12,13,87]),(23,[1,2,4,5,6,8,12,13]),(24,[2,4,5,6,8,12,13,14,15,16]),(25,[2,8,12,13,108]),(26,[2,8,12,13]),(27,[2,8,12,13]),(28,[2,12,13]),(29,[2,12,13,113]),(30,[2,12,13]),(31,[2,116]),(32,[2]),(33,[2])] 117 bH dI Tryz.func4 rfl rfl rfl rfl [.tmp 2] rfl fun⟨hy,_⟩=> ?_
 have y:=jm hy
 clear hy
 conv=>whnf
 (iterate 33 (first|(apply ac rfl;(conv=>whnf))|(apply af rfl;(conv=>whnf))|(refine aG (fun hf=> ?_);(conv=>whnf))|(refine cm ?_ ?_<;>intro hb<;>(try simp only[eH]at hb)<;>conv=>whnf)|(apply aB;(conv=>whnf))|(refine ag (c6 m _ (by omega) (by omega)) ?_;(conv=>whnf))));(refine aA ?_;(rfl));iterate 27 ((first|apply ac rfl|apply af rfl|apply aB);conv=>whnf)
 rotate_left
 have a3:0≤mT m 1048576:=by omega
 obtain⟨_,s2⟩:=oV (by omega) (by omega) y a3
 obtain⟨e1,e2,e3,e4⟩:=zA s2
 (iterate 28 ((first|refine ac (by solve|simp only[cB,aF,aZ,aV,eI,aK,aX,aW,bO,bR]|fail) ?_|apply ac rfl|apply aB|refine ag (c8 _ s2) ?_);conv=>whnf));(iterate 10 (refine af (by((refine ak ?_;simp[List.length_map,aF,aZ,aV,eI,aK,aX,aW,bO,bR];done))) ?_;conv=>whnf));(iterate 90 ((first|refine ac (by solve|simp only[cB,aF,aZ,aV,eI,aK,aX,aW,bO,bR]|fail) ?_|apply ac rfl|apply af rfl|refine aG (fun hf=> ?_)|apply aB|refine ag (c8 _ s2) ?_|refine ag (k2 ..) ?_);conv=>whnf));(iterate 10 (refine af (by((refine ak ?_;simp[List.length_map,aF,aZ,aV,eI,aK,aX,aW,bO,bR];done))) ?_;conv=>whnf));(iterate 56 ((first|refine ac (by solve|simp only[cB,aF,aZ,aV,eI,aK,aX,aW,bO,bR]|fail) ?_|apply ac rfl|refine aG (fun hf=> ?_)|apply aB|refine ag (k1 ..) ?_);conv=>whnf));(iterate 20 (refine af (by((refine ak ?_;simp[List.length_map,aF,aZ,aV,eI,aK,aX,aW,bO,bR];done))) ?_;conv=>whnf));(iterate 91 (first|(refine ac (by solve|simp only[cB,aF,aZ,aV,eI,aK,aX,aW,bO,bR]|fail) ?_;(conv=>whnf))|(apply ac rfl;(conv=>whnf))|(apply af rfl;(conv=>whnf))|(refine ChkS.mk (by kernel_rfl) ?_;(conv=>whnf))|(apply aJ rfl;(conv=>whnf))|(focus (apply aJ (by solve|simp|fail);(conv=>whnf)))|(refine ag (c8 _ s2) ?_;(conv=>whnf))|(refine ag (zR m2 ..) ?_;(conv=>whnf))));(iterate 20 (refine af (by((refine ak ?_;simp[List.length_map,aF,aZ,aV,eI,aK,aX,aW,bO,bR];done))) ?_;conv=>whnf));(iterate 127 ((first|refine ac (by solve|simp only[cB,aF,aZ,aV,eI,aK,aX,aW,bO,bR]|fail) ?_|apply ac rfl|apply af rfl|refine aG (fun hf=> ?_)|refine ChkS.mk (by kernel_rfl) ?_|apply aJ rfl|refine iE 11 ?_|refine gj (f:=11) (sq m 1 (by omega) (by omega) e1 e2 ..) (by solve|simp[ox,List.length_map,aF,aZ,aV,eI,aK,aX,aW,bO,bR]|fail) ?_|apply aB|refine ag (zR m ..) ?_);conv=>whnf));(iterate 20 (refine af (by((refine ak ?_;simp[List.length_map,aF,aZ,aV,eI,aK,aX,aW,bO,bR];done))) ?_;conv=>whnf));(iterate 88 (first|(refine ac (by solve|simp only[cB,aF,aZ,aV,eI,aK,aX,aW,bO,bR]|fail) ?_;(conv=>whnf))|(apply ac rfl;(conv=>whnf))|(apply af rfl;(conv=>whnf))|(refine aG (fun hf=> ?_);(conv=>whnf))|(apply aJ rfl;(conv=>whnf))|(focus (apply aJ (by solve|simp|fail);(conv=>whnf)))|(refine iE 11 ?_;(conv=>whnf))|(refine gj (f:=11) (sq m2 1 (by omega) (by omega) d1 d2 ..) (by solve|simp[ox,List.length_map,aF,aZ,aV,eI,aK,aX,aW,bO,bR]|fail) ?_;(conv=>whnf))|(apply aB;(conv=>whnf))|(refine ag (zR m2 ..) ?_;(conv=>whnf))));(iterate 10 (refine af (by((refine ak ?_;simp[List.length_map,aF,aZ,aV,eI,aK,aX,aW,bO,bR];done))) ?_;conv=>whnf));(iterate 59 (first|(refine ac (by solve|simp only[cB,aF,aZ,aV,eI,aK,aX,aW,bO,bR]|fail) ?_;(conv=>whnf))|(apply ac rfl;(conv=>whnf))|(apply af rfl;(conv=>whnf))|(refine aG (fun hf=> ?_);(conv=>whnf))|(apply aJ rfl;(conv=>whnf))|(focus (apply aJ (by solve|simp|fail);(conv=>whnf)))|(apply aB;(conv=>whnf))|(refine ag (c8 _ s2) ?_;(conv=>whnf))|(refine ag (q2 ..) ?_;(conv=>whnf))));(iterate 10 (refine af (by((refine ak ?_;simp[List.length_map,aF,aZ,aV,eI,aK,aX,aW,bO,bR];done))) ?_;conv=>whnf));(iterate 72 ((first|refine ac (by solve|simp only[cB,aF,aZ,aV,eI,aK,aX,aW,bO,bR]|fail) ?_|apply ac rfl|refine aG (fun hf=> ?_)|apply aB|refine ag (k1 ..) ?_);conv=>whnf));(iterate 20 (refine af (by((refine ak ?_;simp[List.length_map,aF,aZ,aV,eI,aK,aX,aW,bO,bR];done))) ?_;conv=>whnf));(iterate 36 (first|(refine ac (by solve|simp only[cB,aF,aZ,aV,eI,aK,aX,aW,bO,bR]|fail) ?_;(conv=>whnf))|(apply ac rfl;(conv=>whnf))|(apply aJ rfl;(conv=>whnf))|(focus (apply aJ (by solve|simp|fail);(conv=>whnf)))|(apply aB;(conv=>whnf))|(refine ag (zR m2 ..) ?_;(conv=>whnf))));(iterate 10 (refine af (by((refine ak ?_;simp[List.length_map,aF,aZ,aV,eI,aK,aX,aW,bO,bR];done))) ?_;conv=>whnf));(iterate 5 (first|(apply ac rfl;(conv=>whnf))|(refine aG (fun hf=> ?_);(conv=>whnf))|(apply aJ rfl;(conv=>whnf))|(focus (apply aJ (by solve|simp|fail);(conv=>whnf)))|(refine ag (q2 ..) ?_;(conv=>whnf))));(refine aA ?_;(first|rfl|(exfalso;omega)))
theorem law3(m:Mch)(n:Int):Con Tryz.prog 5 [aR m,.int .i64 n] (aa [aR m,.int .i64 n]) (.bool true):=by
 have k1:=c16 m n
 have k2:=c15 m n
 rw[CJ]at k1
 have k3:=Lr m n
 generalize oA false m n=r at k1 k2 k3
 obtain⟨m2,t,s,e⟩:=r
 dsimp only[Je]at k1 k2 k3
 obtain⟨d1,d2,d3,d4⟩:=zA k3
 have q2:=A9 m2 1 (by omega) (by omega) d1 d2
 refine Con.evFK [(0,[1,2,4]),(1,[1,2,4,5]),(2,[1,2,4,5]),(3,[1,2,4,26]),(4,[1,2,4]),(5,[1,2,4,6,7,8,9]),(6,[1,2,4,6,7,8,9,10]),(7,[1,2,4,6,7,8,9,10,11,12,13,14]),(8,[1,2,4,6,7,8,9,10,11,12,13,14,64]),(9,[1,2,4,6,7,8,9,10,11,12,13,14]),(10,[1,2,4,6,7,8,9,10,11,12,13,14,69]),(11,[1,2,4,6,7,8,9,10,11,12,13,14]),(12,[1,2,4,6,7,8,9,10,11,12,13,14,15]),(13,[1,2,4,6,7,8,9,11,12,13,14,15]),(14,[1,2,4,6,7,8,9,11,95]),(15,[1,2,4,6,7,8,9,11]),(16,[1,2,4,6,7,8,9,11,16]),(17,[1,2,4,6,7,8,9,11,16]),(18,[1,2,4,6,7,8,9,11,16,17]),(19,[1,2,4,6,7,8,9,11,16,17]),(20,[1,2,4,6,7,8,9,11,16,17,103]),(21,[1,2,4,6,7,8,9,11,16,17]),(22,[1,2,4,6,7,8,9,11,16,17,106]),(23,[1,2,4,6,7,8,9,11,16,17]),(24,[4,6,7,8,9,11,16,17,18,19,20,21]),(25,[4,11,16,17,134]),(26,[4,11,16,17]),(27,[4,11,16,17]),(28,[4,16,17]),(29,[4,16,17,139]),(30,[4,16,17]),(31,[4,142]),(32,[4]),(33,[4])] 143 bH dI Tryz.func5 rfl rfl rfl rfl [.tmp 4] rfl fun⟨hy,_⟩=> ?_
 have y:=jm hy
 clear hy
 conv=>whnf
 (iterate 33 (first|(apply ac rfl;(conv=>whnf))|(apply af rfl;(conv=>whnf))|(refine aG (fun hf=> ?_);(conv=>whnf))|(refine cm ?_ ?_<;>intro hb<;>(try simp only[eH]at hb)<;>conv=>whnf)|(apply aB;(conv=>whnf))|(refine ag (c6 m _ (by omega) (by omega)) ?_;(conv=>whnf))));(refine aA ?_;(rfl));iterate 27 ((first|apply ac rfl|apply af rfl|apply aB);conv=>whnf)
 rotate_left
 have a3:0≤mT m 1048576:=by omega
 obtain⟨_,s2⟩:=oV (by omega) (by omega) y a3
 obtain⟨e1,e2,e3,e4⟩:=zA s2
 (iterate 29 ((first|refine ac (by solve|simp only[cB,aF,aZ,aV,eI,aK,aX,aW,bO,bR]|fail) ?_|apply ac rfl|apply aB|refine ag (c8 _ s2) ?_);conv=>whnf));(iterate 10 (refine af (by((refine ak ?_;simp[List.length_map,aF,aZ,aV,eI,aK,aX,aW,bO,bR];done))) ?_;conv=>whnf));(iterate 92 ((first|refine ac (by solve|simp only[cB,aF,aZ,aV,eI,aK,aX,aW,bO,bR]|fail) ?_|apply ac rfl|apply af rfl|refine aG (fun hf=> ?_)|apply aB|refine ag (c8 _ s2) ?_|refine ag (k2 ..) ?_);conv=>whnf));(iterate 10 (refine af (by((refine ak ?_;simp[List.length_map,aF,aZ,aV,eI,aK,aX,aW,bO,bR];done))) ?_;conv=>whnf));(iterate 57 ((first|refine ac (by solve|simp only[cB,aF,aZ,aV,eI,aK,aX,aW,bO,bR]|fail) ?_|apply ac rfl|refine aG (fun hf=> ?_)|apply aB|refine ag (k1 ..) ?_);conv=>whnf));(iterate 20 (refine af (by((refine ak ?_;simp[List.length_map,aF,aZ,aV,eI,aK,aX,aW,bO,bR];done))) ?_;conv=>whnf));(iterate 94 (first|(refine ac (by solve|simp only[cB,aF,aZ,aV,eI,aK,aX,aW,bO,bR]|fail) ?_;(conv=>whnf))|(apply ac rfl;(conv=>whnf))|(apply af rfl;(conv=>whnf))|(refine ChkS.mk (by kernel_rfl) ?_;(conv=>whnf))|(apply aJ rfl;(conv=>whnf))|(focus (apply aJ (by solve|simp|fail);(conv=>whnf)))|(refine ag (c8 _ s2) ?_;(conv=>whnf))|(refine ag (zR m2 ..) ?_;(conv=>whnf))));(iterate 20 (refine af (by((refine ak ?_;simp[List.length_map,aF,aZ,aV,eI,aK,aX,aW,bO,bR];done))) ?_;conv=>whnf));(iterate 127 ((first|refine ac (by solve|simp only[cB,aF,aZ,aV,eI,aK,aX,aW,bO,bR]|fail) ?_|apply ac rfl|apply af rfl|refine aG (fun hf=> ?_)|refine ChkS.mk (by kernel_rfl) ?_|apply aJ rfl|refine iE 11 ?_|refine gj (f:=11) (sq m 1 (by omega) (by omega) e1 e2 ..) (by solve|simp[ox,List.length_map,aF,aZ,aV,eI,aK,aX,aW,bO,bR]|fail) ?_|apply aB|refine ag (zR m ..) ?_);conv=>whnf));(iterate 20 (refine af (by((refine ak ?_;simp[List.length_map,aF,aZ,aV,eI,aK,aX,aW,bO,bR];done))) ?_;conv=>whnf));(iterate 91 (first|(refine ac (by solve|simp only[cB,aF,aZ,aV,eI,aK,aX,aW,bO,bR]|fail) ?_;(conv=>whnf))|(apply ac rfl;(conv=>whnf))|(apply af rfl;(conv=>whnf))|(refine aG (fun hf=> ?_);(conv=>whnf))|(apply aJ rfl;(conv=>whnf))|(focus (apply aJ (by solve|simp|fail);(conv=>whnf)))|(refine iE 11 ?_;(conv=>whnf))|(refine gj (f:=11) (sq m2 1 (by omega) (by omega) d1 d2 ..) (by solve|simp[ox,List.length_map,aF,aZ,aV,eI,aK,aX,aW,bO,bR]|fail) ?_;(conv=>whnf))|(apply aB;(conv=>whnf))|(refine ag (zR m2 ..) ?_;(conv=>whnf))));(iterate 10 (refine af (by((refine ak ?_;simp[List.length_map,aF,aZ,aV,eI,aK,aX,aW,bO,bR];done))) ?_;conv=>whnf));(iterate 60 (first|(refine ac (by solve|simp only[cB,aF,aZ,aV,eI,aK,aX,aW,bO,bR]|fail) ?_;(conv=>whnf))|(apply ac rfl;(conv=>whnf))|(apply af rfl;(conv=>whnf))|(refine aG (fun hf=> ?_);(conv=>whnf))|(apply aJ rfl;(conv=>whnf))|(focus (apply aJ (by solve|simp|fail);(conv=>whnf)))|(apply aB;(conv=>whnf))|(refine ag (c8 _ s2) ?_;(conv=>whnf))|(refine ag (q2 ..) ?_;(conv=>whnf))));(iterate 10 (refine af (by((refine ak ?_;simp[List.length_map,aF,aZ,aV,eI,aK,aX,aW,bO,bR];done))) ?_;conv=>whnf));(iterate 73 ((first|refine ac (by solve|simp only[cB,aF,aZ,aV,eI,aK,aX,aW,bO,bR]|fail) ?_|apply ac rfl|refine aG (fun hf=> ?_)|apply aB|refine ag (k1 ..) ?_);conv=>whnf));(iterate 20 (refine af (by((refine ak ?_;simp[List.length_map,aF,aZ,aV,eI,aK,aX,aW,bO,bR];done))) ?_;conv=>whnf));(iterate 39 (first|(refine ac (by solve|simp only[cB,aF,aZ,aV,eI,aK,aX,aW,bO,bR]|fail) ?_;(conv=>whnf))|(apply ac rfl;(conv=>whnf))|(apply aJ rfl;(conv=>whnf))|(focus (apply aJ (by solve|simp|fail);(conv=>whnf)))|(apply aB;(conv=>whnf))|(refine ag (zR m2 ..) ?_;(conv=>whnf))));(iterate 10 (refine af (by((refine ak ?_;simp[List.length_map,aF,aZ,aV,eI,aK,aX,aW,bO,bR];done))) ?_;conv=>whnf));(iterate 5 (first|(apply ac rfl;(conv=>whnf))|(refine aG (fun hf=> ?_);(conv=>whnf))|(apply aJ rfl;(conv=>whnf))|(focus (apply aJ (by solve|simp|fail);(conv=>whnf)))|(refine ag (q2 ..) ?_;(conv=>whnf))));(refine aA ?_;(first|rfl|(exfalso;omega)))
end X18

/- Machines: what the arguments are. -/
open Go Go.Abs Go.Proofs V1
namespace X19
theorem DN{d:Nat}{l:List AV}(h:uD T (d+2) 84 l): ∃r:Wd,l=dl r:=by
 obtain⟨_,_,rfl,⟨s,rfl⟩,_,_,rfl,⟨k,rfl⟩,_,_,rfl,⟨n,rfl⟩,rfl⟩:=h
 exact⟨⟨s,k,n⟩,rfl⟩
theorem CR{d:Nat}{l:List AV}(h:uD T (d+2) 101 l): ∃r:Cal,l=bF r:=by
 obtain⟨_,_,rfl,⟨k,rfl⟩,_,_,rfl,⟨n,rfl⟩,_,_,rfl,⟨s,rfl⟩,_,_,rfl,⟨t,rfl⟩,rfl⟩:=h
 exact⟨⟨k,n,s,t⟩,rfl⟩
theorem Ea{d:Nat}{l:List AV}(h:uD T (d+2) 131 l): ∃r:Deal,l=bc r:=by
 obtain⟨_,_,rfl,⟨k,rfl⟩,_,_,rfl,⟨n,rfl⟩,_,_,rfl,⟨s,rfl⟩,_,_,rfl,⟨t,rfl⟩,rfl⟩:=h
 exact⟨⟨k,n,s,t⟩,rfl⟩
theorem DJ{d:Nat}{l:List AV}(h:uD T (d+4) 29 l): ∃h:Hst,l=Ek h:=by
 obtain⟨_,_,rfl,⟨r1,rfl,h1⟩,_,_,rfl,⟨r2,rfl,h2⟩,_,_,rfl,⟨r3,rfl,h3⟩,_,_,rfl,⟨tk,rfl⟩,_,_,rfl,⟨r5,rfl,h5⟩,rfl⟩:=h
 obtain⟨gr,rfl⟩:=fb dT h1
 obtain⟨st,rfl⟩:=fb aj h2
 obtain⟨q,rfl⟩:=fb aj h3
 obtain⟨ds,rfl⟩:=fb bc fun row hr=>Ea (d:=d) (h5 row hr)
 exact⟨⟨gr,st,q,tk,ds⟩,rfl⟩
theorem CU{d:Nat}{l:List AV}(h:uD T (d+4) 25 l): ∃x:Dat,l=G8 x:=by
 obtain⟨_,_,rfl,⟨r1,rfl,h1⟩,_,_,rfl,⟨r2,rfl,h2⟩,_,_,rfl,⟨r3,rfl,h3⟩,_,_,rfl,⟨he,rfl⟩,_,_,rfl,⟨ba,rfl⟩,_,_,rfl,⟨ou,rfl⟩,rfl⟩:=h
 obtain⟨st,rfl⟩:=fb aj h1
 obtain⟨bk,rfl⟩:=fb aj h2
 obtain⟨ce,rfl⟩:=fb aj h3
 exact⟨⟨st,bk,ce,he,ba,ou⟩,rfl⟩
theorem DI{d:Nat}{l:List AV}(h:uD T (d+5) 32 l): ∃m:Mch,l=gx m:=by
 obtain⟨_,_,rfl,⟨r1,rfl,h1⟩,_,_,rfl,⟨r2,rfl,h2⟩,p3,_,rfl,h3,p4,_,rfl,h4,_,_,rfl,⟨r5,rfl,h5⟩,_,_,rfl,⟨ip,rfl⟩,_,_,rfl,⟨fu,rfl⟩,rfl⟩:=h
 obtain⟨da,rfl⟩:=CU (d:=d) h3
 obtain⟨ho,rfl⟩:=DJ (d:=d) h4
 obtain⟨ws,rfl⟩:=fb dl fun row hr=>DN (d:=d+1) (h1 row hr)
 obtain⟨co,rfl⟩:=fb aj h2
 obtain⟨ca,rfl⟩:=fb bF fun row hr=>CR (d:=d+1) (h5 row hr)
 exact⟨⟨ws,co,da,ho,ca,ip,fu⟩,rfl⟩
theorem mch_of{l:List AV}(h:uD T 10 32 l): ∃m:Mch,l=gx m:=DI (d:=5) h
theorem int_of{x:AV}(h:uD T 10 3 [x]): ∃n,x=.int .i64 n:=by
 obtain⟨n,h1⟩:=h
 injection h1 with h1
 exact⟨n,h1⟩
end X19

/- FnExactRunToken: the law returns true at every input, and its arguments read behind the call as they did. -/
namespace Go.Proofs.YthfphedhlnoffaaGreatDoor.FnExactRunToken
open Go.ChangeShapes Go.WideShapes Go.ChangeAt Go.RowKit Go.Joins
open Go.Abs V1 X18 X19
theorem own:ownKnob Tryz.prog.godebug=none:=by kernel_rfl
theorem jJ:laidOutB Tryz.prog=true:=by kernel_rfl
theorem kH{W:World}(h:laidMetH Tryz.prog Rows.fnExactRunTokenRow.laid W):Tabs Tryz.prog W ae:=by
 rw[MakeChecks.laidMetH_plain _ _ _ (by kernel_rfl)]at h
 obtain⟨ps,hl,_⟩:=h
 have m0:("strings.asciiSpace",(Lib.tabData .u8 Lib.asciiSpaceTab:DataW Unit))∈Rows.fnExactRunTokenRow.laid:=List.mem_of_getElem? (i:=5) (by kernel_rfl)
 have t0:=dz (t:=188) (e:=5) (n:=256) (g:=0) (by kernel_rfl) (by kernel_rfl) Tryz.underlying188 Tryz.underlying5 (by kernel_rfl) (by kernel_rfl) hl m0
 have m1:("internal/strconv.uint64pow10",(Lib.tabData .u64 Lib.pow10Tab:DataW Unit))∈Rows.fnExactRunTokenRow.laid:=List.mem_of_getElem? (i:=2) (by kernel_rfl)
 have t1:=dz (t:=239) (e:=183) (n:=20) (g:=3) (by kernel_rfl) (by kernel_rfl) Tryz.underlying239 Tryz.underlying183 (by kernel_rfl) (by kernel_rfl) hl m1
 have m2:("math/bits.deBruijn64tab",(Lib.tabData .u8 (Lib.deBruijn64tab.map fun z:Nat=>(z:Int)):DataW Unit))∈Rows.fnExactRunTokenRow.laid:=List.mem_of_getElem? (i:=1) (by kernel_rfl)
 have t2:=dz (t:=258) (e:=5) (n:=64) (g:=8) (by kernel_rfl) (by kernel_rfl) Tryz.underlying258 Tryz.underlying5 (by kernel_rfl) (by kernel_rfl) hl m2
 intro x hx g hg
 simp only[uP,List.mem_cons,List.not_mem_nil,or_false]at hx
 rcases hx with rfl|rfl|rfl
 ·exact⟨eU t0 hg,fun _ k=>k⟩
 ·exact⟨eU t1 hg,fun _ k=>k⟩
 ·exact⟨eU t2 hg,fun _ k=>k⟩
set_option maxRecDepth 100000 in
theorem lifted(os:Os)(started:os.Started)(H:Type)(enc:TypeId × Value→H):
  ReturnsInHanded {} Tryz.checked os 5 .any (fun w args=>(Rows.fnExactRunTokenSpec.pre enc Tryz.prog Tryz.f5 [] false w args∧laidMetH Tryz.prog Rows.fnExactRunTokenRow.laid w)∧sizedMet enc Tryz.prog Tryz.f5 (OpenSpec.ofChange Rows.fnExactRunTokenSpec) false w args) (Rows.fnExactRunTokenSpec.post enc Tryz.prog Tryz.f5 false true false false):=by
 refine returnsInHanded_of_change_and (C:=Tryz.checked) (X:=fun w _=>laidMetH Tryz.prog Rows.fnExactRunTokenRow.laid w) (fun _ _ _ hh h=>h.of_heap hh) own started (by kernel_rfl) Tryz.func5
  (ChangeSpec.witness_shaped (enc:=enc) (C:=Tryz.checked) (os:=os) (X:=fun w _=>laidMetH Tryz.prog Rows.fnExactRunTokenRow.laid w) false (World.laidAll Tryz.prog os Rows.fnExactRunTokenRow.laid) #[.agg #[.slice none 0 0,.slice none 0 0,.slice none 0 0,.slice none 0 0,.slice none 0 0,.int .i64 0,.int .i64 0,.string ⟨#[]⟩,.slice none 0 0,.slice none 0 0,.slice none 0 0,.int .i64 0,.slice none 0 0,.slice none 0 0,.int .i64 0,.int .i64 0],.int .i64 0] 8 (World.laidAll_os _ _ _) (World.shaped_of_ZipB (by kernel_rfl) (by kernel_rfl)) (by kernel_rfl) (by kernel_rfl) (by kernel_rfl) (by rw[MakeChecks.laidMetH_plain _ _ _ (by kernel_rfl)];exact laidMet_laidAll _ (by kernel_rfl) (by kernel_rfl))) ?_
 intro W base args ds gs before hval0 hW _ _ hL _
 have hval: ∀(j:Nat) t v,Tryz.f5.params[j]? =some t→args[j]? =some v→Value.okWide Tryz.prog W .any base t v:=hval0
 have hW':=hW
 obtain⟨p,q,hA0,hV,rfl,hfz,hnd⟩:=hW
 have hA:DataW.TrodAll enc Tryz.prog W 0 (fun _=>true) true Tryz.f5.params.toList args.toList ds p:=hA0
 rw[Tryz.params5]at hA hval
 obtain⟨v0,vs0,d0,ds0,p0,q0,hargs0,rfl,rfl,h0,r0⟩:=trodAll_cons hA
 obtain⟨v1,vs1,d1,ds1,p1,q1,hargs1,rfl,rfl,h1,r1⟩:=trodAll_cons r0
 obtain⟨hnil,rfl,rfl⟩:=trodAll_nil r1
 obtain rfl:args=#[v0,v1]:=by
  cases args
  simp_all
 obtain⟨rfl,rfl⟩:=trodVars_none hV
 have k0:=h0
 have lt0: ∀x∈p0,x.block<W.heap.size:=by obtain⟨m,hm⟩:=k0;exact DataW.trod_lt m _ _ _ hm
 obtain⟨l0,o0,a0⟩:=mJ bH 9 (t:=32) (by kernel_rfl) rfl rfl (hval 0 32 v0 rfl rfl) h0
 obtain⟨m0,rfl⟩:=X19.mch_of o0
 have k1:=h1
 have lt1: ∀x∈p1,x.block<W.heap.size:=by obtain⟨m,hm⟩:=k1;exact DataW.trod_lt m _ _ _ hm
 obtain⟨l1,o1,a1⟩:=pu bH 9 (t:=3) (by kernel_rfl) rfl rfl (hval 1 3 v1 rfl rfl) h1
 obtain⟨n1,rfl⟩:=X19.int_of o1
 clear hA0 hval0
 have hcon:=(X18.law3 m0 n1).law W (kH hL) [v0,v1] (hS a0 (hS a1 (oJ _ _ _)))
 refine hcon.mono fun e W' ⟨he,bel⟩=> ?_
 subst he
 exact⟨_,rfl,_,_,_,[],_,[],hW',trodAll_mk1 (shut_bool Tryz.underlying4 _),(trodAll_cons_mk (Below.trod jJ (by kernel_rfl) (of_decide_eq_true (by kernel_rfl)) k0 bel lt0) (trodAll_cons_mk (Below.trod jJ (by kernel_rfl) (of_decide_eq_true (by kernel_rfl)) k1 bel lt1) trodAll_mk0)),rfl,bel.frame _,fun h=>by cases h⟩
theorem Iv:(Rows.fnExactRunTokenRow.wf (OpenSpec.ofChange Rows.fnExactRunTokenSpec))=true:=by kernel_rfl
theorem IS:(laidOutB Tryz.prog)=true:=by kernel_rfl
theorem Il:(mapsRowed Tryz.prog)=true:=by kernel_rfl
theorem Hd:(Tryz.f5.params.all (Tryz.prog.readableRec ·))=true:=by kernel_rfl
theorem Hy:(namedTie Tryz.prog Rows.fnExactRunTokenRow.named Rows.fnExactRunTokenSpec.vars)=true:=by kernel_rfl
theorem IO:((Rows.fnExactRunTokenRow.stops==[]))=true:=by kernel_rfl
theorem HZ:((Tryz.prog.stops==[]))=true:=by kernel_rfl
theorem II:((Rows.fnExactRunTokenRow.knobs==[]))=true:=by kernel_rfl
theorem Ie:((Tryz.prog.stopKnobs==[]))=true:=by kernel_rfl
theorem Ir:((Rows.fnExactRunTokenRow.inPlace==Tryz.prog.inPlace 5))=true:=by kernel_rfl
theorem Bq:((Rows.fnExactRunTokenRow.unfollowed==Tryz.prog.unfollowed 5))=true:=by kernel_rfl
theorem Cv:((Rows.fnExactRunTokenRow.recurses==Tryz.prog.recurses 5))=true:=by kernel_rfl
theorem Ag:((Rows.fnExactRunTokenRow.named==Tryz.prog.varsNamed 5))=true:=by kernel_rfl
theorem Aj:((Rows.fnExactRunTokenRow.maps==(Tryz.f5.params.toList++Rows.fnExactRunTokenSpec.plain.varTypes Tryz.prog).any (Tryz.prog.mapsRec ·)))=true:=by kernel_rfl
theorem Bg:((Rows.fnExactRunTokenRow.ifaces==(Tryz.f5.params.toList++Rows.fnExactRunTokenSpec.plain.varTypes Tryz.prog).any (Tryz.prog.ifacesRec ·)))=true:=by kernel_rfl
theorem Ca:((Rows.fnExactRunTokenRow.mapsOut==Tryz.prog.mapsAmong Tryz.f5.resultTypes.toList))=true:=by kernel_rfl
theorem Aq:((Rows.fnExactRunTokenRow.loops==(Tryz.f5.params.toList++Rows.fnExactRunTokenSpec.plain.varTypes Tryz.prog).any (Tryz.prog.loopsFrom ·)))=true:=by kernel_rfl
theorem Cd:((Rows.fnExactRunTokenRow.wideKeys==(Tryz.f5.params.toList++Rows.fnExactRunTokenSpec.plain.varTypes Tryz.prog++Tryz.f5.resultTypes.toList).any (Tryz.prog.wideKeysFrom ·)))=true:=by kernel_rfl
theorem Be:(Rows.fnExactRunTokenSpec.vars.all (Tryz.prog.varReadable ·))=true:=by kernel_rfl
theorem Cj:(Tryz.f5.resultTypes.all (fun t=>Tryz.prog.readableRec t&&decide (t<Tryz.prog.types.size)))=true:=by kernel_rfl
theorem Ac:((Rows.fnExactRunTokenRow.ifacesOut==Tryz.f5.resultTypes.toList.any (Tryz.prog.ifacesRec ·)))=true:=by kernel_rfl
theorem CL:((Rows.fnExactRunTokenRow.loopsOut==Tryz.f5.resultTypes.toList.any (Tryz.prog.loopsFrom ·)))=true:=by kernel_rfl
theorem BJ:((Rows.fnExactRunTokenRow.plainKeys==Tryz.prog.plainKeys))=true:=by kernel_rfl
theorem BM:(Rows.fnExactRunTokenRow.shortTexts.isNone)=true:=by kernel_rfl
theorem Ai:(Tryz.prog.stopsHeard)=true:=by kernel_rfl
theorem BL:(Tryz.prog.mayEnter)=true:=by kernel_rfl
theorem Ck:((Rows.fnExactRunTokenRow.lifted==Tryz.prog.liftsFinal))=true:=by kernel_rfl
theorem B2:((Tryz.prog.make==some Rows.fnExactRunTokenRow.make))=true:=by kernel_rfl
theorem BO:((Rows.fnExactRunTokenRow.kinds==(if Rows.fnExactRunTokenRow.domain.isEmpty then[]else Tryz.f5.params.toList.map fun t=>match Tryz.prog.underlying t with|some (.int k)=>some k|_=>none)))=true:=by kernel_rfl
theorem BP:((Rows.fnExactRunTokenRow.pinned==Rows.fnExactRunTokenRow.pinnedBy))=true:=by kernel_rfl
theorem CA:((Rows.fnExactRunTokenRow.veiled==(Tryz.f5.params.toList++Rows.fnExactRunTokenSpec.plain.varTypes Tryz.prog++Tryz.f5.resultTypes.toList).any (Tryz.prog.veiledRec ·)))=true:=by kernel_rfl
theorem Au:(Rows.fnExactRunTokenRow.veiledFits Tryz.prog Tryz.f5.params.toList (Tryz.f5.params.toList++Rows.fnExactRunTokenSpec.plain.varTypes Tryz.prog++Tryz.f5.resultTypes.toList))=true:=by kernel_rfl
theorem bI{a b:Bool}(h:a=true)(k:b=true):(a&&b)=true:=by rw[h,k];rfl
set_option maxRecDepth 100000 in
theorem qM:joinedFacts Tryz.prog 5 Tryz.f5 Rows.fnExactRunTokenSpec Rows.fnExactRunTokenRow=true:=bI (bI (bI (bI (bI (bI (bI (bI (bI (bI (bI (bI (bI (bI (bI (bI (bI (bI (bI (bI (bI (bI (bI (bI (bI (bI (bI (bI (bI (bI (bI Iv IS) Il) Hd) Hy) IO) HZ) II) Ie) Ir) Bq) Cv) Ag) Aj) Bg) Ca) Aq) Cd) Be) Cj) Ac) CL) BJ) BM) Ai) BL) Ck) B2) BO) BP) CA) Au
theorem named:Tryz.prog.funcNamed "loop.example/g00787/laws.FnExactRunToken" =some 5:=by kernel_rfl
theorem said:Rows.FnExactRunTokenSaid:=
 OpenClaim.holds_of_wide 5 Tryz.f5 rfl rfl rfl rfl rfl rfl rfl ⟨rfl,rfl,rfl,rfl,rfl⟩ rfl rfl rfl rfl rfl named Tryz.func5 qM
  (of_decide_eq_true (by kernel_rfl)) (by unfold Func.isWrapper;first|(rw[if_pos (by decide+kernel)];kernel_rfl)|(rw[if_neg (by decide+kernel)];exact⟨rfl,rfl⟩))
  (fun os started H enc _=>lifted os started H enc)
theorem proved:Rows.FnExactRunTokenCardSaid:=
 Claim7.holds_tied_plain_at .later [] [.data,.data,.data,.data,.listed,.data,.pinned,.pinned] true (true, "0ff0c9ad374d67b7daec8f09df26a15cf85ed3c952dab27119820ee645253f41") false
  said (fun _ h=>by cases h) (by kernel_rfl) (fun _ h=>by cases h) fnExactRunToken_row_tie rfl ⟨rfl,rfl⟩ (by kernel_rfl) rfl
  (fun f fn hf hfn=>by
   obtain rfl:f=5:=Option.some.inj ((show Tryz.prog.funcNamed "loop.example/g00787/laws.FnExactRunToken" =some 5 by kernel_rfl).symm.trans hf) |>.symm
   obtain rfl:fn=Tryz.f5:=(Option.some.inj (Tryz.func5.symm.trans hfn)).symm
   exact⟨by kernel_rfl,fun j t ht=>by
    rw[Tryz.params5]at ht
    have hm:t∈[32,3]:=by simpa using Array.mem_of_getElem? ht
    have hall:([32,3].all fun u=> !Tryz.prog.wantsStandIn u)=true:=by kernel_rfl
    exact(show Tryz.prog.wantsStandIn t=false by simpa using List.all_eq_true.1 hall t hm)⟩)
  (by kernel_rfl)
#print axioms proved
end Go.Proofs.YthfphedhlnoffaaGreatDoor.FnExactRunToken
