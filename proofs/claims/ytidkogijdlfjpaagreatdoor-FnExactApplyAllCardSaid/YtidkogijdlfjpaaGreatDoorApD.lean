import Derived.Test.YtidkogijdlfjpaaGreatDoorApC
/- Every prim in place; ApplyPrim, by the program; contracts. -/
set_option linter.unusedVariables false
set_option linter.unusedSimpArgs false
set_option maxRecDepth 100000
open Go Go.Abs Go.Proofs V1 H1 F1 F2 T1 T2 T3 P1 P2 P3 P4 P5 P6 P7 P8
namespace P9
theorem last1(l:List Int)(h:1≤l.length):l=l.take (l.length-1)++[l.getD (l.length-1) 0]:=by
 apply List.ext_getElem?
 intro i
 rw[List.getElem?_append]
 simp only[List.length_take,Nat.min_eq_left (show l.length-1≤l.length by omega)]
 by_cases h1:i<l.length-1
 ·rw[if_pos h1,List.getElem?_take,if_pos h1]
 ·rw[if_neg h1]
  by_cases h2:i=l.length-1
  ·subst h2
   simp[show l.length-1<l.length by omega]
  ·rw[List.getElem?_eq_none (by omega),List.getElem?_eq_none (by simp;omega)]
theorem last2(l:List Int)(h:2≤l.length):l=l.take (l.length-2)++[l.getD (l.length-2) 0,l.getD (l.length-1) 0]:=by
 have h1:=last1 l (by omega)
 have h2:=last1 (l.take (l.length-1)) (by simp;omega)
 have e1:(l.take (l.length-1)).length=l.length-1:=by simp
 rw[e1]at h2
 have e2:(l.take (l.length-1)).getD (l.length-1-1) 0=l.getD (l.length-2) 0:=by
  simp only[List.getD_eq_getElem?_getD]
  rw[List.getElem?_take,if_pos (by omega),show l.length-1-1=l.length-2 by omega]
 rw[e2,List.take_take,Nat.min_eq_left (by omega),show l.length-1-1=l.length-2 by omega]at h2
 conv=>lhs;rw[h1,h2]
 simp
theorem last3(l:List Int)(h:3≤l.length):l=l.take (l.length-3)++[l.getD (l.length-3) 0,l.getD (l.length-2) 0,l.getD (l.length-1) 0]:=by
 have h1:=last2 l (by omega)
 have h2:=last1 (l.take (l.length-2)) (by simp;omega)
 have e1:(l.take (l.length-2)).length=l.length-2:=by simp
 rw[e1]at h2
 have e2:(l.take (l.length-2)).getD (l.length-2-1) 0=l.getD (l.length-3) 0:=by
  simp only[List.getD_eq_getElem?_getD]
  rw[List.getElem?_take,if_pos (by omega),show l.length-2-1=l.length-3 by omega]
 rw[e2,List.take_take,Nat.min_eq_left (by omega),show l.length-2-1=l.length-3 by omega]at h2
 conv=>lhs;rw[h1,h2]
 simp
theorem cells_get{l:List Int}(h:cellsOK l=true)(i:Nat): -2147483648≤l.getD i 0∧l.getD i 0≤2147483647:=by
 by_cases hi:i<l.length
 ·have:=List.all_eq_true.1 h l[i] (List.getElem_mem hi)
  have e:l.getD i 0=l[i]:=by simp[hi]
  rw[e]
  exact inR_t this
 ·have e:l.getD i 0=0:=by simp[hi]
  rw[e];omega
theorem dk_of{d:Dat}(h:DataOk d):Dk d:=⟨h.he,h.ce,h.st,h.ou,h.ba,fun n hn=>inR_t (List.all_eq_true.1 h.cce n hn)⟩
theorem primU(p:Nat)(hp:P52 p)(d:Dat)(fl:Int)(h:d.st.length≤32)(hu:d.st.length<takesN p):Con Tryz.prog 36 [.obj (datC d),.int .i64 p,.int .i64 fl] [.obj (datC d),.undef,.undef] (.int .i64 (-4)):=by
 have g0:decide ((((d.st.map intR).length:Nat):Int)<((takesN p:Nat):Int))=true:=by rw[List.length_map];exact decide_eq_true (by omega)
 refine Con.evP 242 [500000] rfl T_ok mix Tryz.func36 rfl rfl rfl rfl [.tmp 6] rfl ?_
 conv=>whnf
 iterate 13 (first|(apply rq_s rfl;conv=>whnf)|(refine rows_s (sub_all (by solve|simp[lms]|fail)) ?_;conv=>whnf)|(refine fac_s (fun hf=> ?_);conv=>whnf)|(refine br_t (by assumption) ?_;conv=>whnf)|(apply lend_s;conv=>whnf)|(refine call_s (c45 p hp ..) ?_;conv=>whnf)|(refine aftp_s (by rfl) ?_;conv=>whnf)|(exact True.intro))
theorem primB(p:Nat)(hp:P52 p)(d:Dat)(fl:Int)(h:d.bk.length≤32)(hf:0≤fl∧fl≤d.bk.length)(hu: ¬d.st.length<takesN p)(hb:(d.bk.length:Int)-fl<backN p):Con Tryz.prog 36 [.obj (datC d),.int .i64 p,.int .i64 fl] [.obj (datC d),.undef,.undef] (.int .i64 (-6)):=by
 have g0:decide ((((d.st.map intR).length:Nat):Int)<((takesN p:Nat):Int))=false:=by rw[List.length_map];exact decide_eq_false (by omega)
 have wf:IntKind.i64.wrap ((((d.bk.map intR).length:Nat):Int)-fl)=(d.bk.length:Int)-fl:=by rw[List.length_map];exact wrap64 (by omega) (by omega)
 have g1:decide (IntKind.i64.wrap ((((d.bk.map intR).length:Nat):Int)-fl)<((backN p:Nat):Int))=true:=by rw[wf];exact decide_eq_true hb
 refine Con.evP 242 [500000] rfl T_ok mix Tryz.func36 rfl rfl rfl rfl [.tmp 6] rfl ?_
 conv=>whnf
 iterate 29 (first|(apply rq_s rfl;conv=>whnf)|(refine rows_s (sub_all (by solve|simp[lms]|fail)) ?_;conv=>whnf)|(refine fac_s (fun hf=> ?_);conv=>whnf)|(refine ChkS.mk (by kernel_rfl) ?_;conv=>whnf)|(refine br_t (by assumption) ?_;conv=>whnf)|(refine br_f (by assumption) ?_;conv=>whnf)|(apply lend_s;conv=>whnf)|(refine call_s (c45 p hp ..) ?_;conv=>whnf)|(refine call_s (c59 p hp ..) ?_;conv=>whnf)|(refine aftp_s (by rfl) ?_;conv=>whnf)|(exact True.intro))
theorem c36(p:Nat)(hp:P52 p)(d:Dat)(fl:Int)(h:DataOk d)(hf:0≤fl∧fl≤d.bk.length):Con Tryz.prog 36 [.obj (datC d),.int .i64 p,.int .i64 fl] [.obj (datC (primI TX p fl d).1),.undef,.undef] (.int .i64 (primI TX p fl d).2):=by
 by_cases hu:d.st.length<takesN p
 ·rw[primI,if_pos hu]
  exact primU p hp d fl h.st hu
 by_cases hb:(d.bk.length:Int)-fl<backN p
 ·rw[primI,if_neg hu,if_pos hb]
  exact primB p hp d fl h.bk hf hu hb
 rw[primI,if_neg hu,if_neg hb]
 have qb:=cells_get h.cst (d.st.length-2)
 have qc:=cells_get h.cst (d.st.length-1)
 have k:=dk_of h
 have hbk:=h.bk
 rcases all52 hp with rfl|rfl|rfl|rfl|rfl|rfl|rfl|rfl|rfl|rfl|rfl|rfl|rfl|rfl|rfl|rfl|rfl|rfl|rfl|rfl|rfl|rfl|rfl|rfl|rfl|rfl|rfl|rfl|rfl|rfl|rfl|rfl|rfl|rfl|rfl|rfl|rfl|rfl|rfl|rfl|rfl|rfl|rfl|rfl|rfl|rfl|rfl|rfl|rfl|rfl|rfl|rfl
 ·exact prim1 d _ _ _ _ fl k (last1 _ (Nat.le_of_not_lt hu)) hbk hf (Int.not_lt.1 hb) qb qc
 ·exact prim2 d _ _ _ _ fl k (last1 _ (Nat.le_of_not_lt hu)) hbk hf (Int.not_lt.1 hb) qb qc
 ·exact prim3 d _ _ _ _ fl k (last2 _ (Nat.le_of_not_lt hu)) hbk hf (Int.not_lt.1 hb) qb qc
 ·exact prim4 d _ _ _ _ fl k (last2 _ (Nat.le_of_not_lt hu)) hbk hf (Int.not_lt.1 hb) qb qc
 ·exact prim5 d _ _ _ _ fl k (last3 _ (Nat.le_of_not_lt hu)) hbk hf (Int.not_lt.1 hb) qb qc
 ·exact prim6 d _ _ _ _ fl k (last2 _ (Nat.le_of_not_lt hu)) hbk hf (Int.not_lt.1 hb) qb qc
 ·exact prim7 d _ _ _ _ fl k (last2 _ (Nat.le_of_not_lt hu)) hbk hf (Int.not_lt.1 hb) qb qc
 ·have hu:1≤d.st.length:=Nat.le_of_not_lt hu
  have hb2:0≤(d.bk.length:Int)-fl:=Int.not_lt.1 hb
  by_cases h0:d.st.getD (d.st.length-1) 0=0
  ·exact prim8z d _ _ _ _ fl k (last1 _ hu) hbk hf hb2 qb qc h0
  ·exact prim8n d _ _ _ _ fl k (last1 _ hu) hbk hf hb2 qb qc h0
 ·exact prim9 d _ _ _ _ fl k (last2 _ (Nat.le_of_not_lt hu)) hbk hf (Int.not_lt.1 hb) qb qc
 ·exact prim10 d _ _ _ _ fl k (last2 _ (Nat.le_of_not_lt hu)) hbk hf (Int.not_lt.1 hb) qb qc
 ·exact prim11 d _ _ _ _ fl k (by show d.st=List.take (d.st.length-0) d.st++[];simp) hbk hf (Int.not_lt.1 hb) qb qc
 ·have hu:1≤d.st.length:=Nat.le_of_not_lt hu
  have hb2:0≤(d.bk.length:Int)-fl:=Int.not_lt.1 hb
  by_cases h0:d.bk.length=32
  ·exact prim12z d _ _ _ _ fl k (last1 _ hu) hbk hf hb2 qb qc h0
  ·exact prim12n d _ _ _ _ fl k (last1 _ hu) hbk hf hb2 qb qc h0
 ·exact prim13 d _ _ _ _ fl k (by show d.st=List.take (d.st.length-0) d.st++[];simp) hbk hf (Int.not_lt.1 hb) qb qc
 ·exact prim14 d _ _ _ _ fl k (by show d.st=List.take (d.st.length-0) d.st++[];simp) hbk hf (Int.not_lt.1 hb) qb qc
 ·exact prim15 d _ _ _ _ fl k (last2 _ (Nat.le_of_not_lt hu)) hbk hf (Int.not_lt.1 hb) qb qc
 ·exact prim16 d _ _ _ _ fl k (last2 _ (Nat.le_of_not_lt hu)) hbk hf (Int.not_lt.1 hb) qb qc
 ·exact prim17 d _ _ _ _ fl k (last2 _ (Nat.le_of_not_lt hu)) hbk hf (Int.not_lt.1 hb) qb qc
 ·have hu:2≤d.st.length:=Nat.le_of_not_lt hu
  have hb2:0≤(d.bk.length:Int)-fl:=Int.not_lt.1 hb
  by_cases h0:d.st.getD (d.st.length-1) 0=0
  ·exact prim18z d _ _ _ _ fl k (last2 _ hu) hbk hf hb2 qb qc h0
  ·exact prim18n d _ _ _ _ fl k (last2 _ hu) hbk hf hb2 qb qc h0
 ·have hu:2≤d.st.length:=Nat.le_of_not_lt hu
  have hb2:0≤(d.bk.length:Int)-fl:=Int.not_lt.1 hb
  by_cases h0:d.st.getD (d.st.length-1) 0=0
  ·exact prim19z d _ _ _ _ fl k (last2 _ hu) hbk hf hb2 qb qc h0
  ·exact prim19n d _ _ _ _ fl k (last2 _ hu) hbk hf hb2 qb qc h0
 ·exact prim20 d _ _ _ _ fl k (last2 _ (Nat.le_of_not_lt hu)) hbk hf (Int.not_lt.1 hb) qb qc
 ·exact prim21 d _ _ _ _ fl k (last2 _ (Nat.le_of_not_lt hu)) hbk hf (Int.not_lt.1 hb) qb qc
 ·exact prim22 d _ _ _ _ fl k (last2 _ (Nat.le_of_not_lt hu)) hbk hf (Int.not_lt.1 hb) qb qc
 ·exact prim23 d _ _ _ _ fl k (last2 _ (Nat.le_of_not_lt hu)) hbk hf (Int.not_lt.1 hb) qb qc
 ·exact prim24 d _ _ _ _ fl k (last2 _ (Nat.le_of_not_lt hu)) hbk hf (Int.not_lt.1 hb) qb qc
 ·exact prim25 d _ _ _ _ fl k (last1 _ (Nat.le_of_not_lt hu)) hbk hf (Int.not_lt.1 hb) qb qc
 ·exact prim26 d _ _ _ _ fl k (last1 _ (Nat.le_of_not_lt hu)) hbk hf (Int.not_lt.1 hb) qb qc
 ·exact prim27 d _ _ _ _ fl k (last1 _ (Nat.le_of_not_lt hu)) hbk hf (Int.not_lt.1 hb) qb qc
 ·exact prim28 d _ _ _ _ fl k (last1 _ (Nat.le_of_not_lt hu)) hbk hf (Int.not_lt.1 hb) qb qc
 ·exact prim29 d _ _ _ _ fl k (last1 _ (Nat.le_of_not_lt hu)) hbk hf (Int.not_lt.1 hb) qb qc
 ·exact prim30 d _ _ _ _ fl k (last2 _ (Nat.le_of_not_lt hu)) hbk hf (Int.not_lt.1 hb) qb qc
 ·exact prim31 d _ _ _ _ fl k (last2 _ (Nat.le_of_not_lt hu)) hbk hf (Int.not_lt.1 hb) qb qc
 ·exact prim32 d _ _ _ _ fl k (last2 _ (Nat.le_of_not_lt hu)) hbk hf (Int.not_lt.1 hb) qb qc
 ·exact prim33 d _ _ _ _ fl k (last2 _ (Nat.le_of_not_lt hu)) hbk hf (Int.not_lt.1 hb) qb qc
 ·exact prim34 d _ _ _ _ fl k (last2 _ (Nat.le_of_not_lt hu)) hbk hf (Int.not_lt.1 hb) qb qc
 ·exact prim35 d _ _ _ _ fl k (last2 _ (Nat.le_of_not_lt hu)) hbk hf (Int.not_lt.1 hb) qb qc
 ·exact prim36 d _ _ _ _ fl k (last2 _ (Nat.le_of_not_lt hu)) hbk hf (Int.not_lt.1 hb) qb qc
 ·exact prim37 d _ _ _ _ fl k (last1 _ (Nat.le_of_not_lt hu)) hbk hf (Int.not_lt.1 hb) qb qc
 ·exact prim38 d _ _ _ _ fl k (last1 _ (Nat.le_of_not_lt hu)) hbk hf (Int.not_lt.1 hb) qb qc
 ·exact prim39 d _ _ _ _ fl k (last1 _ (Nat.le_of_not_lt hu)) hbk hf (Int.not_lt.1 hb) qb qc
 ·exact prim40 d _ _ _ _ fl k (last2 _ (Nat.le_of_not_lt hu)) hbk hf (Int.not_lt.1 hb) qb qc
 ·exact prim41 d _ _ _ _ fl k (last2 _ (Nat.le_of_not_lt hu)) hbk hf (Int.not_lt.1 hb) qb qc
 ·exact prim42 d _ _ _ _ fl k (by show d.st=List.take (d.st.length-0) d.st++[];simp) hbk hf (Int.not_lt.1 hb) qb qc
 ·exact prim43 d _ _ _ _ fl k (last1 _ (Nat.le_of_not_lt hu)) hbk hf (Int.not_lt.1 hb) qb qc
 ·exact prim44 d _ _ _ _ fl k (last1 _ (Nat.le_of_not_lt hu)) hbk hf (Int.not_lt.1 hb) qb qc
 ·exact prim45 d _ _ _ _ fl k (last1 _ (Nat.le_of_not_lt hu)) hbk hf (Int.not_lt.1 hb) qb qc
 ·exact prim46 d _ _ _ _ fl k (last1 _ (Nat.le_of_not_lt hu)) hbk hf (Int.not_lt.1 hb) qb qc
 ·exact prim47 d _ _ _ _ fl k (by show d.st=List.take (d.st.length-0) d.st++[];simp) hbk hf (Int.not_lt.1 hb) qb qc
 ·exact prim48 d _ _ _ _ fl k (by show d.st=List.take (d.st.length-0) d.st++[];simp) hbk hf (Int.not_lt.1 hb) qb qc
 ·exact prim49 d _ _ _ _ fl k (by show d.st=List.take (d.st.length-0) d.st++[];simp) hbk hf (Int.not_lt.1 hb) qb qc
 ·exact prim50 d _ _ _ _ fl k (by show d.st=List.take (d.st.length-0) d.st++[];simp) hbk hf (Int.not_lt.1 hb) qb qc
 ·exact prim51 d _ _ _ _ fl k (by show d.st=List.take (d.st.length-0) d.st++[];simp) hbk hf (Int.not_lt.1 hb) qb qc
 ·exact prim52 d _ _ _ _ fl k (by show d.st=List.take (d.st.length-0) d.st++[];simp) hbk hf (Int.not_lt.1 hb) qb qc
end P9

/- Changes of data, ApplyPrim, by the program; contracts. -/
open Go Go.Abs Go.Proofs V1 H1 F1 F2 T1 T2 T3 P1 P2 P3 P4 P5 P6 P7 P8 P9
namespace P10
theorem small_ok{d:Dat}(h:DataOk d):smallData d:=⟨by have:=h.st;omega,by have:=h.bk;omega,by have:=h.ce;omega,by have:=h.ou;omega⟩
end P10
