import Derived.Test.YtidkogijdlfjpaaGreatDoorApV
import Derived.Test.YtidkogijdlfjpaaGreatDoorAbs6
import Derived.Test.YtidkogijdlfjpaaGreatDoorAlG
import Derived.Test.YtidkogijdlfjpaaGreatDoorRows
import Derived.Test.YtidkogijdlfjpaaGreatDoorTie
import Derived.Test.YtidkogijdlfjpaaGreatDoorCards
import Derived.SevenTiedAt
import Derived.LaidMore
import Derived.LaidLaws
import Derived.Lay
import Derived.Test.YtidkogijdlfjpaaGreatDoorAbs8
/- Data, ints: what the arguments are. -/
set_option linter.unusedVariables false
set_option maxRecDepth 100000
set_option linter.unusedSimpArgs false
open Go Go.Abs Go.Proofs V1
namespace P22
theorem data_ofd{d:Nat}{l:List AV}(h:OfT T (d+4) 24 l): ∃x:Dat,l=datR x:=by
 obtain⟨_,_,rfl,⟨r1,rfl,h1⟩,_,_,rfl,⟨r2,rfl,h2⟩,_,_,rfl,⟨r3,rfl,h3⟩,_,_,rfl,⟨he,rfl⟩,_,_,rfl,⟨ba,rfl⟩,_,_,rfl,⟨ou,rfl⟩,rfl⟩:=h
 obtain⟨st,rfl⟩:=rows_map intR h1
 obtain⟨bk,rfl⟩:=rows_map intR h2
 obtain⟨ce,rfl⟩:=rows_map intR h3
 exact⟨⟨st,bk,ce,he,ba,ou⟩,rfl⟩
theorem data_of{l:List AV}(h:OfT T 10 24 l): ∃x:Dat,l=datR x:=data_ofd (d:=6) h
theorem ints_of{x:AV}(h:OfT T 10 22 [x]): ∃ns:List Int,x=roI ns:=by
 obtain⟨rows,h1,h2⟩:=h
 injection h1 with h1
 obtain⟨xs,rfl⟩:=rows_map intR fun row hr=>h2 row hr
 exact⟨xs,h1⟩
end P22

/- ApplyAll by the program; contracts. -/
open Go Go.Abs Go.Proofs V1 H1 F1 F2 T1 T2 T3 P1 P2 P3 P4 P5 P6 P7 P8 P9 P10 P11 P12 P13 P14 P15 P16 P17 P18 P19 P20 P21
namespace P23
def longI(rs:List Int):Bool:=decide (4096<rs.length)
theorem c66(rs:List Int):Con Tryz.prog 66 [roI rs] (undefs [roI rs]) (.bool (longI rs)):=by
 refine Con.ev 6 T_ok mix Tryz.func66 rfl rfl rfl rfl [.tmp 2] rfl ?_
 conv=>whnf
 (apply rq_s rfl;conv=>whnf);(refine sh_s ?_;((simp[longI];omega)))
def rrI(rs:List Int):List AV:=[roI rs]
def roRRI(rss:List (List Int)):AV:=.ro [.emp] (rss.map rrI)
theorem c96(rss:List (List Int)):Con Tryz.prog 96 [roRRI rss,.fn 66 []] (undefs [roRRI rss,.fn 66 []]) (.int .i64 (findI longI rss)):=by
 refine Con.evF 19 T_ok mix Tryz.func96 rfl rfl rfl rfl [.tmp 4] rfl fun⟨hx,_⟩=> ?_
 have hx:=facts_len hx
 conv=>whnf
 rotate_left
 refine LoopG.rounds (α:=Nat) T_ok mix [0,1,7,8] [] (fun i=>[(0,roRRI rss),(1,.fn 66 []),(7,.int .i64 rss.length),(8,.int .i64 i)]) (fun _=>[]) (fun i=>i≤rss.length∧ ∀j,j<i→longI (rss.getD j default)=false) (fun i=>rss.length-i) ?_ ?_
 ·conv=>whnf
  exact head_s 0 ⟨by simp,fun j hj=>by omega⟩ (by simp[roRRI]) rfl
 ·rintro i ⟨h1,h2⟩- -
  conv=>whnf
  (iterate 3 (first|(apply rq_s rfl;conv=>whnf)|(refine rq_s (by refine and_s rfl ?_;simp only[lnm];omega) ?_;conv=>whnf)|(refine br_s ?_ ?_<;>intro hb<;>(try simp only[cln]at hb)<;>conv=>whnf)));(refine row_s (by((try simp only[Int.toNat_natCast]);exact row_map rrI _ _ _ default (by first|omega|(simp;omega)))) ?_;conv=>whnf);iterate 6 (first|(apply rq_s rfl;conv=>whnf)|(apply rows_s rfl;conv=>whnf)|(refine br_s ?_ ?_<;>intro hb<;>(try simp only[cln]at hb)<;>conv=>whnf)|(apply lend_s;conv=>whnf)|(refine call_s (c66 ..) ?_;conv=>whnf))
  iterate 2 (rotate_left)
  (apply rq_s rfl;conv=>whnf)
  rotate_left
  ·refine sh_s ?_
   rw[findI_hit default (by assumption) hb h2]
  ·refine head_s (i+1) ⟨⟨by omega,fun j hj=> ?_⟩,by omega⟩ (by rw[wrap64 (by omega) (by omega)];rfl) rfl
   by_cases hji:j=i
   ·subst hji;exact hb
   ·exact h2 j (by omega)
  ·refine sh_s ?_
   rw[findI_none default fun j hj=>h2 j (by omega)]
theorem c65(rss:List (List Int)):Con Tryz.prog 65 [roRRI rss,.fn 66 []] (undefs [roRRI rss,.fn 66 []]) (.bool (rss.any longI)):=by
 refine Con.ev 9 T_ok mix Tryz.func65 rfl rfl rfl rfl [.tmp 4] rfl ?_
 conv=>whnf
 (iterate 7 ((first|apply rq_s rfl|apply rows_s rfl|refine fac_s (fun hf=> ?_)|apply lend_s|refine call_s (c96 ..) ?_);conv=>whnf));(refine sh_s ?_;((rw[←findI_any])))
theorem c38(rs:List Int):Con Tryz.prog 38 [.ro [.emp] [[roI rs]]] (undefs [.ro [.emp] [[roI rs]]]) (.bool (decide (4096<rs.length))):=by
 have e:(.bool (decide (4096<rs.length)):AV)=.bool ([rs].any longI):=by simp[longI]
 rw[e]
 show Con Tryz.prog 38 [roRRI [rs]] (undefs [roRRI [rs]]) _
 refine Con.ev 5 T_ok mix Tryz.func38 rfl rfl rfl rfl [.tmp 2] rfl ?_
 conv=>whnf
 (iterate 6 ((first|apply rq_s rfl|apply rows_s rfl|apply lend_s|refine call_s (c65 ..) ?_);conv=>whnf));(refine sh_s ?_;(rfl))
def badPrim(n:Int):Bool:= !inR n 1 52
theorem c40(n:Int):Con Tryz.prog 40 [.int .i64 n] (undefs [.int .i64 n]) (.bool (badPrim n)):=by
 refine Con.ev 6 T_ok mix Tryz.func40 rfl rfl rfl rfl [.tmp 2] rfl ?_
 conv=>whnf
 (iterate 6 ((first|apply rq_s rfl|apply lend_s|refine call_s (c33 ..) ?_);conv=>whnf));(refine sh_s ?_;(rfl))
theorem c67(rs:List (Int)):Con Tryz.prog 67 [roI rs,.fn 40 []] (undefs [roI rs,.fn 40 []]) (.int .i64 (findI badPrim rs)):=by
 refine Con.evF 19 T_ok mix Tryz.func67 rfl rfl rfl rfl [.tmp 4] rfl fun⟨hx,_⟩=> ?_
 have hx:=facts_len hx
 conv=>whnf
 rotate_left
 refine LoopG.rounds (α:=Nat) T_ok mix [0,1,7,8] [] (fun i=>[(0,roI rs),(1,.fn 40 []),(7,.int .i64 rs.length),(8,.int .i64 i)]) (fun _=>[]) (fun i=>i≤rs.length∧ ∀j,j<i→badPrim (rs.getD j default)=false) (fun i=>rs.length-i) ?_ ?_
 ·conv=>whnf
  exact head_s 0 ⟨by simp,fun j hj=>by omega⟩ (by simp[roI]) rfl
 ·rintro i ⟨h1,h2⟩- -
  conv=>whnf
  (iterate 3 (first|(apply rq_s rfl;conv=>whnf)|(refine rq_s (by refine and_s rfl ?_;simp only[lnm];omega) ?_;conv=>whnf)|(refine br_s ?_ ?_<;>intro hb<;>(try simp only[cln]at hb)<;>conv=>whnf)));(refine row_s (by((try simp only[Int.toNat_natCast]);exact row_map intR _ _ _ default (by first|omega|(simp;omega)))) ?_;conv=>whnf);iterate 5 (first|(apply rq_s rfl;conv=>whnf)|(refine br_s ?_ ?_<;>intro hb<;>(try simp only[cln]at hb)<;>conv=>whnf)|(apply lend_s;conv=>whnf)|(refine call_s (c40 ..) ?_;conv=>whnf))
  iterate 2 (rotate_left)
  (apply rq_s rfl;conv=>whnf)
  rotate_left
  ·refine sh_s ?_
   rw[findI_hit default (by assumption) hb h2]
  ·refine head_s (i+1) ⟨⟨by omega,fun j hj=> ?_⟩,by omega⟩ (by rw[wrap64 (by omega) (by omega)];rfl) rfl
   by_cases hji:j=i
   ·subst hji;exact hb
   ·exact h2 j (by omega)
  ·refine sh_s ?_
   rw[findI_none default fun j hj=>h2 j (by omega)]
theorem c39(rs:List (Int)):Con Tryz.prog 39 [roI rs,.fn 40 []] (undefs [roI rs,.fn 40 []]) (.bool (rs.any badPrim)):=by
 refine Con.ev 9 T_ok mix Tryz.func39 rfl rfl rfl rfl [.tmp 4] rfl ?_
 conv=>whnf
 (iterate 7 ((first|apply rq_s rfl|apply rows_s rfl|refine fac_s (fun hf=> ?_)|apply lend_s|refine call_s (c67 ..) ?_);conv=>whnf));(refine sh_s ?_;((rw[←findI_any])))
theorem c42(p:Nat)(hp:P52 p)(d:Dat)(h:DataOk d):Con Tryz.prog 42 [.obj (datC d),.rp [.int .i64 p] 0] [.obj (datC (primI TX p 0 d).1),.undef] (.int .i64 (primI TX p 0 d).2):=by
 have k1:=c36 p hp d 0 h ⟨by omega,by omega⟩
 generalize primI TX p 0 d=x at k1
 refine Con.evP 7 [500000] rfl T_ok mix Tryz.func42 rfl rfl rfl rfl [.tmp 3] rfl ?_
 conv=>whnf
 (iterate 5 ((first|apply rq_s rfl|refine row_s (by(rfl)) ?_|refine handp_s 36 [some 6,none,none] ?_);conv=>whnf));(focus (apply callpe_s (f:=36);(· repeat' (first|(refine sub_all ?_;simp[lms,ownI];done)|exact sub_map _ _ _ _|apply cons_eq|apply obj_eq|apply agg_eq|apply own_eq|apply ro_eq|apply rp_eq|apply fnc_eq|rfl));refine callp_s (f:=36) rfl (k1 ..) ?_;conv=>whnf));(iterate 3 ((first|apply rq_s rfl|refine fac_s (fun hf=> ?_)|refine aftp_s (by rfl) ?_);conv=>whnf));(iterate 3 (refine rows_s (by((refine sub_all ?_;simp[lms,ownI];done))) ?_;conv=>whnf));(refine aftp_s (by rfl) ?_;conv=>whnf)
 exact True.intro
 all_goals skip
theorem changed2(p:Nat)(hp:P52 p)(d:Dat)(h:DataOk d):Con Tryz.prog 34 [datV d,.fn 42 [.rp [.int .i64 p] 0]] (undefs [datV d,.fn 42 [.rp [.int .i64 p] 0]]) (.tup [datO (primF TX p 0 d).1,.int .i64 (primF TX p 0 d).2]):=by
 have k1:=c42 p hp d h
 have k2:=c41 d (small_ok h)
 unfold primF
 generalize primI TX p 0 d=x at k1
 by_cases h0:x.2=0
 ·rw[if_pos h0]
  have g0:(x.2 != 0)=false:=by rw[h0];rfl
  refine Con.ev 18 T_ok mix Tryz.func34 rfl rfl rfl rfl [.cell 4 26,.tmp 5] rfl ?_
  conv=>whnf
  (iterate 21 ((first|apply rq_s rfl|apply rows_s rfl|refine fac_s (fun hf=> ?_)|refine handp_s 42 [some 6,none] ?_|apply lend_s|refine call_s (k2 ..) ?_);conv=>whnf));(focus (apply callpe_s (f:=42);(· repeat' (first|(refine sub_all ?_;simp[lms,ownI];done)|exact sub_map _ _ _ _|apply cons_eq|apply obj_eq|apply agg_eq|apply own_eq|apply ro_eq|apply rp_eq|apply fnc_eq|rfl));refine callp_s (f:=42) rfl (k1 ..) ?_;conv=>whnf));(iterate 13 ((first|refine rq_s (by solve|simp only[lms,ownI]|fail) ?_|apply rq_s rfl|refine fac_s (fun hf=> ?_)|refine br_f (by assumption) ?_);conv=>whnf));iterate 3 (refine rows_s (by((refine sub_all ?_;simp[lms,ownI];done))) ?_;conv=>whnf)
  rotate_left
  exact sh_s (by rw[h0];rfl)
 ·rw[if_neg h0]
  have g0:(x.2 != 0)=true:=bne_iff_ne.2 h0
  refine Con.ev 18 T_ok mix Tryz.func34 rfl rfl rfl rfl [.cell 4 26,.tmp 5] rfl ?_
  conv=>whnf
  (iterate 21 ((first|apply rq_s rfl|apply rows_s rfl|refine fac_s (fun hf=> ?_)|refine handp_s 42 [some 6,none] ?_|apply lend_s|refine call_s (k2 ..) ?_);conv=>whnf));(focus (apply callpe_s (f:=42);(· repeat' (first|(refine sub_all ?_;simp[lms,ownI];done)|exact sub_map _ _ _ _|apply cons_eq|apply obj_eq|apply agg_eq|apply own_eq|apply ro_eq|apply rp_eq|apply fnc_eq|rfl));refine callp_s (f:=42) rfl (k1 ..) ?_;conv=>whnf));(iterate 30 ((first|refine rq_s (by solve|simp only[lms,ownI]|fail) ?_|apply rq_s rfl|apply rows_s rfl|refine fac_s (fun hf=> ?_)|refine br_t (by assumption) ?_|apply lend_s|refine call_s (k2 ..) ?_);conv=>whnf));iterate 3 (refine rows_s (by((refine sub_all ?_;simp[lms,ownI];done))) ?_;conv=>whnf)
  rotate_left
  exact sh_s rfl
def runF:List Int→Nat→Dat→Dat × Nat × Int
 |[],k,d=>(d,k,0)
 |p::ps,k,d=>if(primF TX p.toNat 0 d).2≠0 then(d,k,(primF TX p.toNat 0 d).2)else runF ps (k+1) (primF TX p.toNat 0 d).1
theorem run_end(k:Nat)(d:Dat):runF [] k d=(d,k,0):=rfl
theorem run_stop{p:Int}{ps:List Int}{k:Nat}{d:Dat}(h:(primF TX p.toNat 0 d).2≠0):runF (p::ps) k d=(d,k,(primF TX p.toNat 0 d).2):=by rw[runF,if_pos h]
theorem run_on{p:Int}{ps:List Int}{k:Nat}{d:Dat}(h: ¬(primF TX p.toNat 0 d).2≠0):runF (p::ps) k d=runF ps (k+1) (primF TX p.toNat 0 d).1:=by rw[runF,if_neg h]
def allF(d:Dat)(ps:List Int):Dat × Int × Int × Int:=
 if 4096<ps.length then(dat0,0,0,2)else if dataOK d=false then(dat0,0,0,1)else if ps.any badPrim then(dat0,0,0,9)else((runF ps 0 d).1,(runF ps 0 d).2.1,(runF ps 0 d).2.2,0)
def alV(x:Dat × Int × Int × Int):AV:=.tup [datO x.1,.int .i64 x.2.1,.int .i64 x.2.2.1,.int .i64 x.2.2.2]
theorem sh_dat3(a b c:Int):Sh (.tup [.agg [.emp,.emp,.emp,.int .i64 0,.int .i64 0,.str []],.int .i64 a,.int .i64 b,.int .i64 c]) (.tup [datO dat0,.int .i64 a,.int .i64 b,.int .i64 c]):=by
 refine Sh.tup ⟨Sh.agg ⟨Sh.emp_own _ _,Sh.emp_own _ _,Sh.emp_own _ _,Sh.refl _,Sh.refl _,Sh.refl _,trivial⟩,Sh.refl _,Sh.refl _,Sh.refl _,trivial⟩
structure St2 where
 d:Dat
 i:Nat
def inv(ps:List Int)(d0:Dat)(s:St2):Prop:=s.i≤ps.length∧DataOk s.d∧runF (ps.drop s.i) s.i s.d=runF ps 0 d0
theorem c16(d:Dat)(ps:List Int):Con Tryz.prog 16 [datV d,roI ps] (undefs [datV d,roI ps]) (alV (allF d ps)):=by
 by_cases h1:4096<ps.length
 ·have kl:=c38 ps
  rw[show decide (4096<ps.length)=true from decide_eq_true h1]at kl
  rw[allF,if_pos h1]
  refine Con.ev 51 T_ok mix Tryz.func16 rfl rfl rfl rfl [.cell 4 26,.tmp 5,.tmp 6,.tmp 7] rfl ?_
  conv=>whnf
  (iterate 5 ((first|refine rq_s (by solve|simp only[lms,ownI]|fail) ?_|apply rq_s rfl|apply lend_s);conv=>whnf));(refine rows_s (by((refine sub_all ?_;simp[lms,ownI];done))) ?_;conv=>whnf);iterate 13 ((first|apply rq_s rfl|apply br_t rfl|refine call_s (kl ..) ?_);conv=>whnf)
  rotate_left
  exact⟨sh_dat3 _ _ _⟩
 have kl:=c38 ps
 rw[show decide (4096<ps.length)=false from decide_eq_false h1]at kl
 by_cases h2:dataOK d=true
 rotate_left
 ·rw[Bool.not_eq_true]at h2
  have k1:=c23 d
  rw[h2]at k1
  rw[allF,if_neg h1,if_pos h2]
  refine Con.ev 51 T_ok mix Tryz.func16 rfl rfl rfl rfl [.cell 4 26,.tmp 5,.tmp 6,.tmp 7] rfl ?_
  conv=>whnf
  (iterate 5 ((first|refine rq_s (by solve|simp only[lms,ownI]|fail) ?_|apply rq_s rfl|apply lend_s);conv=>whnf));(refine rows_s (by((refine sub_all ?_;simp[lms,ownI];done))) ?_;conv=>whnf);iterate 25 ((first|apply rq_s rfl|apply rows_s rfl|apply br_t rfl|apply br_f rfl|apply lend_s|refine call_s (kl ..) ?_|refine call_s (k1 ..) ?_);conv=>whnf)
  rotate_left
  exact⟨sh_dat3 _ _ _⟩
 have k1:=c23 d
 rw[h2]at k1
 have hd:=(dataOK_iff d).1 h2
 have k3:=c39 ps
 by_cases h3:ps.any badPrim=true
 ·rw[h3]at k3
  rw[allF,if_neg h1,if_neg (by simp[h2]),if_pos h3]
  refine Con.ev 51 T_ok mix Tryz.func16 rfl rfl rfl rfl [.cell 4 26,.tmp 5,.tmp 6,.tmp 7] rfl ?_
  conv=>whnf
  (iterate 5 ((first|refine rq_s (by solve|simp only[lms,ownI]|fail) ?_|apply rq_s rfl|apply lend_s);conv=>whnf));(refine rows_s (by((refine sub_all ?_;simp[lms,ownI];done))) ?_;conv=>whnf);iterate 31 ((first|apply rq_s rfl|apply rows_s rfl|apply br_t rfl|apply br_f rfl|apply lend_s|refine call_s (kl ..) ?_|refine call_s (k1 ..) ?_|refine call_s (k3 ..) ?_);conv=>whnf)
  rotate_left
  exact⟨sh_dat3 _ _ _⟩
 rw[allF,if_neg h1,if_neg (by simp[h2]),if_neg h3]
 rw[Bool.not_eq_true]at h3
 rw[h3]at k3
 have hps: ∀i,i<ps.length→P52 (ps.getD i 0).toNat∧((ps.getD i 0).toNat:Int)=ps.getD i 0:=by
  intro i hi
  have:=List.any_eq_false.1 h3 (ps.getD i 0) (by simp[hi])
  simp only[badPrim,Bool.not_eq_true,Bool.not_eq_false']at this
  have:=inR_t this
  unfold P52
  omega
 have k4:=c41 d (small_ok hd)
 refine Con.ev 51 T_ok mix Tryz.func16 rfl rfl rfl rfl [.cell 4 26,.tmp 5,.tmp 6,.tmp 7] rfl ?_
 conv=>whnf
 (iterate 5 ((first|refine rq_s (by solve|simp only[lms,ownI]|fail) ?_|apply rq_s rfl|apply lend_s);conv=>whnf));(refine rows_s (by((refine sub_all ?_;simp[lms,ownI];done))) ?_;conv=>whnf);iterate 37 ((first|apply rq_s rfl|apply rows_s rfl|refine fac_s (fun hf=> ?_)|apply br_f rfl|apply lend_s|refine call_s (kl ..) ?_|refine call_s (k1 ..) ?_|refine call_s (k3 ..) ?_|refine call_s (k4 ..) ?_);conv=>whnf)
 rotate_left
 refine LoopG.auto (α:=St2) T_ok mix [1,2,4,28,29,30] (fun s=>[(1,roI ps),(2,.ptr 1 0 0),(4,.ptr 5 0 0),(28,roI ps),(29,.int .i64 (ps.map intR).length),(30,.int .i64 s.i)]) (fun s=>[(1,.live ⟨false,0,[roI d.st,roI d.bk,roI d.ce,.int .i64 d.he,.int .i64 d.ba,.str d.ou],[[.ref 2 0 s.d.st.length,.ref 3 0 s.d.bk.length,.ref 4 0 s.d.ce.length,.int .i64 s.d.he,.int .i64 s.d.ba,.str s.d.ou]]⟩),(2,.live ⟨true,0,zI,s.d.st.map intR⟩),(3,.live ⟨true,0,zI,s.d.bk.map intR⟩),(4,.live ⟨true,0,zI,s.d.ce.map intR⟩),(5,.live ⟨false,0,[.emp,.emp,.emp,.int .i64 0,.int .i64 0,.str []],[[.emp,.emp,.emp,.int .i64 0,.int .i64 0,.str []]]⟩)]) (inv ps d) (fun s=>ps.length-s.i) ?_ ?_
 ·conv=>whnf
  (apply ChkS.mk (by kernel_rfl);conv=>whnf)
  rotate_left
  exact head_s ⟨d,0⟩ ⟨by simp,hd,rfl⟩ (by simp[roI,zI]) (by simp[roI,zI])
 ·rintro ⟨x,i⟩ ⟨hi,hx,hr⟩- -
  simp only at hi hx hr
  by_cases hlt:i<ps.length
  ·have gd:decide ((i:Int)<(((ps.map intR).length:Nat):Int))=true:=by rw[List.length_map];exact decide_eq_true (by omega)
   obtain⟨hp,ep⟩:=hps i hlt
   have kc:=changed2 (ps.getD i 0).toNat hp x hx
   rw[ep]at kc
   have hok:=prim_ok (txt:=TX) (p:=(ps.getD i 0).toNat) (fl:=0) hx
   have hdr:ps.drop i=ps.getD i 0::ps.drop (i+1):=by rw[List.drop_eq_getElem_cons hlt];simp[hlt]
   rw[hdr]at hr
   by_cases h0:(primF TX (ps.getD i 0).toNat 0 x).2=0
   ·rw[run_on (fun k=>k h0)]at hr
    have g0:((primF TX (ps.getD i 0).toNat 0 x).2 != 0)=false:=by rw[h0];rfl
    generalize primF TX (ps.getD i 0).toNat 0 x=y at kc hok hr g0
    conv=>whnf
    (iterate 3 ((first|apply rq_s rfl|refine rq_s (by refine and_s rfl ?_;simp only[lnm];omega) ?_|refine br_t (by assumption) ?_);conv=>whnf));(refine row_s (by((try simp only[Int.toNat_natCast]);exact row_map intR _ _ _ 0 (by first|omega|(simp;omega)))) ?_;conv=>whnf);(iterate 12 ((first|refine rq_s (by solve|simp only[lms,ownI]|fail) ?_|apply rq_s rfl|refine handp_s 34 [none,none] ?_);conv=>whnf));(focus (apply callpe_s (f:=34);(· repeat' (first|(refine sub_all ?_;simp[lms,ownI];done)|exact sub_map _ _ _ _|apply cons_eq|apply obj_eq|apply agg_eq|apply own_eq|apply ro_eq|apply rp_eq|apply fnc_eq|rfl));refine callp_s (f:=34) rfl (kc ..) ?_;conv=>whnf));iterate 3 ((first|refine fac_s (fun hf=> ?_)|refine ChkS.mk (by kernel_rfl) ?_|refine br_f (by assumption) ?_);conv=>whnf)
    rotate_left
    refine head_s ⟨y.1,i+1⟩ ⟨⟨by simp only;omega,hok,hr⟩,by simp only;omega⟩ (by rw[wrap64 (by simp only;omega) (by simp only;omega)];rfl) ?_
    simp only[List.length_map]
    rfl
   ·rw[run_stop h0]at hr
    have g0:((primF TX (ps.getD i 0).toNat 0 x).2 != 0)=true:=bne_iff_ne.2 h0
    generalize primF TX (ps.getD i 0).toNat 0 x=y at kc hok hr g0
    conv=>whnf
    (iterate 3 ((first|apply rq_s rfl|refine rq_s (by refine and_s rfl ?_;simp only[lnm];omega) ?_|refine br_t (by assumption) ?_);conv=>whnf));(refine row_s (by((try simp only[Int.toNat_natCast]);exact row_map intR _ _ _ 0 (by first|omega|(simp;omega)))) ?_;conv=>whnf);(iterate 12 ((first|refine rq_s (by solve|simp only[lms,ownI]|fail) ?_|apply rq_s rfl|refine handp_s 34 [none,none] ?_);conv=>whnf));(focus (apply callpe_s (f:=34);(· repeat' (first|(refine sub_all ?_;simp[lms,ownI];done)|exact sub_map _ _ _ _|apply cons_eq|apply obj_eq|apply agg_eq|apply own_eq|apply ro_eq|apply rp_eq|apply fnc_eq|rfl));refine callp_s (f:=34) rfl (kc ..) ?_;conv=>whnf));(iterate 15 ((first|refine rq_s (by solve|simp only[lms,ownI]|fail) ?_|apply rq_s rfl|refine fac_s (fun hf=> ?_)|refine br_t (by assumption) ?_);conv=>whnf));iterate 3 (refine rows_s (by((refine sub_all ?_;simp[lms,ownI];done))) ?_;conv=>whnf)
    rotate_left
    rw[←hr]
    exact sh_s rfl
  ·have gd:decide ((i:Int)<(((ps.map intR).length:Nat):Int))=false:=by rw[List.length_map];exact decide_eq_false (by omega)
   conv=>whnf
   (iterate 14 ((first|refine rq_s (by solve|simp only[lms,ownI]|fail) ?_|apply rq_s rfl|refine br_f (by assumption) ?_);conv=>whnf));iterate 3 (refine rows_s (by((refine sub_all ?_;simp[lms,ownI];done))) ?_;conv=>whnf)
   rotate_left
   obtain rfl:i=ps.length:=by omega
   rw[List.drop_length,run_end]at hr
   rw[←hr]
   exact sh_s (by rw[List.length_map];rfl)
end P23

/- ApplyAll: the reference's contract, and the law. -/
open Go Go.Abs Go.Proofs V1 H1 F1 F2 T1 T2 T3 P1 P2 P3 P4 P5 P6 P7 P8 P9 P10 P11 P12 P13 P14 P15 P16 P17 P18 P19 P20 P21 P23
namespace P24
theorem c14(d:Dat)(ps:List Int):Con Tryz.prog 14 [datV d,roI ps] (undefs [datV d,roI ps]) (alV (allF d ps)):=by
 by_cases h1:4096<ps.length
 ·have g1:decide ((((ps.map intR).length:Nat):Int)>4096)=true:=by rw[List.length_map];exact decide_eq_true (by omega)
  rw[allF,if_pos h1]
  refine Con.ev 59 T_ok mix Tryz.func14 rfl rfl rfl rfl [.cell 4 26,.tmp 5,.tmp 6,.tmp 7] rfl ?_
  conv=>whnf
  iterate 13 ((first|apply rq_s rfl|refine br_t (by assumption) ?_);conv=>whnf)
  rotate_left
  exact⟨sh_dat3 _ _ _⟩
 have g1:decide ((((ps.map intR).length:Nat):Int)>4096)=false:=by rw[List.length_map];exact decide_eq_false (by omega)
 by_cases h2:dataOK d=true
 rotate_left
 ·rw[Bool.not_eq_true]at h2
  have k1:=c28 d
  rw[h2]at k1
  rw[allF,if_neg h1,if_pos h2]
  refine Con.ev 59 T_ok mix Tryz.func14 rfl rfl rfl rfl [.cell 4 26,.tmp 5,.tmp 6,.tmp 7] rfl ?_
  conv=>whnf
  iterate 25 ((first|apply rq_s rfl|apply rows_s rfl|apply br_t rfl|refine br_f (by assumption) ?_|apply lend_s|refine call_s (k1 ..) ?_);conv=>whnf)
  rotate_left
  exact⟨sh_dat3 _ _ _⟩
 have k1:=c28 d
 rw[h2]at k1
 have hd:=(dataOK_iff d).1 h2
 rw[allF,if_neg h1,if_neg (by simp[h2])]
 refine Con.ev 59 T_ok mix Tryz.func14 rfl rfl rfl rfl [.cell 4 26,.tmp 5,.tmp 6,.tmp 7] rfl ?_
 conv=>whnf
 iterate 14 ((first|apply rq_s rfl|apply rows_s rfl|apply br_f rfl|refine br_f (by assumption) ?_|apply lend_s|refine call_s (k1 ..) ?_);conv=>whnf)
 rotate_left
 refine LoopG.auto (α:=Nat) T_ok mix [1,2,4,8] (fun i=>[(1,roI ps),(2,.ptr 1 0 0),(4,.ptr 2 0 0),(8,.int .i64 i)]) (fun i=>[(1,.live ⟨false,0,[roI d.st,roI d.bk,roI d.ce,.int .i64 d.he,.int .i64 d.ba,.str d.ou],[[roI d.st,roI d.bk,roI d.ce,.int .i64 d.he,.int .i64 d.ba,.str d.ou]]⟩),(2,.live ⟨false,0,[.emp,.emp,.emp,.int .i64 0,.int .i64 0,.str []],[[.emp,.emp,.emp,.int .i64 0,.int .i64 0,.str []]]⟩)]) (fun i=>i≤ps.length∧ ∀j,j<i→badPrim (ps.getD j 0)=false) (fun i=>ps.length-i) ?_ ?_
 ·conv=>whnf
  (apply ChkS.mk (by kernel_rfl);conv=>whnf)
  rotate_left
  exact head_s 0 ⟨by simp,fun j hj=>by omega⟩ (by simp[roI,zI]) (by simp[roI,zI])
 ·rintro i ⟨hi,hj⟩- -
  by_cases hlt:i<ps.length
  ·have gd:decide ((i:Int)<(((ps.map intR).length:Nat):Int))=true:=by rw[List.length_map];exact decide_eq_true (by omega)
   by_cases h3:badPrim (ps.getD i 0)=true
   ·have g3:(!inR (ps.getD i 0) 1 52)=true:=h3
    have h4:ps.any badPrim=true:=List.any_eq_true.2 ⟨ps.getD i 0,by simp[hlt],h3⟩
    rw[if_pos h4]
    conv=>whnf
    (iterate 3 ((first|apply rq_s rfl|refine rq_s (by refine and_s rfl ?_;simp only[lnm];omega) ?_|refine br_t (by assumption) ?_);conv=>whnf));(refine row_s (by((try simp only[Int.toNat_natCast]);exact row_map intR _ _ _ 0 (by first|omega|(simp;omega)))) ?_;conv=>whnf);iterate 15 ((first|apply rq_s rfl|refine br_t (by assumption) ?_|apply lend_s|refine call_s (c29 ..) ?_);conv=>whnf)
    rotate_left
    exact⟨sh_dat3 _ _ _⟩
   ·rw[Bool.not_eq_true]at h3
    have g3:(!inR (ps.getD i 0) 1 52)=false:=h3
    conv=>whnf
    (iterate 3 ((first|apply rq_s rfl|refine rq_s (by refine and_s rfl ?_;simp only[lnm];omega) ?_|refine br_t (by assumption) ?_);conv=>whnf));(refine row_s (by((try simp only[Int.toNat_natCast]);exact row_map intR _ _ _ 0 (by first|omega|(simp;omega)))) ?_;conv=>whnf);iterate 5 ((first|apply rq_s rfl|refine ChkS.mk (by kernel_rfl) ?_|refine br_f (by assumption) ?_|apply lend_s|refine call_s (c29 ..) ?_);conv=>whnf)
    rotate_left
    refine head_s (i+1) ⟨⟨by omega,fun j h=> ?_⟩,by omega⟩ (by rw[wrap64 (by omega) (by omega)];rfl) rfl
    by_cases hji:j=i
    ·subst hji;exact h3
    ·exact hj j (by omega)
  ·have gd:decide ((i:Int)<(((ps.map intR).length:Nat):Int))=false:=by rw[List.length_map];exact decide_eq_false (by omega)
   obtain rfl:i=ps.length:=by omega
   have h4:ps.any badPrim=false:=List.any_eq_false.2 fun p hp=>by
    obtain⟨j,hj2,rfl⟩:=List.mem_iff_getElem.1 hp
    have:=hj j hj2
    simpa[hj2]using this
   rw[h4,if_neg (by simp)]
   have hps: ∀i,i<ps.length→P52 (ps.getD i 0).toNat∧((ps.getD i 0).toNat:Int)=ps.getD i 0:=by
    intro i hi
    have:=hj i hi
    simp only[badPrim,Bool.not_eq_false']at this
    have:=inR_t this
    unfold P52
    omega
   conv=>whnf
   (focus (apply br_f (by(simp;done));conv=>whnf))
   rotate_left
   refine LoopG.auto (α:=St2) T_ok mix [1,2,4,9] (fun s=>[(1,roI ps),(2,.ptr 1 0 0),(4,.ptr 2 0 0),(9,.int .i64 s.i)]) (fun s=>[(1,.live ⟨false,0,[roI d.st,roI d.bk,roI d.ce,.int .i64 d.he,.int .i64 d.ba,.str d.ou],[[roI s.d.st,roI s.d.bk,roI s.d.ce,.int .i64 s.d.he,.int .i64 s.d.ba,.str s.d.ou]]⟩),(2,.live ⟨false,0,[.emp,.emp,.emp,.int .i64 0,.int .i64 0,.str []],[[.emp,.emp,.emp,.int .i64 0,.int .i64 0,.str []]]⟩)]) (inv ps d) (fun s=>ps.length-s.i) ?_ ?_
   ·conv=>whnf
    (apply ChkS.mk (by kernel_rfl);conv=>whnf)
    rotate_left
    exact head_s ⟨d,0⟩ ⟨by simp,hd,rfl⟩ rfl rfl
   ·rintro ⟨x,i⟩ ⟨hi,hx,hr⟩- -
    simp only at hi hx hr
    by_cases hlt:i<ps.length
    ·have gd:decide ((i:Int)<(((ps.map intR).length:Nat):Int))=true:=by rw[List.length_map];exact decide_eq_true (by omega)
     obtain⟨hp,ep⟩:=hps i hlt
     have kc:=c31 (ps.getD i 0).toNat hp x 0 hx ⟨by omega,by omega⟩
     rw[ep]at kc
     have kx:=c32 x (small_ok hx)
     have hok:=prim_ok (txt:=TX) (p:=(ps.getD i 0).toNat) (fl:=0) hx
     have hdr:ps.drop i=ps.getD i 0::ps.drop (i+1):=by rw[List.drop_eq_getElem_cons hlt];simp[hlt]
     rw[hdr]at hr
     by_cases h0:(primF TX (ps.getD i 0).toNat 0 x).2=0
     ·rw[run_on (fun k=>k h0)]at hr
      have g0:((primF TX (ps.getD i 0).toNat 0 x).2 != 0)=false:=by rw[h0];rfl
      generalize primF TX (ps.getD i 0).toNat 0 x=y at kc hok hr g0
      conv=>whnf
      (iterate 8 ((first|apply rq_s rfl|refine rq_s (by refine and_s rfl ?_;simp only[lnm];omega) ?_|refine ChkS.mk (by kernel_rfl) ?_|refine br_t (by assumption) ?_);conv=>whnf));(refine row_s (by((try simp only[Int.toNat_natCast]);exact row_map intR _ _ _ 0 (by first|omega|(simp;omega)))) ?_;conv=>whnf);iterate 23 ((first|apply rq_s rfl|apply rows_s rfl|refine fac_s (fun hf=> ?_)|refine ChkS.mk (by kernel_rfl) ?_|refine br_f (by assumption) ?_|refine call_s (kc ..) ?_);conv=>whnf)
      rotate_left
      refine head_s ⟨y.1,i+1⟩ ⟨⟨by simp only;omega,hok,hr⟩,by simp only;omega⟩ (by rw[wrap64 (by simp only;omega) (by simp only;omega)];rfl) ?_
      rfl
     ·rw[run_stop h0]at hr
      have g0:((primF TX (ps.getD i 0).toNat 0 x).2 != 0)=true:=bne_iff_ne.2 h0
      generalize primF TX (ps.getD i 0).toNat 0 x=y at kc hok hr g0
      conv=>whnf
      (iterate 8 ((first|apply rq_s rfl|refine rq_s (by refine and_s rfl ?_;simp only[lnm];omega) ?_|refine ChkS.mk (by kernel_rfl) ?_|refine br_t (by assumption) ?_);conv=>whnf));(refine row_s (by((try simp only[Int.toNat_natCast]);exact row_map intR _ _ _ 0 (by first|omega|(simp;omega)))) ?_;conv=>whnf);(iterate 52 ((first|refine rq_s (by solve|simp only[lms,mkData,ownI]|fail) ?_|apply rq_s rfl|apply rows_s rfl|refine fac_s (fun hf=> ?_)|refine ChkS.mk (by kernel_rfl) ?_|refine br_t (by assumption) ?_|apply lend_s|refine call_s (kc ..) ?_|refine call_s (kx ..) ?_);conv=>whnf));iterate 3 (refine rows_s (by((refine sub_all ?_;simp[lms,mkData,ownI];done))) ?_;conv=>whnf)
      rotate_left
      rw[←hr]
      exact sh_s rfl
    ·have gd:decide ((i:Int)<(((ps.map intR).length:Nat):Int))=false:=by rw[List.length_map];exact decide_eq_false (by omega)
     have kx:=c32 x (small_ok hx)
     conv=>whnf
     (iterate 31 ((first|refine rq_s (by solve|simp only[lms,mkData,ownI]|fail) ?_|apply rq_s rfl|apply rows_s rfl|refine fac_s (fun hf=> ?_)|refine br_f (by assumption) ?_|apply lend_s|refine call_s (kx ..) ?_);conv=>whnf));iterate 3 (refine rows_s (by((refine sub_all ?_;simp[lms,mkData,ownI];done))) ?_;conv=>whnf)
     rotate_left
     obtain rfl:i=ps.length:=by omega
     rw[List.drop_length,run_end]at hr
     rw[←hr]
     exact sh_s (by rw[List.length_map];rfl)
theorem run_ok: ∀(ps:List Int)(k:Nat)(d:Dat),DataOk d→DataOk (runF ps k d).1
 |[],_,_,h=>h
 |p::ps,k,d,h=>by
  by_cases h0:(primF TX p.toNat 0 d).2=0
  ·rw[run_on (fun k=>k h0)];exact run_ok ps _ _ (prim_ok h)
  ·rw[run_stop h0];exact h
theorem small_all{d:Dat}{ps:List Int}:smallData (allF d ps).1:=by
 have z:smallData dat0:=by simp[smallData,dat0]
 unfold allF
 by_cases h0:4096<ps.length
 ·rw[if_pos h0];exact z
 rw[if_neg h0]
 by_cases h1:dataOK d=false
 ·rw[if_pos h1];exact z
 rw[if_neg h1]
 by_cases h2:ps.any badPrim=true
 ·rw[if_pos h2];exact z
 rw[if_neg h2]
 exact small_ok (run_ok ps 0 d ((dataOK_iff d).1 (by simpa using h1)))
set_option maxHeartbeats 40000000 in
theorem law(d:Dat)(ps:List Int):Con Tryz.prog 4 [datV d,roI ps] (undefs [datV d,roI ps]) (.bool true):=by
 have k1:=c16 d ps
 have k2:=c14 d ps
 have k3:=small_all (d:=d) (ps:=ps)
 generalize allF d ps=r at k1 k2 k3
 obtain⟨d',n,t,e⟩:=r
 dsimp only[alV]at k1 k2 k3
 have n2:=lenData_le k3
 have eD: ∀a:Dat,Con Tryz.prog 11 [datV a,datV a] (undefs [datV a,datV a]) (.bool true):=fun a=>by simpa using c11 a a
 have eI: ∀a:List Int,Con Tryz.prog 17 [roI a,roI a] (undefs [roI a,roI a]) (.bool true):=fun a=>by simpa using c17 a a
 have q2:=c13 (mkData d' 1) 1 (by omega) (by rw[lenData_mk];omega)
 rw[heldData_mk d' 1 (by omega)]at q2
 refine Con.evFK [(0,[1,2,4]),(1,[1,2,4,25]),(2,[1,2,4]),(3,[1,2,4,5]),(4,[1,2,4,5]),(5,[1,2,4,30]),(6,[1,2,4]),(7,[1,2,4,6,7,8,9]),(8,[1,2,4,6,7,8,9,10]),(9,[1,2,4,6,7,8,9,10,11]),(10,[1,2,4,6,7,8,9,10,11,12,13,14,15]),(11,[1,2,4,6,7,8,9,10,11,12,13,14,15,71]),(12,[1,2,4,6,7,8,9,10,11,12,13,14,15]),(13,[1,2,4,6,7,8,9,10,11,12,13,14,15,76]),(14,[1,2,4,6,7,8,9,10,11,12,13,14,15]),(15,[1,2,4,6,7,8,9,10,11,12,13,14,15,81]),(16,[1,2,4,6,7,8,9,10,11,12,13,14,15]),(17,[1,2,4,6,7,8,9,10,11,12,13,14,15,16]),(18,[1,2,4,6,7,8,9,11,12,13,14,15,16]),(19,[1,2,4,6,7,8,9,12,13,14,15,16]),(20,[1,2,4,6,7,8,9,12,110]),(21,[1,2,4,6,7,8,9,12]),(22,[1,2,4,6,7,8,9,12,17]),(23,[1,2,4,6,7,8,9,12,17]),(24,[1,2,4,6,7,8,9,12,17,18]),(25,[1,2,4,6,7,8,9,12,17,18]),(26,[1,2,4,6,7,8,9,12,17,18,118]),(27,[1,2,4,6,7,8,9,12,17,18]),(28,[1,2,4,6,7,8,9,12,17,18,121]),(29,[1,2,4,6,7,8,9,12,17,18]),(30,[4,6,7,8,9,12,17,18,19,20,21,22]),(31,[4,12,17,18,150]),(32,[4,12,17,18]),(33,[4,12,17,18]),(34,[4,17,18]),(35,[4,17,18,155]),(36,[4,17,18]),(37,[4,158]),(38,[4]),(39,[4])] 159 T_ok mix Tryz.func4 rfl rfl rfl rfl [.tmp 4] rfl fun⟨hy,hz,_⟩=> ?_
 have y1:=facts_len fun j=>hy (j+1) (roI d.st) (by simp[datR])
 have y2:=facts_len fun j=>hy (j+1) (roI d.bk) (by simp[datR])
 have y3:=facts_len fun j=>hy (j+1) (roI d.ce) (by simp[datR])
 have y4:=facts_str fun j=>hy (j+1) (.str d.ou) (by simp[datR])
 clear hy hz
 conv=>whnf
 (iterate 3 (first|(apply rq_s rfl;conv=>whnf)|(refine br_s ?_ ?_<;>intro hb<;>(try simp only[cln]at hb)<;>conv=>whnf)));(refine sh_s ?_;(rfl));(iterate 15 (first|(apply rq_s rfl;conv=>whnf)|(apply rows_s rfl;conv=>whnf)|(refine fac_s (fun hf=> ?_);conv=>whnf)|(refine br_s ?_ ?_<;>intro hb<;>(try simp only[cln]at hb)<;>conv=>whnf)|(apply lend_s;conv=>whnf)|(refine call_s (c7 d ..) ?_;conv=>whnf)));(refine sh_s ?_;(rfl));iterate 10 ((first|apply rq_s rfl|apply rows_s rfl|apply lend_s);conv=>whnf)
 rotate_left
 have a3:0≤szData d 1048576:=by omega
 obtain⟨_,s2⟩:=smallData_of (by omega) (by omega) y1 y2 y3 y4 a3
 have n4:=lenData_le s2
 (iterate 17 ((first|refine rq_s (by solve|simp only[lms,mkData,ownI]|fail) ?_|apply rq_s rfl|apply rows_s rfl|apply lend_s|refine call_s (c9 _ s2) ?_|refine call_s (c15 ps (by omega) ..) ?_);conv=>whnf));(iterate 4 (refine rows_s (by((refine sub_all ?_;simp[lms,mkData,ownI];done))) ?_;conv=>whnf));(iterate 45 ((first|refine rq_s (by solve|simp only[lms,mkData,ownI]|fail) ?_|apply rq_s rfl|apply rows_s rfl|refine fac_s (fun hf=> ?_)|apply lend_s|refine call_s (c9 _ s2) ?_|refine call_s (c15 ps (by omega) ..) ?_|refine call_s (k2 ..) ?_);conv=>whnf));(iterate 4 (refine rows_s (by((refine sub_all ?_;simp[lms,mkData,ownI];done))) ?_;conv=>whnf));(iterate 23 ((first|refine rq_s (by solve|simp only[lms,mkData,ownI]|fail) ?_|apply rq_s rfl|refine fac_s (fun hf=> ?_)|apply lend_s|refine call_s (k1 ..) ?_);conv=>whnf));(iterate 6 (refine rows_s (by((refine sub_all ?_;simp[lms,mkData,ownI];done))) ?_;conv=>whnf));(iterate 43 (first|(refine rq_s (by solve|simp only[lms,mkData,ownI]|fail) ?_;conv=>whnf)|(apply rq_s rfl;conv=>whnf)|(apply rows_s rfl;conv=>whnf)|(refine ChkS.mk (by kernel_rfl) ?_;conv=>whnf)|(apply br_f rfl;conv=>whnf)|(focus (apply br_f (by solve|simp|fail);conv=>whnf))|(refine call_s (c9 _ s2) ?_;conv=>whnf)|(refine call_s (eD d' ..) ?_;conv=>whnf)));(iterate 6 (refine rows_s (by((refine sub_all ?_;simp[lms,mkData,ownI];done))) ?_;conv=>whnf));(iterate 19 ((first|refine rq_s (by solve|simp only[lms,mkData,ownI]|fail) ?_|apply rq_s rfl|apply rows_s rfl|refine fac_s (fun hf=> ?_)|refine ChkS.mk (by kernel_rfl) ?_|apply br_f rfl|apply lend_s|refine call_s (c15 ps (by omega) ..) ?_|refine call_s (eD d ..) ?_);conv=>whnf));(iterate 2 (refine rows_s (by((refine sub_all ?_;simp[lms,mkData,ownI];done))) ?_;conv=>whnf));(iterate 55 ((first|refine rq_s (by solve|simp only[lms,mkData,ownI]|fail) ?_|apply rq_s rfl|apply rows_s rfl|refine fac_s (fun hf=> ?_)|apply br_f rfl|refine handA_s 12 ?_|refine handAc_s (f:=12) (c12 d 1 (by omega) (by omega) ..) (by solve|simp[szOk,List.length_map,mkS_len,setRow_len,mkData,ownI]|fail) ?_|refine hand_s 18 0 ?_|refine handc_s (f:=18) (j:=0) (c18 _ _ (by omega) (by omega)) (by solve|simp[lms,mkData,ownI]|fail) (by rfl) (by rfl) ?_|apply lend_s|refine call_s (eI ps ..) ?_);conv=>whnf));(iterate 6 (refine rows_s (by((refine sub_all ?_;simp[lms,mkData,ownI];done))) ?_;conv=>whnf));(iterate 43 (first|(refine rq_s (by solve|simp only[lms,mkData,ownI]|fail) ?_;conv=>whnf)|(apply rq_s rfl;conv=>whnf)|(apply rows_s rfl;conv=>whnf)|(refine fac_s (fun hf=> ?_);conv=>whnf)|(apply br_f rfl;conv=>whnf)|(focus (apply br_f (by solve|simp|fail);conv=>whnf))|(refine handA_s 12 ?_;conv=>whnf)|(refine handAc_s (f:=12) (c12 d' 1 (by omega) (by omega) ..) (by solve|simp[szOk,List.length_map,mkS_len,setRow_len,mkData,ownI]|fail) ?_;conv=>whnf)|(apply lend_s;conv=>whnf)|(refine call_s (eD d' ..) ?_;conv=>whnf)));(iterate 3 (refine rows_s (by((refine sub_all ?_;simp[lms,mkData,ownI];done))) ?_;conv=>whnf));(iterate 31 (first|(refine rq_s (by solve|simp only[lms,mkData,ownI]|fail) ?_;conv=>whnf)|(apply rq_s rfl;conv=>whnf)|(apply rows_s rfl;conv=>whnf)|(refine fac_s (fun hf=> ?_);conv=>whnf)|(apply br_f rfl;conv=>whnf)|(focus (apply br_f (by solve|simp|fail);conv=>whnf))|(apply lend_s;conv=>whnf)|(refine call_s (c9 _ s2) ?_;conv=>whnf)|(refine call_s (c15 ps (by omega) ..) ?_;conv=>whnf)|(refine call_s (q2 ..) ?_;conv=>whnf)));(iterate 4 (refine rows_s (by((refine sub_all ?_;simp[lms,mkData,ownI];done))) ?_;conv=>whnf));(iterate 30 ((first|refine rq_s (by solve|simp only[lms,mkData,ownI]|fail) ?_|apply rq_s rfl|refine fac_s (fun hf=> ?_)|apply lend_s|refine call_s (k1 ..) ?_);conv=>whnf));(iterate 6 (refine rows_s (by((refine sub_all ?_;simp[lms,mkData,ownI];done))) ?_;conv=>whnf));(iterate 22 (first|(refine rq_s (by solve|simp only[lms,mkData,ownI]|fail) ?_;conv=>whnf)|(apply rq_s rfl;conv=>whnf)|(apply br_f rfl;conv=>whnf)|(focus (apply br_f (by solve|simp|fail);conv=>whnf))|(apply lend_s;conv=>whnf)|(refine call_s (eD d' ..) ?_;conv=>whnf)));(iterate 3 (refine rows_s (by((refine sub_all ?_;simp[lms,mkData,ownI];done))) ?_;conv=>whnf));(iterate 5 (first|(apply rq_s rfl;conv=>whnf)|(refine fac_s (fun hf=> ?_);conv=>whnf)|(apply br_f rfl;conv=>whnf)|(focus (apply br_f (by solve|simp|fail);conv=>whnf))|(refine call_s (q2 ..) ?_;conv=>whnf)));(refine sh_s ?_;(first|rfl|(exfalso;omega)))
end P24

/- FnExactApplyAll: the law returns true at every input, and its arguments read behind the call as they did. -/
namespace Go.Proofs.YtidkogijdlfjpaaGreatDoor.FnExactApplyAll
open Go.ChangeShapes Go.WideShapes Go.ChangeAt Go.RowKit Go.Joins
open Go.Abs V1 P24 P22
theorem own:ownKnob Tryz.prog.godebug=none:=by kernel_rfl
theorem laidOut:laidOutB Tryz.prog=true:=by kernel_rfl
theorem tabs_met{W:World}(h:laidMetH Tryz.prog Rows.fnExactApplyAllRow.laid W):Tabs Tryz.prog W none2:=by
 rw[MakeChecks.laidMetH_plain _ _ _ (by kernel_rfl)]at h
 obtain⟨ps,hl,_⟩:=h
 have m0:("internal/strconv.uint64pow10",(Lib.tabData .u64 Lib.pow10Tab:DataW Unit))∈Rows.fnExactApplyAllRow.laid:=List.mem_of_getElem? (i:=2) (by kernel_rfl)
 have t0:=tab_of_laid (t:=127) (e:=93) (n:=20) (g:=1) (by kernel_rfl) (by kernel_rfl) Tryz.underlying127 Tryz.underlying93 (by kernel_rfl) (by kernel_rfl) hl m0
 have m1:("math/bits.deBruijn64tab",(Lib.tabData .u8 (Lib.deBruijn64tab.map fun z:Nat=>(z:Int)):DataW Unit))∈Rows.fnExactApplyAllRow.laid:=List.mem_of_getElem? (i:=1) (by kernel_rfl)
 have t1:=tab_of_laid (t:=143) (e:=5) (n:=64) (g:=6) (by kernel_rfl) (by kernel_rfl) Tryz.underlying143 Tryz.underlying5 (by kernel_rfl) (by kernel_rfl) hl m1
 intro x hx g hg
 simp only[tabL,List.mem_cons,List.not_mem_nil,or_false]at hx
 rcases hx with rfl|rfl
 ·exact⟨tab_cells t0 hg,fun _ k=>k⟩
 ·exact⟨tab_cells t1 hg,fun _ k=>k⟩
set_option maxRecDepth 100000 in
theorem lifted(os:Os)(started:os.Started)(H:Type)(enc:TypeId × Value→H):
  ReturnsInHanded {} Tryz.checked os 4 .any (fun w args=>(Rows.fnExactApplyAllSpec.pre enc Tryz.prog Tryz.f4 [] false w args∧laidMetH Tryz.prog Rows.fnExactApplyAllRow.laid w)∧sizedMet enc Tryz.prog Tryz.f4 (OpenSpec.ofChange Rows.fnExactApplyAllSpec) false w args) (Rows.fnExactApplyAllSpec.post enc Tryz.prog Tryz.f4 false true false false):=by
 refine returnsInHanded_of_change_and (C:=Tryz.checked) (X:=fun w _=>laidMetH Tryz.prog Rows.fnExactApplyAllRow.laid w) (fun _ _ _ hh h=>h.of_heap hh) own started (by kernel_rfl) Tryz.func4
  (ChangeSpec.witness_shaped (enc:=enc) (C:=Tryz.checked) (os:=os) (X:=fun w _=>laidMetH Tryz.prog Rows.fnExactApplyAllRow.laid w) false (World.laidAll Tryz.prog os Rows.fnExactApplyAllRow.laid) #[.agg #[.slice none 0 0,.slice none 0 0,.slice none 0 0,.int .i64 0,.int .i64 0,.string ⟨#[]⟩],.slice none 0 0] 8 (World.laidAll_os _ _ _) (World.shaped_of_ZipB (by kernel_rfl) (by kernel_rfl)) (by kernel_rfl) (by kernel_rfl) (by kernel_rfl) (by rw[MakeChecks.laidMetH_plain _ _ _ (by kernel_rfl)];exact laidMet_laidAll _ (by kernel_rfl) (by kernel_rfl))) ?_
 intro W base args ds gs before hval0 hW _ _ hL _
 have hval: ∀(j:Nat) t v,Tryz.f4.params[j]? =some t→args[j]? =some v→Value.okWide Tryz.prog W .any base t v:=hval0
 have hW':=hW
 obtain⟨p,q,hA0,hV,rfl,hfz,hnd⟩:=hW
 have hA:DataW.TrodAll enc Tryz.prog W 0 (fun _=>true) true Tryz.f4.params.toList args.toList ds p:=hA0
 rw[Tryz.params4]at hA hval
 obtain⟨v0,vs0,d0,ds0,p0,q0,hargs0,rfl,rfl,h0,r0⟩:=trodAll_cons hA
 obtain⟨v1,vs1,d1,ds1,p1,q1,hargs1,rfl,rfl,h1,r1⟩:=trodAll_cons r0
 obtain⟨hnil,rfl,rfl⟩:=trodAll_nil r1
 obtain rfl:args=#[v0,v1]:=by
  cases args
  simp_all
 obtain⟨rfl,rfl⟩:=trodVars_none hV
 have k0:=h0
 have lt0: ∀x∈p0,x.block<W.heap.size:=by obtain⟨m,hm⟩:=k0;exact DataW.trod_lt m _ _ _ hm
 obtain⟨l0,o0,a0⟩:=bridge_agg T_ok 9 (t:=24) (by kernel_rfl) rfl rfl (hval 0 24 v0 rfl rfl) h0
 obtain⟨d0,rfl⟩:=P22.data_of o0
 have k1:=h1
 have lt1: ∀x∈p1,x.block<W.heap.size:=by obtain⟨m,hm⟩:=k1;exact DataW.trod_lt m _ _ _ hm
 obtain⟨l1,o1,a1⟩:=bridge_leaf T_ok 9 (t:=22) (by kernel_rfl) rfl rfl (hval 1 22 v1 rfl rfl) h1
 obtain⟨ps1,rfl⟩:=P22.ints_of o1
 clear hA0 hval0
 have hcon:=(P24.law d0 ps1).law W (tabs_met hL) [v0,v1] (parts_cons a0 (parts_cons a1 (parts_nil _ _ _)))
 refine hcon.mono fun e W' ⟨he,bel⟩=> ?_
 subst he
 exact⟨_,rfl,_,_,_,[],_,[],hW',trodAll_mk1 (shut_bool Tryz.underlying4 _),(trodAll_cons_mk (Below.trod laidOut (by kernel_rfl) (of_decide_eq_true (by kernel_rfl)) k0 bel lt0) (trodAll_cons_mk (Below.trod laidOut (by kernel_rfl) (of_decide_eq_true (by kernel_rfl)) k1 bel lt1) trodAll_mk0)),rfl,bel.frame _,fun h=>by cases h⟩
theorem kf0:(Rows.fnExactApplyAllRow.wf (OpenSpec.ofChange Rows.fnExactApplyAllSpec))=true:=by kernel_rfl
theorem kf1:(laidOutB Tryz.prog)=true:=by kernel_rfl
theorem kf2:(mapsRowed Tryz.prog)=true:=by kernel_rfl
theorem kf3:(Tryz.f4.params.all (Tryz.prog.readableRec ·))=true:=by kernel_rfl
theorem kf4:(namedTie Tryz.prog Rows.fnExactApplyAllRow.named Rows.fnExactApplyAllSpec.vars)=true:=by kernel_rfl
theorem kf5:((Rows.fnExactApplyAllRow.stops==[]))=true:=by kernel_rfl
theorem kf6:((Tryz.prog.stops==[]))=true:=by kernel_rfl
theorem kf7:((Rows.fnExactApplyAllRow.knobs==[]))=true:=by kernel_rfl
theorem kf8:((Tryz.prog.stopKnobs==[]))=true:=by kernel_rfl
theorem kf9:((Rows.fnExactApplyAllRow.inPlace==Tryz.prog.inPlace 4))=true:=by kernel_rfl
theorem kf10:((Rows.fnExactApplyAllRow.unfollowed==Tryz.prog.unfollowed 4))=true:=by kernel_rfl
theorem kf11:((Rows.fnExactApplyAllRow.recurses==Tryz.prog.recurses 4))=true:=by kernel_rfl
theorem kf12:((Rows.fnExactApplyAllRow.named==Tryz.prog.varsNamed 4))=true:=by kernel_rfl
theorem kf13:((Rows.fnExactApplyAllRow.maps==(Tryz.f4.params.toList++Rows.fnExactApplyAllSpec.plain.varTypes Tryz.prog).any (Tryz.prog.mapsRec ·)))=true:=by kernel_rfl
theorem kf14:((Rows.fnExactApplyAllRow.ifaces==(Tryz.f4.params.toList++Rows.fnExactApplyAllSpec.plain.varTypes Tryz.prog).any (Tryz.prog.ifacesRec ·)))=true:=by kernel_rfl
theorem kf15:((Rows.fnExactApplyAllRow.mapsOut==Tryz.prog.mapsAmong Tryz.f4.resultTypes.toList))=true:=by kernel_rfl
theorem kf16:((Rows.fnExactApplyAllRow.loops==(Tryz.f4.params.toList++Rows.fnExactApplyAllSpec.plain.varTypes Tryz.prog).any (Tryz.prog.loopsFrom ·)))=true:=by kernel_rfl
theorem kf17:((Rows.fnExactApplyAllRow.wideKeys==(Tryz.f4.params.toList++Rows.fnExactApplyAllSpec.plain.varTypes Tryz.prog++Tryz.f4.resultTypes.toList).any (Tryz.prog.wideKeysFrom ·)))=true:=by kernel_rfl
theorem kf18:(Rows.fnExactApplyAllSpec.vars.all (Tryz.prog.varReadable ·))=true:=by kernel_rfl
theorem kf19:(Tryz.f4.resultTypes.all (fun t=>Tryz.prog.readableRec t&&decide (t<Tryz.prog.types.size)))=true:=by kernel_rfl
theorem kf20:((Rows.fnExactApplyAllRow.ifacesOut==Tryz.f4.resultTypes.toList.any (Tryz.prog.ifacesRec ·)))=true:=by kernel_rfl
theorem kf21:((Rows.fnExactApplyAllRow.loopsOut==Tryz.f4.resultTypes.toList.any (Tryz.prog.loopsFrom ·)))=true:=by kernel_rfl
theorem kf22:((Rows.fnExactApplyAllRow.plainKeys==Tryz.prog.plainKeys))=true:=by kernel_rfl
theorem kf23:(Rows.fnExactApplyAllRow.shortTexts.isNone)=true:=by kernel_rfl
theorem kf24:(Tryz.prog.stopsHeard)=true:=by kernel_rfl
theorem kf25:(Tryz.prog.mayEnter)=true:=by kernel_rfl
theorem kf26:((Rows.fnExactApplyAllRow.lifted==Tryz.prog.liftsFinal))=true:=by kernel_rfl
theorem kf27:((Tryz.prog.make==some Rows.fnExactApplyAllRow.make))=true:=by kernel_rfl
theorem kf28:((Rows.fnExactApplyAllRow.kinds==(if Rows.fnExactApplyAllRow.domain.isEmpty then[]else Tryz.f4.params.toList.map fun t=>match Tryz.prog.underlying t with|some (.int k)=>some k|_=>none)))=true:=by kernel_rfl
theorem kf29:((Rows.fnExactApplyAllRow.pinned==Rows.fnExactApplyAllRow.pinnedBy))=true:=by kernel_rfl
theorem kf30:((Rows.fnExactApplyAllRow.veiled==(Tryz.f4.params.toList++Rows.fnExactApplyAllSpec.plain.varTypes Tryz.prog++Tryz.f4.resultTypes.toList).any (Tryz.prog.veiledRec ·)))=true:=by kernel_rfl
theorem kf31:(Rows.fnExactApplyAllRow.veiledFits Tryz.prog Tryz.f4.params.toList (Tryz.f4.params.toList++Rows.fnExactApplyAllSpec.plain.varTypes Tryz.prog++Tryz.f4.resultTypes.toList))=true:=by kernel_rfl
theorem and2{a b:Bool}(h:a=true)(k:b=true):(a&&b)=true:=by rw[h,k];rfl
theorem closed:joinedFacts Tryz.prog 4 Tryz.f4 Rows.fnExactApplyAllSpec Rows.fnExactApplyAllRow=true:=and2 (and2 (and2 (and2 (and2 (and2 (and2 (and2 (and2 (and2 (and2 (and2 (and2 (and2 (and2 (and2 (and2 (and2 (and2 (and2 (and2 (and2 (and2 (and2 (and2 (and2 (and2 (and2 (and2 (and2 (and2 kf0 kf1) kf2) kf3) kf4) kf5) kf6) kf7) kf8) kf9) kf10) kf11) kf12) kf13) kf14) kf15) kf16) kf17) kf18) kf19) kf20) kf21) kf22) kf23) kf24) kf25) kf26) kf27) kf28) kf29) kf30) kf31
theorem named:Tryz.prog.funcNamed "loop.example/g00787/laws.FnExactApplyAll" =some 4:=by kernel_rfl
theorem said:Rows.FnExactApplyAllSaid:=
 OpenClaim.holds_of_wide 4 Tryz.f4 rfl rfl rfl rfl rfl rfl rfl ⟨rfl,rfl,rfl,rfl,rfl⟩ rfl rfl rfl rfl rfl named Tryz.func4 closed
  (of_decide_eq_true (by kernel_rfl)) (by unfold Func.isWrapper;first|(rw[if_pos (by decide+kernel)];kernel_rfl)|(rw[if_neg (by decide+kernel)];exact⟨rfl,rfl⟩))
  (fun os started H enc _=>lifted os started H enc)
theorem proved:Rows.FnExactApplyAllCardSaid:=
 Claim7.holds_tied_plain_at .later [] [.data,.data,.data,.data,.pinned,.pinned] true (true, "906d1e393f5158a7dc230c1ce1b67d1f33274a7a058bf2b176f0e1c9112ef19b") false
  said (fun _ h=>by cases h) (by kernel_rfl) (fun _ h=>by cases h) fnExactApplyAll_row_tie rfl ⟨rfl,rfl⟩ (by kernel_rfl) rfl
  (fun f fn hf hfn=>by
   obtain rfl:f=4:=Option.some.inj ((show Tryz.prog.funcNamed "loop.example/g00787/laws.FnExactApplyAll" =some 4 by kernel_rfl).symm.trans hf) |>.symm
   obtain rfl:fn=Tryz.f4:=(Option.some.inj (Tryz.func4.symm.trans hfn)).symm
   exact⟨by kernel_rfl,fun j t ht=>by
    rw[Tryz.params4]at ht
    have hm:t∈[24,22]:=by simpa using Array.mem_of_getElem? ht
    have hall:([24,22].all fun u=> !Tryz.prog.wantsStandIn u)=true:=by kernel_rfl
    exact(show Tryz.prog.wantsStandIn t=false by simpa using List.all_eq_true.1 hall t hm)⟩)
  (by kernel_rfl)
#print axioms proved
end Go.Proofs.YtidkogijdlfjpaaGreatDoor.FnExactApplyAll
