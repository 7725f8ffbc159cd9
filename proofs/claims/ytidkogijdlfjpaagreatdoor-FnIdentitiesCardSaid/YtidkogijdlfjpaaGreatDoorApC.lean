import Derived.Test.YtidkogijdlfjpaaGreatDoorApB
/- Prims that sum, in place, by the program; contracts. -/
set_option linter.unusedVariables false
set_option linter.unusedSimpArgs false
set_option maxRecDepth 100000
open Go Go.Abs Go.Proofs V1 H1 F1 F2 T1 T2 T3 P1 P2 P3 P4 P5
namespace P6
theorem primTwo(p:Nat)(hp:15≤p∧p≤24)(et:takesN p=2)(eb:backN p=0)(d:Dat)(r:List Int)(b:Int)(c:Int)(fl:Int)(h:Dk d)(hs:d.st=r++[b,c])(hb0:d.bk.length≤32)(hf:0≤fl∧fl≤d.bk.length)(v:Int)(k2:Con Tryz.prog 60 [.int .i64 (IntKind.i64.wrap (IntKind.i64.wrap ((p:Int)-15)+1)),.int .i64 b,.int .i64 c] (undefs [.int .i64 (IntKind.i64.wrap (IntKind.i64.wrap ((p:Int)-15)+1)),.int .i64 b,.int .i64 c]) (.tup [.int .i64 v,.bool true])):Con Tryz.prog 36 [.obj (datC d),.int .i64 p,.int .i64 fl] [.obj (datC (pushL {d with st:=r} [v]).1),.undef,.undef] (.int .i64 (pushL {d with st:=r} [v]).2):=by
 have kt:Con Tryz.prog 45 [.int .i64 p] (undefs [.int .i64 p]) (.int .i64 2):=by
  have k:=c45 p (by unfold P52;omega)
  rw[et]at k;exact k
 have kk:Con Tryz.prog 59 [.int .i64 p] (undefs [.int .i64 p]) (.int .i64 0):=by
  have k:=c59 p (by unfold P52;omega)
  rw[eb]at k;exact k
 have hst:=h.st
 have hl:d.st.length=r.length+2:=by rw[hs];simp
 have g0:decide ((((d.st.map intR).length:Nat):Int)<2)=false:=by rw[List.length_map];exact decide_eq_false (by omega)
 have wf:IntKind.i64.wrap ((((d.bk.map intR).length:Nat):Int)-fl)=(d.bk.length:Int)-fl:=by rw[List.length_map];exact wrap64 (by omega) (by omega)
 have g1:decide (IntKind.i64.wrap ((((d.bk.map intR).length:Nat):Int)-fl)<0)=false:=by rw[wf];exact decide_eq_false (by omega)
 have w2:IntKind.i64.wrap ((((d.st.map intR).length:Nat):Int)-2)=(r.length:Int):=by rw[List.length_map,wrap64 (by omega) (by omega)];omega
 have er:List.take ((IntKind.i64.wrap ((((d.st.map intR).length:Nat):Int)-2)).toNat-0) (List.drop (0+0) d.st)=r:=by rw[w2,hs];simp
 have q0:inR (p:Int) 15 24=true:=by simp[inR];omega
 have k1:=c61 {d with st:=List.take ((IntKind.i64.wrap ((((d.st.map intR).length:Nat):Int)-2)).toNat-0) (List.drop (0+0) d.st)} [v] (by rw[er];simp only;omega) (by simp)
 rw[←er]
 refine Con.evP 242 [500000] rfl T_ok mix Tryz.func36 rfl rfl rfl rfl [.tmp 6] rfl ?_
 conv=>whnf
 (iterate 115 ((first|refine rq_s (by solve|simp only[lms]|fail) ?_|apply rq_s rfl|refine rq_s (by rw[w2];first|exact decide_eq_true (by omega)|(rw[List.length_map];first|exact decide_eq_true (by omega)|(simp;omega))) ?_|refine row_s (by(rfl)) ?_|refine rows_s (by(exact(show _=z3 from rfl))) ?_|refine rows_s (by(exact cp2 hs w2)) ?_|refine fac_s (fun hf=> ?_)|refine ChkS.mk (by kernel_rfl) ?_|refine br_f (by assumption) ?_|apply lend_s|refine call_s (kt ..) ?_|refine call_s (kk ..) ?_);conv=>whnf));(iterate 14 ((first|refine rq_s (by solve|simp only[lms]|fail) ?_|apply rq_s rfl|refine fac_s (fun hf=> ?_)|apply br_f rfl|refine br_t (by assumption) ?_|refine handp_s 61 [some 6,none] ?_|apply lend_s|refine call_s (c33 ..) ?_|refine call_s (k2 ..) ?_);conv=>whnf));(focus (apply callpe_s (f:=61);(· repeat' (first|(refine sub_all ?_;simp[lms];done)|exact sub_map _ _ _ _|apply cons_eq|apply obj_eq|apply agg_eq|apply own_eq|apply ro_eq|apply rp_eq|apply fnc_eq|rfl));refine callp_s (f:=61) rfl (k1 ..) ?_;conv=>whnf));iterate 8 (first|(apply rq_s rfl;conv=>whnf)|(refine rows_s (sub_all (by solve|simp[lms]|fail)) ?_;conv=>whnf)|(refine fac_s (fun hf=> ?_);conv=>whnf)|(refine aftp_s (by rfl) ?_;conv=>whnf)|(exact True.intro))
 all_goals skip
theorem primTwoZ(p:Nat)(hp:15≤p∧p≤24)(et:takesN p=2)(eb:backN p=0)(d:Dat)(r:List Int)(b:Int)(c:Int)(fl:Int)(h:Dk d)(hs:d.st=r++[b,c])(hb0:d.bk.length≤32)(hf:0≤fl∧fl≤d.bk.length)(v:Int)(k2:Con Tryz.prog 60 [.int .i64 (IntKind.i64.wrap (IntKind.i64.wrap ((p:Int)-15)+1)),.int .i64 b,.int .i64 c] (undefs [.int .i64 (IntKind.i64.wrap (IntKind.i64.wrap ((p:Int)-15)+1)),.int .i64 b,.int .i64 c]) (.tup [.int .i64 v,.bool false])):Con Tryz.prog 36 [.obj (datC d),.int .i64 p,.int .i64 fl] [.obj (datC ((({d with st:=r},-10):Dat × Int)).1),.undef,.undef] (.int .i64 ((({d with st:=r},-10):Dat × Int)).2):=by
 have kt:Con Tryz.prog 45 [.int .i64 p] (undefs [.int .i64 p]) (.int .i64 2):=by
  have k:=c45 p (by unfold P52;omega)
  rw[et]at k;exact k
 have kk:Con Tryz.prog 59 [.int .i64 p] (undefs [.int .i64 p]) (.int .i64 0):=by
  have k:=c59 p (by unfold P52;omega)
  rw[eb]at k;exact k
 have hst:=h.st
 have hl:d.st.length=r.length+2:=by rw[hs];simp
 have g0:decide ((((d.st.map intR).length:Nat):Int)<2)=false:=by rw[List.length_map];exact decide_eq_false (by omega)
 have wf:IntKind.i64.wrap ((((d.bk.map intR).length:Nat):Int)-fl)=(d.bk.length:Int)-fl:=by rw[List.length_map];exact wrap64 (by omega) (by omega)
 have g1:decide (IntKind.i64.wrap ((((d.bk.map intR).length:Nat):Int)-fl)<0)=false:=by rw[wf];exact decide_eq_false (by omega)
 have w2:IntKind.i64.wrap ((((d.st.map intR).length:Nat):Int)-2)=(r.length:Int):=by rw[List.length_map,wrap64 (by omega) (by omega)];omega
 have er:List.take ((IntKind.i64.wrap ((((d.st.map intR).length:Nat):Int)-2)).toNat-0) (List.drop (0+0) d.st)=r:=by rw[w2,hs];simp
 have q0:inR (p:Int) 15 24=true:=by simp[inR];omega
 rw[←er]
 refine Con.evP 242 [500000] rfl T_ok mix Tryz.func36 rfl rfl rfl rfl [.tmp 6] rfl ?_
 conv=>whnf
 (iterate 115 ((first|refine rq_s (by solve|simp only[lms]|fail) ?_|apply rq_s rfl|refine rq_s (by rw[w2];first|exact decide_eq_true (by omega)|(rw[List.length_map];first|exact decide_eq_true (by omega)|(simp;omega))) ?_|refine row_s (by(rfl)) ?_|refine rows_s (by(exact(show _=z3 from rfl))) ?_|refine rows_s (by(exact cp2 hs w2)) ?_|refine fac_s (fun hf=> ?_)|refine ChkS.mk (by kernel_rfl) ?_|refine br_f (by assumption) ?_|apply lend_s|refine call_s (kt ..) ?_|refine call_s (kk ..) ?_);conv=>whnf));iterate 16 (first|(apply rq_s rfl;conv=>whnf)|(refine rows_s (sub_all (by solve|simp[lms]|fail)) ?_;conv=>whnf)|(refine rows_s (by(exact sub_map _ _ _ _)) ?_;conv=>whnf)|(refine fac_s (fun hf=> ?_);conv=>whnf)|(apply br_t rfl;conv=>whnf)|(refine br_t (by assumption) ?_;conv=>whnf)|(apply lend_s;conv=>whnf)|(refine call_s (c33 ..) ?_;conv=>whnf)|(refine call_s (k2 ..) ?_;conv=>whnf)|(refine aftp_s (by rfl) ?_;conv=>whnf)|(exact True.intro))
 all_goals skip
theorem primC1(p:Nat)(hp:25≤p∧p≤38)(et:takesN p=1)(eb:backN p=0)(d:Dat)(r:List Int)(c:Int)(fl:Int)(h:Dk d)(hs:d.st=r++[c])(hb0:d.bk.length≤32)(hf:0≤fl∧fl≤d.bk.length)(v:Int)(k2:Con Tryz.prog 63 [.int .i64 p,.int .i64 0,.int .i64 c] (undefs [.int .i64 p,.int .i64 0,.int .i64 c]) (.int .i64 v)):Con Tryz.prog 36 [.obj (datC d),.int .i64 p,.int .i64 fl] [.obj (datC (pushL {d with st:=r} [v]).1),.undef,.undef] (.int .i64 (pushL {d with st:=r} [v]).2):=by
 have kt:Con Tryz.prog 45 [.int .i64 p] (undefs [.int .i64 p]) (.int .i64 1):=by
  have k:=c45 p (by unfold P52;omega)
  rw[et]at k;exact k
 have kk:Con Tryz.prog 59 [.int .i64 p] (undefs [.int .i64 p]) (.int .i64 0):=by
  have k:=c59 p (by unfold P52;omega)
  rw[eb]at k;exact k
 have hst:=h.st
 have hl:d.st.length=r.length+1:=by rw[hs];simp
 have g0:decide ((((d.st.map intR).length:Nat):Int)<1)=false:=by rw[List.length_map];exact decide_eq_false (by omega)
 have wf:IntKind.i64.wrap ((((d.bk.map intR).length:Nat):Int)-fl)=(d.bk.length:Int)-fl:=by rw[List.length_map];exact wrap64 (by omega) (by omega)
 have g1:decide (IntKind.i64.wrap ((((d.bk.map intR).length:Nat):Int)-fl)<0)=false:=by rw[wf];exact decide_eq_false (by omega)
 have w2:IntKind.i64.wrap ((((d.st.map intR).length:Nat):Int)-1)=(r.length:Int):=by rw[List.length_map,wrap64 (by omega) (by omega)];omega
 have er:List.take ((IntKind.i64.wrap ((((d.st.map intR).length:Nat):Int)-1)).toNat-0) (List.drop (0+0) d.st)=r:=by rw[w2,hs];simp
 have q0:inR (p:Int) 15 24=false:=by simp[inR];omega
 have q1:((p:Int)==1)=false:=by simp;omega
 have q2:((p:Int)==2)=false:=by simp;omega
 have q3:((p:Int)==10)=false:=by simp;omega
 have q4:((p:Int)==3)=false:=by simp;omega
 have q5:((p:Int)==4)=false:=by simp;omega
 have q6:((p:Int)==5)=false:=by simp;omega
 have q7:((p:Int)==6)=false:=by simp;omega
 have q8:((p:Int)==7)=false:=by simp;omega
 have q9:((p:Int)==8)=false:=by simp;omega
 have q10:((p:Int)==9)=false:=by simp;omega
 have q11:((p:Int)==11)=false:=by simp;omega
 have q12:((p:Int)==12)=false:=by simp;omega
 have q13:((p:Int)==13)=false:=by simp;omega
 have q14:((p:Int)==14)=false:=by simp;omega
 have q15:((p:Int)==51)=false:=by simp;omega
 have q16:((p:Int)==52)=false:=by simp;omega
 have q17:inR (p:Int) 25 38=true:=by simp[inR];omega
 have k1:=c61 {d with st:=List.take ((IntKind.i64.wrap ((((d.st.map intR).length:Nat):Int)-1)).toNat-0) (List.drop (0+0) d.st)} [v] (by rw[er];simp only;omega) (by simp)
 rw[←er]
 refine Con.evP 242 [500000] rfl T_ok mix Tryz.func36 rfl rfl rfl rfl [.tmp 6] rfl ?_
 conv=>whnf
 (iterate 28 ((first|apply rq_s rfl|refine rows_s (by(exact(show _=z3 from rfl))) ?_|refine fac_s (fun hf=> ?_)|refine ChkS.mk (by kernel_rfl) ?_|refine br_f (by assumption) ?_|apply lend_s|refine call_s (kt ..) ?_|refine call_s (kk ..) ?_);conv=>whnf));(iterate 121 ((first|refine rq_s (by solve|simp only[lms]|fail) ?_|apply rq_s rfl|refine rq_s (by rw[w2];first|exact decide_eq_true (by omega)|(rw[List.length_map];first|exact decide_eq_true (by omega)|(simp;omega))) ?_|refine row_s (by(rfl)) ?_|refine rows_s (by(exact cp1 hs w2)) ?_|refine ChkS.mk (by kernel_rfl) ?_|refine br_t (by assumption) ?_|refine br_f (by assumption) ?_|refine handp_s 61 [some 6,none] ?_|apply lend_s|refine call_s (c33 ..) ?_|refine call_s (k2 ..) ?_);conv=>whnf));(focus (apply callpe_s (f:=61);(· repeat' (first|(refine sub_all ?_;simp[lms];done)|exact sub_map _ _ _ _|apply cons_eq|apply obj_eq|apply agg_eq|apply own_eq|apply ro_eq|apply rp_eq|apply fnc_eq|rfl));refine callp_s (f:=61) rfl (k1 ..) ?_;conv=>whnf));iterate 9 (first|(apply rq_s rfl;conv=>whnf)|(refine rows_s (sub_all (by solve|simp[lms]|fail)) ?_;conv=>whnf)|(refine fac_s (fun hf=> ?_);conv=>whnf)|(refine aftp_s (by rfl) ?_;conv=>whnf)|(exact True.intro))
 all_goals skip
theorem primC2(p:Nat)(hp:25≤p∧p≤38)(et:takesN p=2)(eb:backN p=0)(d:Dat)(r:List Int)(b:Int)(c:Int)(fl:Int)(h:Dk d)(hs:d.st=r++[b,c])(hb0:d.bk.length≤32)(hf:0≤fl∧fl≤d.bk.length)(v:Int)(k2:Con Tryz.prog 63 [.int .i64 p,.int .i64 b,.int .i64 c] (undefs [.int .i64 p,.int .i64 b,.int .i64 c]) (.int .i64 v)):Con Tryz.prog 36 [.obj (datC d),.int .i64 p,.int .i64 fl] [.obj (datC (pushL {d with st:=r} [v]).1),.undef,.undef] (.int .i64 (pushL {d with st:=r} [v]).2):=by
 have kt:Con Tryz.prog 45 [.int .i64 p] (undefs [.int .i64 p]) (.int .i64 2):=by
  have k:=c45 p (by unfold P52;omega)
  rw[et]at k;exact k
 have kk:Con Tryz.prog 59 [.int .i64 p] (undefs [.int .i64 p]) (.int .i64 0):=by
  have k:=c59 p (by unfold P52;omega)
  rw[eb]at k;exact k
 have hst:=h.st
 have hl:d.st.length=r.length+2:=by rw[hs];simp
 have g0:decide ((((d.st.map intR).length:Nat):Int)<2)=false:=by rw[List.length_map];exact decide_eq_false (by omega)
 have wf:IntKind.i64.wrap ((((d.bk.map intR).length:Nat):Int)-fl)=(d.bk.length:Int)-fl:=by rw[List.length_map];exact wrap64 (by omega) (by omega)
 have g1:decide (IntKind.i64.wrap ((((d.bk.map intR).length:Nat):Int)-fl)<0)=false:=by rw[wf];exact decide_eq_false (by omega)
 have w2:IntKind.i64.wrap ((((d.st.map intR).length:Nat):Int)-2)=(r.length:Int):=by rw[List.length_map,wrap64 (by omega) (by omega)];omega
 have er:List.take ((IntKind.i64.wrap ((((d.st.map intR).length:Nat):Int)-2)).toNat-0) (List.drop (0+0) d.st)=r:=by rw[w2,hs];simp
 have q0:inR (p:Int) 15 24=false:=by simp[inR];omega
 have q1:((p:Int)==1)=false:=by simp;omega
 have q2:((p:Int)==2)=false:=by simp;omega
 have q3:((p:Int)==10)=false:=by simp;omega
 have q4:((p:Int)==3)=false:=by simp;omega
 have q5:((p:Int)==4)=false:=by simp;omega
 have q6:((p:Int)==5)=false:=by simp;omega
 have q7:((p:Int)==6)=false:=by simp;omega
 have q8:((p:Int)==7)=false:=by simp;omega
 have q9:((p:Int)==8)=false:=by simp;omega
 have q10:((p:Int)==9)=false:=by simp;omega
 have q11:((p:Int)==11)=false:=by simp;omega
 have q12:((p:Int)==12)=false:=by simp;omega
 have q13:((p:Int)==13)=false:=by simp;omega
 have q14:((p:Int)==14)=false:=by simp;omega
 have q15:((p:Int)==51)=false:=by simp;omega
 have q16:((p:Int)==52)=false:=by simp;omega
 have q17:inR (p:Int) 25 38=true:=by simp[inR];omega
 have k1:=c61 {d with st:=List.take ((IntKind.i64.wrap ((((d.st.map intR).length:Nat):Int)-2)).toNat-0) (List.drop (0+0) d.st)} [v] (by rw[er];simp only;omega) (by simp)
 rw[←er]
 refine Con.evP 242 [500000] rfl T_ok mix Tryz.func36 rfl rfl rfl rfl [.tmp 6] rfl ?_
 conv=>whnf
 (iterate 28 ((first|apply rq_s rfl|refine rows_s (by(exact(show _=z3 from rfl))) ?_|refine fac_s (fun hf=> ?_)|refine ChkS.mk (by kernel_rfl) ?_|refine br_f (by assumption) ?_|apply lend_s|refine call_s (kt ..) ?_|refine call_s (kk ..) ?_);conv=>whnf));(iterate 121 ((first|refine rq_s (by solve|simp only[lms]|fail) ?_|apply rq_s rfl|refine rq_s (by rw[w2];first|exact decide_eq_true (by omega)|(rw[List.length_map];first|exact decide_eq_true (by omega)|(simp;omega))) ?_|refine row_s (by(rfl)) ?_|refine rows_s (by(exact cp2 hs w2)) ?_|refine ChkS.mk (by kernel_rfl) ?_|refine br_t (by assumption) ?_|refine br_f (by assumption) ?_|refine handp_s 61 [some 6,none] ?_|apply lend_s|refine call_s (c33 ..) ?_|refine call_s (k2 ..) ?_);conv=>whnf));(focus (apply callpe_s (f:=61);(· repeat' (first|(refine sub_all ?_;simp[lms];done)|exact sub_map _ _ _ _|apply cons_eq|apply obj_eq|apply agg_eq|apply own_eq|apply ro_eq|apply rp_eq|apply fnc_eq|rfl));refine callp_s (f:=61) rfl (k1 ..) ?_;conv=>whnf));iterate 9 (first|(apply rq_s rfl;conv=>whnf)|(refine rows_s (sub_all (by solve|simp[lms]|fail)) ?_;conv=>whnf)|(refine fac_s (fun hf=> ?_);conv=>whnf)|(refine aftp_s (by rfl) ?_;conv=>whnf)|(exact True.intro))
 all_goals skip
theorem prim15(d:Dat)(r:List Int)(a b c:Int)(fl:Int)(h:Dk d)(hs:d.st=r++[b,c])(hb0:d.bk.length≤32)(hf:0≤fl∧fl≤d.bk.length)(hk:0≤(d.bk.length:Int)-fl)(qb: -2147483648≤b∧b≤2147483647)(qc: -2147483648≤c∧c≤2147483647):Con Tryz.prog 36 [.obj (datC d),.int .i64 15,.int .i64 fl] [.obj (datC (primR TX 15 d r a b c).1),.undef,.undef] (.int .i64 (primR TX 15 d r a b c).2):=by
 have hcb:cell b=true:=by simp[cell,inR];omega
 have hcc:cell c=true:=by simp[cell,inR];omega
 exact primTwo 15 (by omega) rfl rfl d r b c fl h hs hb0 hf (twoV 1 b c).1 (i2_1 b c hcb hcc)
theorem prim16(d:Dat)(r:List Int)(a b c:Int)(fl:Int)(h:Dk d)(hs:d.st=r++[b,c])(hb0:d.bk.length≤32)(hf:0≤fl∧fl≤d.bk.length)(hk:0≤(d.bk.length:Int)-fl)(qb: -2147483648≤b∧b≤2147483647)(qc: -2147483648≤c∧c≤2147483647):Con Tryz.prog 36 [.obj (datC d),.int .i64 16,.int .i64 fl] [.obj (datC (primR TX 16 d r a b c).1),.undef,.undef] (.int .i64 (primR TX 16 d r a b c).2):=by
 have hcb:cell b=true:=by simp[cell,inR];omega
 have hcc:cell c=true:=by simp[cell,inR];omega
 exact primTwo 16 (by omega) rfl rfl d r b c fl h hs hb0 hf (twoV 2 b c).1 (i2_2 b c hcb hcc)
theorem prim17(d:Dat)(r:List Int)(a b c:Int)(fl:Int)(h:Dk d)(hs:d.st=r++[b,c])(hb0:d.bk.length≤32)(hf:0≤fl∧fl≤d.bk.length)(hk:0≤(d.bk.length:Int)-fl)(qb: -2147483648≤b∧b≤2147483647)(qc: -2147483648≤c∧c≤2147483647):Con Tryz.prog 36 [.obj (datC d),.int .i64 17,.int .i64 fl] [.obj (datC (primR TX 17 d r a b c).1),.undef,.undef] (.int .i64 (primR TX 17 d r a b c).2):=by
 have hcb:cell b=true:=by simp[cell,inR];omega
 have hcc:cell c=true:=by simp[cell,inR];omega
 exact primTwo 17 (by omega) rfl rfl d r b c fl h hs hb0 hf (twoV 3 b c).1 (i2_3 b c hcb hcc)
theorem prim18n(d:Dat)(r:List Int)(a b c:Int)(fl:Int)(h:Dk d)(hs:d.st=r++[b,c])(hb0:d.bk.length≤32)(hf:0≤fl∧fl≤d.bk.length)(hk:0≤(d.bk.length:Int)-fl)(qb: -2147483648≤b∧b≤2147483647)(qc: -2147483648≤c∧c≤2147483647)(h0: ¬c=0):Con Tryz.prog 36 [.obj (datC d),.int .i64 18,.int .i64 fl] [.obj (datC (primR TX 18 d r a b c).1),.undef,.undef] (.int .i64 (primR TX 18 d r a b c).2):=by
 have hcb:cell b=true:=by simp[cell,inR];omega
 have hcc:cell c=true:=by simp[cell,inR];omega
 have k2:=i2_4 b c hcb hcc
 rw[tv4 h0]at k2
 rw[show primR TX 18 d r a b c=pushL {d with st:=r} [wc (floorQ b c)] by show(match twoF 4 b c with|none=>_|some v=>_)=_;rw[show twoF 4 b c=some (wc (floorQ b c))from if_neg h0];rfl]
 exact primTwo 18 (by omega) rfl rfl d r b c fl h hs hb0 hf _ k2
theorem prim18z(d:Dat)(r:List Int)(a b c:Int)(fl:Int)(h:Dk d)(hs:d.st=r++[b,c])(hb0:d.bk.length≤32)(hf:0≤fl∧fl≤d.bk.length)(hk:0≤(d.bk.length:Int)-fl)(qb: -2147483648≤b∧b≤2147483647)(qc: -2147483648≤c∧c≤2147483647)(h0:c=0):Con Tryz.prog 36 [.obj (datC d),.int .i64 18,.int .i64 fl] [.obj (datC (primR TX 18 d r a b c).1),.undef,.undef] (.int .i64 (primR TX 18 d r a b c).2):=by
 have hcb:cell b=true:=by simp[cell,inR];omega
 have hcc:cell c=true:=by simp[cell,inR];omega
 have k2:=i2_4 b c hcb hcc
 rw[(tv0 h0).1]at k2
 rw[show primR TX 18 d r a b c=({d with st:=r},-10) by show(match twoF 4 b c with|none=>_|some v=>_)=_;rw[show twoF 4 b c=none from if_pos h0]]
 exact primTwoZ 18 (by omega) rfl rfl d r b c fl h hs hb0 hf _ k2
theorem prim19n(d:Dat)(r:List Int)(a b c:Int)(fl:Int)(h:Dk d)(hs:d.st=r++[b,c])(hb0:d.bk.length≤32)(hf:0≤fl∧fl≤d.bk.length)(hk:0≤(d.bk.length:Int)-fl)(qb: -2147483648≤b∧b≤2147483647)(qc: -2147483648≤c∧c≤2147483647)(h0: ¬c=0):Con Tryz.prog 36 [.obj (datC d),.int .i64 19,.int .i64 fl] [.obj (datC (primR TX 19 d r a b c).1),.undef,.undef] (.int .i64 (primR TX 19 d r a b c).2):=by
 have hcb:cell b=true:=by simp[cell,inR];omega
 have hcc:cell c=true:=by simp[cell,inR];omega
 have k2:=i2_5 b c hcb hcc
 rw[tv5 h0]at k2
 rw[show primR TX 19 d r a b c=pushL {d with st:=r} [b-floorQ b c*c] by show(match twoF 5 b c with|none=>_|some v=>_)=_;rw[show twoF 5 b c=some (b-floorQ b c*c)from if_neg h0];rfl]
 exact primTwo 19 (by omega) rfl rfl d r b c fl h hs hb0 hf _ k2
theorem prim19z(d:Dat)(r:List Int)(a b c:Int)(fl:Int)(h:Dk d)(hs:d.st=r++[b,c])(hb0:d.bk.length≤32)(hf:0≤fl∧fl≤d.bk.length)(hk:0≤(d.bk.length:Int)-fl)(qb: -2147483648≤b∧b≤2147483647)(qc: -2147483648≤c∧c≤2147483647)(h0:c=0):Con Tryz.prog 36 [.obj (datC d),.int .i64 19,.int .i64 fl] [.obj (datC (primR TX 19 d r a b c).1),.undef,.undef] (.int .i64 (primR TX 19 d r a b c).2):=by
 have hcb:cell b=true:=by simp[cell,inR];omega
 have hcc:cell c=true:=by simp[cell,inR];omega
 have k2:=i2_5 b c hcb hcc
 rw[(tv0 h0).2]at k2
 rw[show primR TX 19 d r a b c=({d with st:=r},-10) by show(match twoF 5 b c with|none=>_|some v=>_)=_;rw[show twoF 5 b c=none from if_pos h0]]
 exact primTwoZ 19 (by omega) rfl rfl d r b c fl h hs hb0 hf _ k2
theorem prim20(d:Dat)(r:List Int)(a b c:Int)(fl:Int)(h:Dk d)(hs:d.st=r++[b,c])(hb0:d.bk.length≤32)(hf:0≤fl∧fl≤d.bk.length)(hk:0≤(d.bk.length:Int)-fl)(qb: -2147483648≤b∧b≤2147483647)(qc: -2147483648≤c∧c≤2147483647):Con Tryz.prog 36 [.obj (datC d),.int .i64 20,.int .i64 fl] [.obj (datC (primR TX 20 d r a b c).1),.undef,.undef] (.int .i64 (primR TX 20 d r a b c).2):=by
 have hcb:cell b=true:=by simp[cell,inR];omega
 have hcc:cell c=true:=by simp[cell,inR];omega
 exact primTwo 20 (by omega) rfl rfl d r b c fl h hs hb0 hf (twoV 6 b c).1 (i2_6 b c hcb hcc)
theorem prim21(d:Dat)(r:List Int)(a b c:Int)(fl:Int)(h:Dk d)(hs:d.st=r++[b,c])(hb0:d.bk.length≤32)(hf:0≤fl∧fl≤d.bk.length)(hk:0≤(d.bk.length:Int)-fl)(qb: -2147483648≤b∧b≤2147483647)(qc: -2147483648≤c∧c≤2147483647):Con Tryz.prog 36 [.obj (datC d),.int .i64 21,.int .i64 fl] [.obj (datC (primR TX 21 d r a b c).1),.undef,.undef] (.int .i64 (primR TX 21 d r a b c).2):=by
 have hcb:cell b=true:=by simp[cell,inR];omega
 have hcc:cell c=true:=by simp[cell,inR];omega
 exact primTwo 21 (by omega) rfl rfl d r b c fl h hs hb0 hf (twoV 7 b c).1 (i2_7 b c hcb hcc)
theorem prim22(d:Dat)(r:List Int)(a b c:Int)(fl:Int)(h:Dk d)(hs:d.st=r++[b,c])(hb0:d.bk.length≤32)(hf:0≤fl∧fl≤d.bk.length)(hk:0≤(d.bk.length:Int)-fl)(qb: -2147483648≤b∧b≤2147483647)(qc: -2147483648≤c∧c≤2147483647):Con Tryz.prog 36 [.obj (datC d),.int .i64 22,.int .i64 fl] [.obj (datC (primR TX 22 d r a b c).1),.undef,.undef] (.int .i64 (primR TX 22 d r a b c).2):=by
 have hcb:cell b=true:=by simp[cell,inR];omega
 have hcc:cell c=true:=by simp[cell,inR];omega
 exact primTwo 22 (by omega) rfl rfl d r b c fl h hs hb0 hf (twoV 8 b c).1 (i2_8 b c hcb hcc)
theorem prim23(d:Dat)(r:List Int)(a b c:Int)(fl:Int)(h:Dk d)(hs:d.st=r++[b,c])(hb0:d.bk.length≤32)(hf:0≤fl∧fl≤d.bk.length)(hk:0≤(d.bk.length:Int)-fl)(qb: -2147483648≤b∧b≤2147483647)(qc: -2147483648≤c∧c≤2147483647):Con Tryz.prog 36 [.obj (datC d),.int .i64 23,.int .i64 fl] [.obj (datC (primR TX 23 d r a b c).1),.undef,.undef] (.int .i64 (primR TX 23 d r a b c).2):=by
 have hcb:cell b=true:=by simp[cell,inR];omega
 have hcc:cell c=true:=by simp[cell,inR];omega
 exact primTwo 23 (by omega) rfl rfl d r b c fl h hs hb0 hf (twoV 9 b c).1 (i2_9 b c hcb hcc)
theorem prim24(d:Dat)(r:List Int)(a b c:Int)(fl:Int)(h:Dk d)(hs:d.st=r++[b,c])(hb0:d.bk.length≤32)(hf:0≤fl∧fl≤d.bk.length)(hk:0≤(d.bk.length:Int)-fl)(qb: -2147483648≤b∧b≤2147483647)(qc: -2147483648≤c∧c≤2147483647):Con Tryz.prog 36 [.obj (datC d),.int .i64 24,.int .i64 fl] [.obj (datC (primR TX 24 d r a b c).1),.undef,.undef] (.int .i64 (primR TX 24 d r a b c).2):=by
 have hcb:cell b=true:=by simp[cell,inR];omega
 have hcc:cell c=true:=by simp[cell,inR];omega
 exact primTwo 24 (by omega) rfl rfl d r b c fl h hs hb0 hf (twoV 10 b c).1 (i2_10 b c hcb hcc)
theorem prim25(d:Dat)(r:List Int)(a b c:Int)(fl:Int)(h:Dk d)(hs:d.st=r++[c])(hb0:d.bk.length≤32)(hf:0≤fl∧fl≤d.bk.length)(hk:0≤(d.bk.length:Int)-fl)(qb: -2147483648≤b∧b≤2147483647)(qc: -2147483648≤c∧c≤2147483647):Con Tryz.prog 36 [.obj (datC d),.int .i64 25,.int .i64 fl] [.obj (datC (primR TX 25 d r a b c).1),.undef,.undef] (.int .i64 (primR TX 25 d r a b c).2):=by
 exact primC1 25 (by omega) rfl rfl d r c fl h hs hb0 hf (compF1 25 b c) (comp25 0 c (by omega) qc)
theorem prim26(d:Dat)(r:List Int)(a b c:Int)(fl:Int)(h:Dk d)(hs:d.st=r++[c])(hb0:d.bk.length≤32)(hf:0≤fl∧fl≤d.bk.length)(hk:0≤(d.bk.length:Int)-fl)(qb: -2147483648≤b∧b≤2147483647)(qc: -2147483648≤c∧c≤2147483647):Con Tryz.prog 36 [.obj (datC d),.int .i64 26,.int .i64 fl] [.obj (datC (primR TX 26 d r a b c).1),.undef,.undef] (.int .i64 (primR TX 26 d r a b c).2):=by
 exact primC1 26 (by omega) rfl rfl d r c fl h hs hb0 hf (compF1 26 b c) (comp26 0 c (by omega) qc)
theorem prim27(d:Dat)(r:List Int)(a b c:Int)(fl:Int)(h:Dk d)(hs:d.st=r++[c])(hb0:d.bk.length≤32)(hf:0≤fl∧fl≤d.bk.length)(hk:0≤(d.bk.length:Int)-fl)(qb: -2147483648≤b∧b≤2147483647)(qc: -2147483648≤c∧c≤2147483647):Con Tryz.prog 36 [.obj (datC d),.int .i64 27,.int .i64 fl] [.obj (datC (primR TX 27 d r a b c).1),.undef,.undef] (.int .i64 (primR TX 27 d r a b c).2):=by
 exact primC1 27 (by omega) rfl rfl d r c fl h hs hb0 hf (compF1 27 b c) (comp27 0 c (by omega) qc)
theorem prim28(d:Dat)(r:List Int)(a b c:Int)(fl:Int)(h:Dk d)(hs:d.st=r++[c])(hb0:d.bk.length≤32)(hf:0≤fl∧fl≤d.bk.length)(hk:0≤(d.bk.length:Int)-fl)(qb: -2147483648≤b∧b≤2147483647)(qc: -2147483648≤c∧c≤2147483647):Con Tryz.prog 36 [.obj (datC d),.int .i64 28,.int .i64 fl] [.obj (datC (primR TX 28 d r a b c).1),.undef,.undef] (.int .i64 (primR TX 28 d r a b c).2):=by
 exact primC1 28 (by omega) rfl rfl d r c fl h hs hb0 hf (compF1 28 b c) (comp28 0 c (by omega) qc)
theorem prim29(d:Dat)(r:List Int)(a b c:Int)(fl:Int)(h:Dk d)(hs:d.st=r++[c])(hb0:d.bk.length≤32)(hf:0≤fl∧fl≤d.bk.length)(hk:0≤(d.bk.length:Int)-fl)(qb: -2147483648≤b∧b≤2147483647)(qc: -2147483648≤c∧c≤2147483647):Con Tryz.prog 36 [.obj (datC d),.int .i64 29,.int .i64 fl] [.obj (datC (primR TX 29 d r a b c).1),.undef,.undef] (.int .i64 (primR TX 29 d r a b c).2):=by
 exact primC1 29 (by omega) rfl rfl d r c fl h hs hb0 hf (compF1 29 b c) (comp29 0 c (by omega) qc)
theorem prim30(d:Dat)(r:List Int)(a b c:Int)(fl:Int)(h:Dk d)(hs:d.st=r++[b,c])(hb0:d.bk.length≤32)(hf:0≤fl∧fl≤d.bk.length)(hk:0≤(d.bk.length:Int)-fl)(qb: -2147483648≤b∧b≤2147483647)(qc: -2147483648≤c∧c≤2147483647):Con Tryz.prog 36 [.obj (datC d),.int .i64 30,.int .i64 fl] [.obj (datC (primR TX 30 d r a b c).1),.undef,.undef] (.int .i64 (primR TX 30 d r a b c).2):=by
 exact primC2 30 (by omega) rfl rfl d r b c fl h hs hb0 hf (compF1 30 b c) (comp30 b c qb qc)
theorem prim31(d:Dat)(r:List Int)(a b c:Int)(fl:Int)(h:Dk d)(hs:d.st=r++[b,c])(hb0:d.bk.length≤32)(hf:0≤fl∧fl≤d.bk.length)(hk:0≤(d.bk.length:Int)-fl)(qb: -2147483648≤b∧b≤2147483647)(qc: -2147483648≤c∧c≤2147483647):Con Tryz.prog 36 [.obj (datC d),.int .i64 31,.int .i64 fl] [.obj (datC (primR TX 31 d r a b c).1),.undef,.undef] (.int .i64 (primR TX 31 d r a b c).2):=by
 exact primC2 31 (by omega) rfl rfl d r b c fl h hs hb0 hf (compF1 31 b c) (comp31 b c qb qc)
theorem prim32(d:Dat)(r:List Int)(a b c:Int)(fl:Int)(h:Dk d)(hs:d.st=r++[b,c])(hb0:d.bk.length≤32)(hf:0≤fl∧fl≤d.bk.length)(hk:0≤(d.bk.length:Int)-fl)(qb: -2147483648≤b∧b≤2147483647)(qc: -2147483648≤c∧c≤2147483647):Con Tryz.prog 36 [.obj (datC d),.int .i64 32,.int .i64 fl] [.obj (datC (primR TX 32 d r a b c).1),.undef,.undef] (.int .i64 (primR TX 32 d r a b c).2):=by
 exact primC2 32 (by omega) rfl rfl d r b c fl h hs hb0 hf (compF1 32 b c) (comp32 b c qb qc)
theorem prim33(d:Dat)(r:List Int)(a b c:Int)(fl:Int)(h:Dk d)(hs:d.st=r++[b,c])(hb0:d.bk.length≤32)(hf:0≤fl∧fl≤d.bk.length)(hk:0≤(d.bk.length:Int)-fl)(qb: -2147483648≤b∧b≤2147483647)(qc: -2147483648≤c∧c≤2147483647):Con Tryz.prog 36 [.obj (datC d),.int .i64 33,.int .i64 fl] [.obj (datC (primR TX 33 d r a b c).1),.undef,.undef] (.int .i64 (primR TX 33 d r a b c).2):=by
 exact primC2 33 (by omega) rfl rfl d r b c fl h hs hb0 hf (compF1 33 b c) (comp33 b c qb qc)
theorem prim34(d:Dat)(r:List Int)(a b c:Int)(fl:Int)(h:Dk d)(hs:d.st=r++[b,c])(hb0:d.bk.length≤32)(hf:0≤fl∧fl≤d.bk.length)(hk:0≤(d.bk.length:Int)-fl)(qb: -2147483648≤b∧b≤2147483647)(qc: -2147483648≤c∧c≤2147483647):Con Tryz.prog 36 [.obj (datC d),.int .i64 34,.int .i64 fl] [.obj (datC (primR TX 34 d r a b c).1),.undef,.undef] (.int .i64 (primR TX 34 d r a b c).2):=by
 exact primC2 34 (by omega) rfl rfl d r b c fl h hs hb0 hf (compF1 34 b c) (comp34 b c qb qc)
theorem prim35(d:Dat)(r:List Int)(a b c:Int)(fl:Int)(h:Dk d)(hs:d.st=r++[b,c])(hb0:d.bk.length≤32)(hf:0≤fl∧fl≤d.bk.length)(hk:0≤(d.bk.length:Int)-fl)(qb: -2147483648≤b∧b≤2147483647)(qc: -2147483648≤c∧c≤2147483647):Con Tryz.prog 36 [.obj (datC d),.int .i64 35,.int .i64 fl] [.obj (datC (primR TX 35 d r a b c).1),.undef,.undef] (.int .i64 (primR TX 35 d r a b c).2):=by
 exact primC2 35 (by omega) rfl rfl d r b c fl h hs hb0 hf (compF1 35 b c) (comp35 b c qb qc)
theorem prim36(d:Dat)(r:List Int)(a b c:Int)(fl:Int)(h:Dk d)(hs:d.st=r++[b,c])(hb0:d.bk.length≤32)(hf:0≤fl∧fl≤d.bk.length)(hk:0≤(d.bk.length:Int)-fl)(qb: -2147483648≤b∧b≤2147483647)(qc: -2147483648≤c∧c≤2147483647):Con Tryz.prog 36 [.obj (datC d),.int .i64 36,.int .i64 fl] [.obj (datC (primR TX 36 d r a b c).1),.undef,.undef] (.int .i64 (primR TX 36 d r a b c).2):=by
 exact primC2 36 (by omega) rfl rfl d r b c fl h hs hb0 hf (compF1 36 b c) (comp36 b c qb qc)
theorem prim37(d:Dat)(r:List Int)(a b c:Int)(fl:Int)(h:Dk d)(hs:d.st=r++[c])(hb0:d.bk.length≤32)(hf:0≤fl∧fl≤d.bk.length)(hk:0≤(d.bk.length:Int)-fl)(qb: -2147483648≤b∧b≤2147483647)(qc: -2147483648≤c∧c≤2147483647):Con Tryz.prog 36 [.obj (datC d),.int .i64 37,.int .i64 fl] [.obj (datC (primR TX 37 d r a b c).1),.undef,.undef] (.int .i64 (primR TX 37 d r a b c).2):=by
 exact primC1 37 (by omega) rfl rfl d r c fl h hs hb0 hf (compF1 37 b c) (comp37 0 c (by omega) qc)
theorem prim38(d:Dat)(r:List Int)(a b c:Int)(fl:Int)(h:Dk d)(hs:d.st=r++[c])(hb0:d.bk.length≤32)(hf:0≤fl∧fl≤d.bk.length)(hk:0≤(d.bk.length:Int)-fl)(qb: -2147483648≤b∧b≤2147483647)(qc: -2147483648≤c∧c≤2147483647):Con Tryz.prog 36 [.obj (datC d),.int .i64 38,.int .i64 fl] [.obj (datC (primR TX 38 d r a b c).1),.undef,.undef] (.int .i64 (primR TX 38 d r a b c).2):=by
 exact primC1 38 (by omega) rfl rfl d r c fl h hs hb0 hf (compF1 38 b c) (comp38 0 c (by omega) qc)
end P6

/- Prims on cells, on the output and on the other stack, in place, by the program; contracts. -/
open Go Go.Abs Go.Proofs V1 H1 F1 F2 T1 T2 T3 P1 P2 P3 P4 P5
namespace P7
theorem primM0(p:Nat)(hp:39≤p∧p≤50)(et:takesN p=0)(eb:backN p=0)(d:Dat)(r:List Int)(fl:Int)(h:Dk d)(hs:d.st=r++[])(hb0:d.bk.length≤32)(hf:0≤fl∧fl≤d.bk.length)(y:Dat × Int)(k1:Con Tryz.prog 64 [.obj (datC {d with st:=r}),.int .i64 p,.int .i64 0,.int .i64 0] [.obj (datC y.1),.undef,.undef,.undef] (.int .i64 y.2)):Con Tryz.prog 36 [.obj (datC d),.int .i64 p,.int .i64 fl] [.obj (datC y.1),.undef,.undef] (.int .i64 y.2):=by
 have kt:Con Tryz.prog 45 [.int .i64 p] (undefs [.int .i64 p]) (.int .i64 0):=by
  have k:=c45 p (by unfold P52;omega)
  rw[et]at k;exact k
 have kk:Con Tryz.prog 59 [.int .i64 p] (undefs [.int .i64 p]) (.int .i64 0):=by
  have k:=c59 p (by unfold P52;omega)
  rw[eb]at k;exact k
 have hst:=h.st
 have hl:d.st.length=r.length+0:=by rw[hs];simp
 have g0:decide ((((d.st.map intR).length:Nat):Int)<0)=false:=by rw[List.length_map];exact decide_eq_false (by omega)
 have wf:IntKind.i64.wrap ((((d.bk.map intR).length:Nat):Int)-fl)=(d.bk.length:Int)-fl:=by rw[List.length_map];exact wrap64 (by omega) (by omega)
 have g1:decide (IntKind.i64.wrap ((((d.bk.map intR).length:Nat):Int)-fl)<0)=false:=by rw[wf];exact decide_eq_false (by omega)
 have w2:IntKind.i64.wrap ((((d.st.map intR).length:Nat):Int)-0)=(r.length:Int):=by rw[List.length_map,wrap64 (by omega) (by omega)];omega
 have er:List.take ((IntKind.i64.wrap ((((d.st.map intR).length:Nat):Int)-0)).toNat-0) (List.drop (0+0) d.st)=r:=by rw[w2,hs];simp
 have q0:inR (p:Int) 15 24=false:=by simp[inR];omega
 have q1:((p:Int)==1)=false:=by simp;omega
 have q2:((p:Int)==2)=false:=by simp;omega
 have q3:((p:Int)==10)=false:=by simp;omega
 have q4:((p:Int)==3)=false:=by simp;omega
 have q5:((p:Int)==4)=false:=by simp;omega
 have q6:((p:Int)==5)=false:=by simp;omega
 have q7:((p:Int)==6)=false:=by simp;omega
 have q8:((p:Int)==7)=false:=by simp;omega
 have q9:((p:Int)==8)=false:=by simp;omega
 have q10:((p:Int)==9)=false:=by simp;omega
 have q11:((p:Int)==11)=false:=by simp;omega
 have q12:((p:Int)==12)=false:=by simp;omega
 have q13:((p:Int)==13)=false:=by simp;omega
 have q14:((p:Int)==14)=false:=by simp;omega
 have q15:((p:Int)==51)=false:=by simp;omega
 have q16:((p:Int)==52)=false:=by simp;omega
 have q17:inR (p:Int) 25 38=false:=by simp[inR];omega
 rw[←er]at k1
 refine Con.evP 242 [500000] rfl T_ok mix Tryz.func36 rfl rfl rfl rfl [.tmp 6] rfl ?_
 conv=>whnf
 (iterate 21 ((first|apply rq_s rfl|refine fac_s (fun hf=> ?_)|refine ChkS.mk (by kernel_rfl) ?_|apply br_f rfl|apply lend_s|refine call_s (kt ..) ?_|refine call_s (kk ..) ?_);conv=>whnf));(iterate 123 ((first|refine rq_s (by solve|simp only[lms]|fail) ?_|apply rq_s rfl|refine rq_s (by rw[w2];first|exact decide_eq_true (by omega)|(rw[List.length_map];first|exact decide_eq_true (by omega)|(simp;omega))) ?_|refine row_s (by(rfl)) ?_|refine rows_s (by(exact(show _=z3 from rfl))) ?_|refine rows_s (by(exact cp0 hs w2)) ?_|refine ChkS.mk (by kernel_rfl) ?_|refine br_f (by assumption) ?_|refine handp_s 64 [some 6,none,none,none] ?_|apply lend_s|refine call_s (c33 ..) ?_);conv=>whnf));(focus (apply callpe_s (f:=64);(· repeat' (first|(refine sub_all ?_;simp[lms];done)|exact sub_map _ _ _ _|apply cons_eq|apply obj_eq|apply agg_eq|apply own_eq|apply ro_eq|apply rp_eq|apply fnc_eq|rfl));refine callp_s (f:=64) rfl (k1 ..) ?_;conv=>whnf));iterate 8 (first|(apply rq_s rfl;conv=>whnf)|(refine rows_s (sub_all (by solve|simp[lms]|fail)) ?_;conv=>whnf)|(refine fac_s (fun hf=> ?_);conv=>whnf)|(refine aftp_s (by rfl) ?_;conv=>whnf)|(exact True.intro))
 all_goals skip
theorem primM1(p:Nat)(hp:39≤p∧p≤50)(et:takesN p=1)(eb:backN p=0)(d:Dat)(r:List Int)(c:Int)(fl:Int)(h:Dk d)(hs:d.st=r++[c])(hb0:d.bk.length≤32)(hf:0≤fl∧fl≤d.bk.length)(y:Dat × Int)(k1:Con Tryz.prog 64 [.obj (datC {d with st:=r}),.int .i64 p,.int .i64 0,.int .i64 c] [.obj (datC y.1),.undef,.undef,.undef] (.int .i64 y.2)):Con Tryz.prog 36 [.obj (datC d),.int .i64 p,.int .i64 fl] [.obj (datC y.1),.undef,.undef] (.int .i64 y.2):=by
 have kt:Con Tryz.prog 45 [.int .i64 p] (undefs [.int .i64 p]) (.int .i64 1):=by
  have k:=c45 p (by unfold P52;omega)
  rw[et]at k;exact k
 have kk:Con Tryz.prog 59 [.int .i64 p] (undefs [.int .i64 p]) (.int .i64 0):=by
  have k:=c59 p (by unfold P52;omega)
  rw[eb]at k;exact k
 have hst:=h.st
 have hl:d.st.length=r.length+1:=by rw[hs];simp
 have g0:decide ((((d.st.map intR).length:Nat):Int)<1)=false:=by rw[List.length_map];exact decide_eq_false (by omega)
 have wf:IntKind.i64.wrap ((((d.bk.map intR).length:Nat):Int)-fl)=(d.bk.length:Int)-fl:=by rw[List.length_map];exact wrap64 (by omega) (by omega)
 have g1:decide (IntKind.i64.wrap ((((d.bk.map intR).length:Nat):Int)-fl)<0)=false:=by rw[wf];exact decide_eq_false (by omega)
 have w2:IntKind.i64.wrap ((((d.st.map intR).length:Nat):Int)-1)=(r.length:Int):=by rw[List.length_map,wrap64 (by omega) (by omega)];omega
 have er:List.take ((IntKind.i64.wrap ((((d.st.map intR).length:Nat):Int)-1)).toNat-0) (List.drop (0+0) d.st)=r:=by rw[w2,hs];simp
 have q0:inR (p:Int) 15 24=false:=by simp[inR];omega
 have q1:((p:Int)==1)=false:=by simp;omega
 have q2:((p:Int)==2)=false:=by simp;omega
 have q3:((p:Int)==10)=false:=by simp;omega
 have q4:((p:Int)==3)=false:=by simp;omega
 have q5:((p:Int)==4)=false:=by simp;omega
 have q6:((p:Int)==5)=false:=by simp;omega
 have q7:((p:Int)==6)=false:=by simp;omega
 have q8:((p:Int)==7)=false:=by simp;omega
 have q9:((p:Int)==8)=false:=by simp;omega
 have q10:((p:Int)==9)=false:=by simp;omega
 have q11:((p:Int)==11)=false:=by simp;omega
 have q12:((p:Int)==12)=false:=by simp;omega
 have q13:((p:Int)==13)=false:=by simp;omega
 have q14:((p:Int)==14)=false:=by simp;omega
 have q15:((p:Int)==51)=false:=by simp;omega
 have q16:((p:Int)==52)=false:=by simp;omega
 have q17:inR (p:Int) 25 38=false:=by simp[inR];omega
 rw[←er]at k1
 refine Con.evP 242 [500000] rfl T_ok mix Tryz.func36 rfl rfl rfl rfl [.tmp 6] rfl ?_
 conv=>whnf
 (iterate 115 ((first|refine rq_s (by solve|simp only[lms]|fail) ?_|apply rq_s rfl|refine rq_s (by rw[w2];first|exact decide_eq_true (by omega)|(rw[List.length_map];first|exact decide_eq_true (by omega)|(simp;omega))) ?_|refine row_s (by(rfl)) ?_|refine rows_s (by(exact(show _=z3 from rfl))) ?_|refine rows_s (by(exact cp1 hs w2)) ?_|refine fac_s (fun hf=> ?_)|refine ChkS.mk (by kernel_rfl) ?_|refine br_f (by assumption) ?_|apply lend_s|refine call_s (kt ..) ?_|refine call_s (kk ..) ?_);conv=>whnf));(iterate 29 ((first|apply rq_s rfl|refine br_f (by assumption) ?_|refine handp_s 64 [some 6,none,none,none] ?_|apply lend_s|refine call_s (c33 ..) ?_);conv=>whnf));(focus (apply callpe_s (f:=64);(· repeat' (first|(refine sub_all ?_;simp[lms];done)|exact sub_map _ _ _ _|apply cons_eq|apply obj_eq|apply agg_eq|apply own_eq|apply ro_eq|apply rp_eq|apply fnc_eq|rfl));refine callp_s (f:=64) rfl (k1 ..) ?_;conv=>whnf));iterate 8 (first|(apply rq_s rfl;conv=>whnf)|(refine rows_s (sub_all (by solve|simp[lms]|fail)) ?_;conv=>whnf)|(refine fac_s (fun hf=> ?_);conv=>whnf)|(refine aftp_s (by rfl) ?_;conv=>whnf)|(exact True.intro))
 all_goals skip
theorem primM2(p:Nat)(hp:39≤p∧p≤50)(et:takesN p=2)(eb:backN p=0)(d:Dat)(r:List Int)(b:Int)(c:Int)(fl:Int)(h:Dk d)(hs:d.st=r++[b,c])(hb0:d.bk.length≤32)(hf:0≤fl∧fl≤d.bk.length)(y:Dat × Int)(k1:Con Tryz.prog 64 [.obj (datC {d with st:=r}),.int .i64 p,.int .i64 b,.int .i64 c] [.obj (datC y.1),.undef,.undef,.undef] (.int .i64 y.2)):Con Tryz.prog 36 [.obj (datC d),.int .i64 p,.int .i64 fl] [.obj (datC y.1),.undef,.undef] (.int .i64 y.2):=by
 have kt:Con Tryz.prog 45 [.int .i64 p] (undefs [.int .i64 p]) (.int .i64 2):=by
  have k:=c45 p (by unfold P52;omega)
  rw[et]at k;exact k
 have kk:Con Tryz.prog 59 [.int .i64 p] (undefs [.int .i64 p]) (.int .i64 0):=by
  have k:=c59 p (by unfold P52;omega)
  rw[eb]at k;exact k
 have hst:=h.st
 have hl:d.st.length=r.length+2:=by rw[hs];simp
 have g0:decide ((((d.st.map intR).length:Nat):Int)<2)=false:=by rw[List.length_map];exact decide_eq_false (by omega)
 have wf:IntKind.i64.wrap ((((d.bk.map intR).length:Nat):Int)-fl)=(d.bk.length:Int)-fl:=by rw[List.length_map];exact wrap64 (by omega) (by omega)
 have g1:decide (IntKind.i64.wrap ((((d.bk.map intR).length:Nat):Int)-fl)<0)=false:=by rw[wf];exact decide_eq_false (by omega)
 have w2:IntKind.i64.wrap ((((d.st.map intR).length:Nat):Int)-2)=(r.length:Int):=by rw[List.length_map,wrap64 (by omega) (by omega)];omega
 have er:List.take ((IntKind.i64.wrap ((((d.st.map intR).length:Nat):Int)-2)).toNat-0) (List.drop (0+0) d.st)=r:=by rw[w2,hs];simp
 have q0:inR (p:Int) 15 24=false:=by simp[inR];omega
 have q1:((p:Int)==1)=false:=by simp;omega
 have q2:((p:Int)==2)=false:=by simp;omega
 have q3:((p:Int)==10)=false:=by simp;omega
 have q4:((p:Int)==3)=false:=by simp;omega
 have q5:((p:Int)==4)=false:=by simp;omega
 have q6:((p:Int)==5)=false:=by simp;omega
 have q7:((p:Int)==6)=false:=by simp;omega
 have q8:((p:Int)==7)=false:=by simp;omega
 have q9:((p:Int)==8)=false:=by simp;omega
 have q10:((p:Int)==9)=false:=by simp;omega
 have q11:((p:Int)==11)=false:=by simp;omega
 have q12:((p:Int)==12)=false:=by simp;omega
 have q13:((p:Int)==13)=false:=by simp;omega
 have q14:((p:Int)==14)=false:=by simp;omega
 have q15:((p:Int)==51)=false:=by simp;omega
 have q16:((p:Int)==52)=false:=by simp;omega
 have q17:inR (p:Int) 25 38=false:=by simp[inR];omega
 rw[←er]at k1
 refine Con.evP 242 [500000] rfl T_ok mix Tryz.func36 rfl rfl rfl rfl [.tmp 6] rfl ?_
 conv=>whnf
 (iterate 115 ((first|refine rq_s (by solve|simp only[lms]|fail) ?_|apply rq_s rfl|refine rq_s (by rw[w2];first|exact decide_eq_true (by omega)|(rw[List.length_map];first|exact decide_eq_true (by omega)|(simp;omega))) ?_|refine row_s (by(rfl)) ?_|refine rows_s (by(exact(show _=z3 from rfl))) ?_|refine rows_s (by(exact cp2 hs w2)) ?_|refine fac_s (fun hf=> ?_)|refine ChkS.mk (by kernel_rfl) ?_|refine br_f (by assumption) ?_|apply lend_s|refine call_s (kt ..) ?_|refine call_s (kk ..) ?_);conv=>whnf));(iterate 29 ((first|apply rq_s rfl|refine br_f (by assumption) ?_|refine handp_s 64 [some 6,none,none,none] ?_|apply lend_s|refine call_s (c33 ..) ?_);conv=>whnf));(focus (apply callpe_s (f:=64);(· repeat' (first|(refine sub_all ?_;simp[lms];done)|exact sub_map _ _ _ _|apply cons_eq|apply obj_eq|apply agg_eq|apply own_eq|apply ro_eq|apply rp_eq|apply fnc_eq|rfl));refine callp_s (f:=64) rfl (k1 ..) ?_;conv=>whnf));iterate 8 (first|(apply rq_s rfl;conv=>whnf)|(refine rows_s (sub_all (by solve|simp[lms]|fail)) ?_;conv=>whnf)|(refine fac_s (fun hf=> ?_);conv=>whnf)|(refine aftp_s (by rfl) ?_;conv=>whnf)|(exact True.intro))
 all_goals skip
theorem prim39(d:Dat)(r:List Int)(a b c:Int)(fl:Int)(h:Dk d)(hs:d.st=r++[c])(hb0:d.bk.length≤32)(hf:0≤fl∧fl≤d.bk.length)(hk:0≤(d.bk.length:Int)-fl)(qb: -2147483648≤b∧b≤2147483647)(qc: -2147483648≤c∧c≤2147483647):Con Tryz.prog 36 [.obj (datC d),.int .i64 39,.int .i64 fl] [.obj (datC (primR TX 39 d r a b c).1),.undef,.undef] (.int .i64 (primR TX 39 d r a b c).2):=by
 have hst:=h.st
 have hl:d.st.length=r.length+1:=by rw[hs];simp
 have hd2:Dk {d with st:=r}:=⟨h.he,h.ce,by simp only;omega,h.ou,h.ba,h.cs⟩
 exact primM1 39 (by omega) rfl rfl d r c fl h hs hb0 hf (memR 39 {d with st:=r} 0 c) (mem39 {d with st:=r} 0 c hd2 qc)
theorem prim40(d:Dat)(r:List Int)(a b c:Int)(fl:Int)(h:Dk d)(hs:d.st=r++[b,c])(hb0:d.bk.length≤32)(hf:0≤fl∧fl≤d.bk.length)(hk:0≤(d.bk.length:Int)-fl)(qb: -2147483648≤b∧b≤2147483647)(qc: -2147483648≤c∧c≤2147483647):Con Tryz.prog 36 [.obj (datC d),.int .i64 40,.int .i64 fl] [.obj (datC (primR TX 40 d r a b c).1),.undef,.undef] (.int .i64 (primR TX 40 d r a b c).2):=by
 have hst:=h.st
 have hl:d.st.length=r.length+2:=by rw[hs];simp
 have hd2:Dk {d with st:=r}:=⟨h.he,h.ce,by simp only;omega,h.ou,h.ba,h.cs⟩
 exact primM2 40 (by omega) rfl rfl d r b c fl h hs hb0 hf (memR 40 {d with st:=r} b c) (mem40 {d with st:=r} b c hd2 qb qc)
theorem prim41(d:Dat)(r:List Int)(a b c:Int)(fl:Int)(h:Dk d)(hs:d.st=r++[b,c])(hb0:d.bk.length≤32)(hf:0≤fl∧fl≤d.bk.length)(hk:0≤(d.bk.length:Int)-fl)(qb: -2147483648≤b∧b≤2147483647)(qc: -2147483648≤c∧c≤2147483647):Con Tryz.prog 36 [.obj (datC d),.int .i64 41,.int .i64 fl] [.obj (datC (primR TX 41 d r a b c).1),.undef,.undef] (.int .i64 (primR TX 41 d r a b c).2):=by
 have hst:=h.st
 have hl:d.st.length=r.length+2:=by rw[hs];simp
 have hd2:Dk {d with st:=r}:=⟨h.he,h.ce,by simp only;omega,h.ou,h.ba,h.cs⟩
 exact primM2 41 (by omega) rfl rfl d r b c fl h hs hb0 hf (memR 41 {d with st:=r} b c) (mem41 {d with st:=r} b c hd2 qb qc)
theorem prim42(d:Dat)(r:List Int)(a b c:Int)(fl:Int)(h:Dk d)(hs:d.st=r++[])(hb0:d.bk.length≤32)(hf:0≤fl∧fl≤d.bk.length)(hk:0≤(d.bk.length:Int)-fl)(qb: -2147483648≤b∧b≤2147483647)(qc: -2147483648≤c∧c≤2147483647):Con Tryz.prog 36 [.obj (datC d),.int .i64 42,.int .i64 fl] [.obj (datC (primR TX 42 d r a b c).1),.undef,.undef] (.int .i64 (primR TX 42 d r a b c).2):=by
 have hst:=h.st
 have hl:d.st.length=r.length+0:=by rw[hs];simp
 have hd2:Dk {d with st:=r}:=⟨h.he,h.ce,by simp only;omega,h.ou,h.ba,h.cs⟩
 exact primM0 42 (by omega) rfl rfl d r fl h hs hb0 hf (memR 42 {d with st:=r} 0 0) (mem42 {d with st:=r} 0 0 hd2 (by omega) (by omega))
theorem prim43(d:Dat)(r:List Int)(a b c:Int)(fl:Int)(h:Dk d)(hs:d.st=r++[c])(hb0:d.bk.length≤32)(hf:0≤fl∧fl≤d.bk.length)(hk:0≤(d.bk.length:Int)-fl)(qb: -2147483648≤b∧b≤2147483647)(qc: -2147483648≤c∧c≤2147483647):Con Tryz.prog 36 [.obj (datC d),.int .i64 43,.int .i64 fl] [.obj (datC (primR TX 43 d r a b c).1),.undef,.undef] (.int .i64 (primR TX 43 d r a b c).2):=by
 have hst:=h.st
 have hl:d.st.length=r.length+1:=by rw[hs];simp
 have hd2:Dk {d with st:=r}:=⟨h.he,h.ce,by simp only;omega,h.ou,h.ba,h.cs⟩
 exact primM1 43 (by omega) rfl rfl d r c fl h hs hb0 hf (memR 43 {d with st:=r} 0 c) (mem43 {d with st:=r} 0 c hd2 (by omega) qc)
theorem prim44(d:Dat)(r:List Int)(a b c:Int)(fl:Int)(h:Dk d)(hs:d.st=r++[c])(hb0:d.bk.length≤32)(hf:0≤fl∧fl≤d.bk.length)(hk:0≤(d.bk.length:Int)-fl)(qb: -2147483648≤b∧b≤2147483647)(qc: -2147483648≤c∧c≤2147483647):Con Tryz.prog 36 [.obj (datC d),.int .i64 44,.int .i64 fl] [.obj (datC (primR TX 44 d r a b c).1),.undef,.undef] (.int .i64 (primR TX 44 d r a b c).2):=by
 have hst:=h.st
 have hl:d.st.length=r.length+1:=by rw[hs];simp
 have hd2:Dk {d with st:=r}:=⟨h.he,h.ce,by simp only;omega,h.ou,h.ba,h.cs⟩
 exact primM1 44 (by omega) rfl rfl d r c fl h hs hb0 hf (memR 44 {d with st:=r} 0 c) (mem44 {d with st:=r} 0 c hd2 (by omega) qc)
theorem prim45(d:Dat)(r:List Int)(a b c:Int)(fl:Int)(h:Dk d)(hs:d.st=r++[c])(hb0:d.bk.length≤32)(hf:0≤fl∧fl≤d.bk.length)(hk:0≤(d.bk.length:Int)-fl)(qb: -2147483648≤b∧b≤2147483647)(qc: -2147483648≤c∧c≤2147483647):Con Tryz.prog 36 [.obj (datC d),.int .i64 45,.int .i64 fl] [.obj (datC (primR TX 45 d r a b c).1),.undef,.undef] (.int .i64 (primR TX 45 d r a b c).2):=by
 have hst:=h.st
 have hl:d.st.length=r.length+1:=by rw[hs];simp
 have hd2:Dk {d with st:=r}:=⟨h.he,h.ce,by simp only;omega,h.ou,h.ba,h.cs⟩
 exact primM1 45 (by omega) rfl rfl d r c fl h hs hb0 hf (memR 45 {d with st:=r} 0 c) (mem45 {d with st:=r} 0 c hd2 (by omega) qc)
theorem prim46(d:Dat)(r:List Int)(a b c:Int)(fl:Int)(h:Dk d)(hs:d.st=r++[c])(hb0:d.bk.length≤32)(hf:0≤fl∧fl≤d.bk.length)(hk:0≤(d.bk.length:Int)-fl)(qb: -2147483648≤b∧b≤2147483647)(qc: -2147483648≤c∧c≤2147483647):Con Tryz.prog 36 [.obj (datC d),.int .i64 46,.int .i64 fl] [.obj (datC (primR TX 46 d r a b c).1),.undef,.undef] (.int .i64 (primR TX 46 d r a b c).2):=by
 have hst:=h.st
 have hl:d.st.length=r.length+1:=by rw[hs];simp
 have hd2:Dk {d with st:=r}:=⟨h.he,h.ce,by simp only;omega,h.ou,h.ba,h.cs⟩
 exact primM1 46 (by omega) rfl rfl d r c fl h hs hb0 hf (memR 46 {d with st:=r} 0 c) (mem46 {d with st:=r} 0 c hd2 (by omega) qc)
theorem prim47(d:Dat)(r:List Int)(a b c:Int)(fl:Int)(h:Dk d)(hs:d.st=r++[])(hb0:d.bk.length≤32)(hf:0≤fl∧fl≤d.bk.length)(hk:0≤(d.bk.length:Int)-fl)(qb: -2147483648≤b∧b≤2147483647)(qc: -2147483648≤c∧c≤2147483647):Con Tryz.prog 36 [.obj (datC d),.int .i64 47,.int .i64 fl] [.obj (datC (primR TX 47 d r a b c).1),.undef,.undef] (.int .i64 (primR TX 47 d r a b c).2):=by
 have hst:=h.st
 have hl:d.st.length=r.length+0:=by rw[hs];simp
 have hd2:Dk {d with st:=r}:=⟨h.he,h.ce,by simp only;omega,h.ou,h.ba,h.cs⟩
 exact primM0 47 (by omega) rfl rfl d r fl h hs hb0 hf (memR 47 {d with st:=r} 0 0) (mem47 {d with st:=r} 0 0 hd2 (by omega) (by omega))
theorem prim48(d:Dat)(r:List Int)(a b c:Int)(fl:Int)(h:Dk d)(hs:d.st=r++[])(hb0:d.bk.length≤32)(hf:0≤fl∧fl≤d.bk.length)(hk:0≤(d.bk.length:Int)-fl)(qb: -2147483648≤b∧b≤2147483647)(qc: -2147483648≤c∧c≤2147483647):Con Tryz.prog 36 [.obj (datC d),.int .i64 48,.int .i64 fl] [.obj (datC (primR TX 48 d r a b c).1),.undef,.undef] (.int .i64 (primR TX 48 d r a b c).2):=by
 have hst:=h.st
 have hl:d.st.length=r.length+0:=by rw[hs];simp
 have hd2:Dk {d with st:=r}:=⟨h.he,h.ce,by simp only;omega,h.ou,h.ba,h.cs⟩
 exact primM0 48 (by omega) rfl rfl d r fl h hs hb0 hf (memR 48 {d with st:=r} 0 0) (mem48 {d with st:=r} 0 0 hd2 (by omega) (by omega))
theorem prim49(d:Dat)(r:List Int)(a b c:Int)(fl:Int)(h:Dk d)(hs:d.st=r++[])(hb0:d.bk.length≤32)(hf:0≤fl∧fl≤d.bk.length)(hk:0≤(d.bk.length:Int)-fl)(qb: -2147483648≤b∧b≤2147483647)(qc: -2147483648≤c∧c≤2147483647):Con Tryz.prog 36 [.obj (datC d),.int .i64 49,.int .i64 fl] [.obj (datC (primR TX 49 d r a b c).1),.undef,.undef] (.int .i64 (primR TX 49 d r a b c).2):=by
 have hst:=h.st
 have hl:d.st.length=r.length+0:=by rw[hs];simp
 have hd2:Dk {d with st:=r}:=⟨h.he,h.ce,by simp only;omega,h.ou,h.ba,h.cs⟩
 exact primM0 49 (by omega) rfl rfl d r fl h hs hb0 hf (memR 49 {d with st:=r} 0 0) (mem49 {d with st:=r} 0 0 hd2 (by omega) (by omega))
theorem prim50(d:Dat)(r:List Int)(a b c:Int)(fl:Int)(h:Dk d)(hs:d.st=r++[])(hb0:d.bk.length≤32)(hf:0≤fl∧fl≤d.bk.length)(hk:0≤(d.bk.length:Int)-fl)(qb: -2147483648≤b∧b≤2147483647)(qc: -2147483648≤c∧c≤2147483647):Con Tryz.prog 36 [.obj (datC d),.int .i64 50,.int .i64 fl] [.obj (datC (primR TX 50 d r a b c).1),.undef,.undef] (.int .i64 (primR TX 50 d r a b c).2):=by
 have hst:=h.st
 have hl:d.st.length=r.length+0:=by rw[hs];simp
 have hd2:Dk {d with st:=r}:=⟨h.he,h.ce,by simp only;omega,h.ou,h.ba,h.cs⟩
 exact primM0 50 (by omega) rfl rfl d r fl h hs hb0 hf (memR 50 {d with st:=r} 0 0) (mem50 {d with st:=r} 0 0 hd2 (by omega) (by omega))
end P7

/- Prims on the other stack, in place, by the program; contracts. -/
open Go Go.Abs Go.Proofs V1 H1 F1 F2 T1 T2 T3 P1 P2 P3 P4 P5
namespace P8
theorem prim11(d:Dat)(r:List Int)(a b c:Int)(fl:Int)(h:Dk d)(hs:d.st=r++[])(hb0:d.bk.length≤32)(hf:0≤fl∧fl≤d.bk.length)(hk:0≤(d.bk.length:Int)-fl)(qb: -2147483648≤b∧b≤2147483647)(qc: -2147483648≤c∧c≤2147483647):Con Tryz.prog 36 [.obj (datC d),.int .i64 11,.int .i64 fl] [.obj (datC (primR TX 11 d r a b c).1),.undef,.undef] (.int .i64 (primR TX 11 d r a b c).2):=by
 have kt:Con Tryz.prog 45 [.int .i64 11] (undefs [.int .i64 11]) (.int .i64 0):=c45 11 (by unfold P52;omega)
 have kk:Con Tryz.prog 59 [.int .i64 11] (undefs [.int .i64 11]) (.int .i64 0):=c59 11 (by unfold P52;omega)
 have hst:=h.st
 have hl:d.st.length=r.length+0:=by rw[hs];simp
 have g0:decide ((((d.st.map intR).length:Nat):Int)<0)=false:=by rw[List.length_map];exact decide_eq_false (by omega)
 have wf:IntKind.i64.wrap ((((d.bk.map intR).length:Nat):Int)-fl)=(d.bk.length:Int)-fl:=by rw[List.length_map];exact wrap64 (by omega) (by omega)
 have g1:decide (IntKind.i64.wrap ((((d.bk.map intR).length:Nat):Int)-fl)<0)=false:=by rw[wf];exact decide_eq_false (by omega)
 have w2:IntKind.i64.wrap ((((d.st.map intR).length:Nat):Int)-0)=(r.length:Int):=by rw[List.length_map,wrap64 (by omega) (by omega)];omega
 have er:List.take ((IntKind.i64.wrap ((((d.st.map intR).length:Nat):Int)-0)).toNat-0) (List.drop (0+0) d.st)=r:=by rw[w2,hs];simp
 have ey:(((IntKind.i64.wrap ((((d.st.map intR).length:Nat):Int)-0)).toNat-0:Nat):Int)=(r.length:Int):=by rw[w2];omega
 have ex:(((List.take ((IntKind.i64.wrap ((((d.st.map intR).length:Nat):Int)-0)).toNat-0) (List.drop (0+0) d.st)).length:Nat):Int)=(((IntKind.i64.wrap ((((d.st.map intR).length:Nat):Int)-0)).toNat-0:Nat):Int):=by rw[ey,er]
 have k1:=c61 {d with st:=List.take ((IntKind.i64.wrap ((((d.st.map intR).length:Nat):Int)-0)).toNat-0) (List.drop (0+0) d.st)} [(((IntKind.i64.wrap ((((d.st.map intR).length:Nat):Int)-0)).toNat-0:Nat):Int)] (by rw[er];simp only;omega) (by simp)
 rw[←er]
 rw[show primR TX 11 d (List.take ((IntKind.i64.wrap ((((d.st.map intR).length:Nat):Int)-0)).toNat-0) (List.drop (0+0) d.st)) a b c=pushL {d with st:=List.take ((IntKind.i64.wrap ((((d.st.map intR).length:Nat):Int)-0)).toNat-0) (List.drop (0+0) d.st)} [(((IntKind.i64.wrap ((((d.st.map intR).length:Nat):Int)-0)).toNat-0:Nat):Int)]from by show putR d (List.take ((IntKind.i64.wrap ((((d.st.map intR).length:Nat):Int)-0)).toNat-0) (List.drop (0+0) d.st)) [(((List.take ((IntKind.i64.wrap ((((d.st.map intR).length:Nat):Int)-0)).toNat-0) (List.drop (0+0) d.st)).length:Nat):Int)]=_;rw[ex];rfl]
 refine Con.evP 242 [500000] rfl T_ok mix Tryz.func36 rfl rfl rfl rfl [.tmp 6] rfl ?_
 conv=>whnf
 (iterate 28 ((first|apply rq_s rfl|refine rows_s (by(exact(show _=z3 from rfl))) ?_|refine fac_s (fun hf=> ?_)|refine ChkS.mk (by kernel_rfl) ?_|apply br_f rfl|refine br_f (by assumption) ?_|apply lend_s|refine call_s (kt ..) ?_|refine call_s (kk ..) ?_);conv=>whnf));(iterate 106 ((first|refine rq_s (by solve|simp only[lms]|fail) ?_|apply rq_s rfl|refine rq_s (by rw[w2];first|exact decide_eq_true (by omega)|(rw[List.length_map];first|exact decide_eq_true (by omega)|(simp;omega))) ?_|refine row_s (by(rfl)) ?_|refine rows_s (by(exact cp0 hs w2)) ?_|refine ChkS.mk (by kernel_rfl) ?_|apply br_t rfl|apply br_f rfl|refine handp_s 61 [some 6,none] ?_|apply lend_s|refine call_s (c33 ..) ?_);conv=>whnf));(focus (apply callpe_s (f:=61);(· repeat' (first|(refine sub_all ?_;simp[lms];done)|exact sub_map _ _ _ _|apply cons_eq|apply obj_eq|apply agg_eq|apply own_eq|apply ro_eq|apply rp_eq|apply fnc_eq|rfl));refine callp_s (f:=61) rfl (k1 ..) ?_;conv=>whnf));iterate 8 (first|(apply rq_s rfl;conv=>whnf)|(refine rows_s (sub_all (by solve|simp[lms]|fail)) ?_;conv=>whnf)|(refine fac_s (fun hf=> ?_);conv=>whnf)|(refine aftp_s (by rfl) ?_;conv=>whnf)|(exact True.intro))
 all_goals skip
theorem prim14(d:Dat)(r:List Int)(a b c:Int)(fl:Int)(h:Dk d)(hs:d.st=r++[])(hb0:d.bk.length≤32)(hf:0≤fl∧fl≤d.bk.length)(hk:1≤(d.bk.length:Int)-fl)(qb: -2147483648≤b∧b≤2147483647)(qc: -2147483648≤c∧c≤2147483647):Con Tryz.prog 36 [.obj (datC d),.int .i64 14,.int .i64 fl] [.obj (datC (primR TX 14 d r a b c).1),.undef,.undef] (.int .i64 (primR TX 14 d r a b c).2):=by
 have kt:Con Tryz.prog 45 [.int .i64 14] (undefs [.int .i64 14]) (.int .i64 0):=c45 14 (by unfold P52;omega)
 have kk:Con Tryz.prog 59 [.int .i64 14] (undefs [.int .i64 14]) (.int .i64 1):=c59 14 (by unfold P52;omega)
 have hst:=h.st
 have hl:d.st.length=r.length+0:=by rw[hs];simp
 have g0:decide ((((d.st.map intR).length:Nat):Int)<0)=false:=by rw[List.length_map];exact decide_eq_false (by omega)
 have wf:IntKind.i64.wrap ((((d.bk.map intR).length:Nat):Int)-fl)=(d.bk.length:Int)-fl:=by rw[List.length_map];exact wrap64 (by omega) (by omega)
 have g1:decide (IntKind.i64.wrap ((((d.bk.map intR).length:Nat):Int)-fl)<1)=false:=by rw[wf];exact decide_eq_false (by omega)
 have w2:IntKind.i64.wrap ((((d.st.map intR).length:Nat):Int)-0)=(r.length:Int):=by rw[List.length_map,wrap64 (by omega) (by omega)];omega
 have er:List.take ((IntKind.i64.wrap ((((d.st.map intR).length:Nat):Int)-0)).toNat-0) (List.drop (0+0) d.st)=r:=by rw[w2,hs];simp
 have wl:(IntKind.i64.wrap ((((d.bk.map intR).length:Nat):Int)-1)).toNat=d.bk.length-1:=by rw[List.length_map,wrap64 (by omega) (by omega)];omega
 have wl2:IntKind.i64.wrap ((((d.bk.map intR).length:Nat):Int)-1)=((d.bk.length-1:Nat):Int):=by rw[List.length_map,wrap64 (by omega) (by omega)];omega
 have k1:=c61 {d with st:=List.take ((IntKind.i64.wrap ((((d.st.map intR).length:Nat):Int)-0)).toNat-0) (List.drop (0+0) d.st)} [d.bk.getD (d.bk.length-1) 0] (by rw[er];simp only;omega) (by simp)
 rw[←er]
 rw[show primR TX 14 d (List.take ((IntKind.i64.wrap ((((d.st.map intR).length:Nat):Int)-0)).toNat-0) (List.drop (0+0) d.st)) a b c=pushL {d with st:=List.take ((IntKind.i64.wrap ((((d.st.map intR).length:Nat):Int)-0)).toNat-0) (List.drop (0+0) d.st)} [d.bk.getD (d.bk.length-1) 0]from rfl]
 refine Con.evP 242 [500000] rfl T_ok mix Tryz.func36 rfl rfl rfl rfl [.tmp 6] rfl ?_
 conv=>whnf
 (iterate 28 ((first|apply rq_s rfl|refine rows_s (by(exact(show _=z3 from rfl))) ?_|refine fac_s (fun hf=> ?_)|refine ChkS.mk (by kernel_rfl) ?_|apply br_f rfl|refine br_f (by assumption) ?_|apply lend_s|refine call_s (kt ..) ?_|refine call_s (kk ..) ?_);conv=>whnf));(iterate 130 ((first|refine rq_s (by solve|simp only[lms]|fail) ?_|apply rq_s rfl|refine rq_s (by((first|(rw[w2];exact decide_eq_true (by omega))|(rw[w2,List.length_map];exact decide_eq_true (by omega))|(rw[w2,List.length_map];simp;omega)|(rw[wl2];exact decide_eq_true (by omega))|(refine and_s rfl ?_;rw[wl2,List.length_map];exact decide_eq_true (by omega))|(rw[wl2,List.length_map];simp;omega)))) ?_|refine row_s (by((try rewrite[Nat.zero_add]);rewrite[wl];exact row_map intR _ _ _ 0 (by omega))) ?_|refine row_s (by(rfl)) ?_|refine rows_s (by(exact cp0 hs w2)) ?_|refine ChkS.mk (by kernel_rfl) ?_|apply br_t rfl|apply br_f rfl|refine handp_s 61 [some 6,none] ?_|apply lend_s|refine call_s (c33 ..) ?_);conv=>whnf));(focus (apply callpe_s (f:=61);(· repeat' (first|(refine sub_all ?_;simp[lms];done)|exact sub_map _ _ _ _|apply cons_eq|apply obj_eq|apply agg_eq|apply own_eq|apply ro_eq|apply rp_eq|apply fnc_eq|rfl));refine callp_s (f:=61) rfl (k1 ..) ?_;conv=>whnf));iterate 10 (first|(apply rq_s rfl;conv=>whnf)|(refine rows_s (sub_all (by solve|simp[lms]|fail)) ?_;conv=>whnf)|(refine fac_s (fun hf=> ?_);conv=>whnf)|(refine ChkS.mk (by kernel_rfl) ?_;conv=>whnf)|(refine aftp_s (by rfl) ?_;conv=>whnf)|(exact True.intro))
 all_goals skip
theorem prim51(d:Dat)(r:List Int)(a b c:Int)(fl:Int)(h:Dk d)(hs:d.st=r++[])(hb0:d.bk.length≤32)(hf:0≤fl∧fl≤d.bk.length)(hk:1≤(d.bk.length:Int)-fl)(qb: -2147483648≤b∧b≤2147483647)(qc: -2147483648≤c∧c≤2147483647):Con Tryz.prog 36 [.obj (datC d),.int .i64 51,.int .i64 fl] [.obj (datC (primR TX 51 d r a b c).1),.undef,.undef] (.int .i64 (primR TX 51 d r a b c).2):=by
 have kt:Con Tryz.prog 45 [.int .i64 51] (undefs [.int .i64 51]) (.int .i64 0):=c45 51 (by unfold P52;omega)
 have kk:Con Tryz.prog 59 [.int .i64 51] (undefs [.int .i64 51]) (.int .i64 1):=c59 51 (by unfold P52;omega)
 have hst:=h.st
 have hl:d.st.length=r.length+0:=by rw[hs];simp
 have g0:decide ((((d.st.map intR).length:Nat):Int)<0)=false:=by rw[List.length_map];exact decide_eq_false (by omega)
 have wf:IntKind.i64.wrap ((((d.bk.map intR).length:Nat):Int)-fl)=(d.bk.length:Int)-fl:=by rw[List.length_map];exact wrap64 (by omega) (by omega)
 have g1:decide (IntKind.i64.wrap ((((d.bk.map intR).length:Nat):Int)-fl)<1)=false:=by rw[wf];exact decide_eq_false (by omega)
 have w2:IntKind.i64.wrap ((((d.st.map intR).length:Nat):Int)-0)=(r.length:Int):=by rw[List.length_map,wrap64 (by omega) (by omega)];omega
 have er:List.take ((IntKind.i64.wrap ((((d.st.map intR).length:Nat):Int)-0)).toNat-0) (List.drop (0+0) d.st)=r:=by rw[w2,hs];simp
 have wl:(IntKind.i64.wrap ((((d.bk.map intR).length:Nat):Int)-1)).toNat=d.bk.length-1:=by rw[List.length_map,wrap64 (by omega) (by omega)];omega
 have wl2:IntKind.i64.wrap ((((d.bk.map intR).length:Nat):Int)-1)=((d.bk.length-1:Nat):Int):=by rw[List.length_map,wrap64 (by omega) (by omega)];omega
 have k1:=c61 {d with st:=List.take ((IntKind.i64.wrap ((((d.st.map intR).length:Nat):Int)-0)).toNat-0) (List.drop (0+0) d.st)} [d.bk.getD (d.bk.length-1) 0] (by rw[er];simp only;omega) (by simp)
 rw[←er]
 rw[show primR TX 51 d (List.take ((IntKind.i64.wrap ((((d.st.map intR).length:Nat):Int)-0)).toNat-0) (List.drop (0+0) d.st)) a b c=pushL {d with st:=List.take ((IntKind.i64.wrap ((((d.st.map intR).length:Nat):Int)-0)).toNat-0) (List.drop (0+0) d.st)} [d.bk.getD (d.bk.length-1) 0]from rfl]
 refine Con.evP 242 [500000] rfl T_ok mix Tryz.func36 rfl rfl rfl rfl [.tmp 6] rfl ?_
 conv=>whnf
 (iterate 28 ((first|apply rq_s rfl|refine rows_s (by(exact(show _=z3 from rfl))) ?_|refine fac_s (fun hf=> ?_)|refine ChkS.mk (by kernel_rfl) ?_|apply br_f rfl|refine br_f (by assumption) ?_|apply lend_s|refine call_s (kt ..) ?_|refine call_s (kk ..) ?_);conv=>whnf));(iterate 130 ((first|refine rq_s (by solve|simp only[lms]|fail) ?_|apply rq_s rfl|refine rq_s (by((first|(rw[w2];exact decide_eq_true (by omega))|(rw[w2,List.length_map];exact decide_eq_true (by omega))|(rw[w2,List.length_map];simp;omega)|(rw[wl2];exact decide_eq_true (by omega))|(refine and_s rfl ?_;rw[wl2,List.length_map];exact decide_eq_true (by omega))|(rw[wl2,List.length_map];simp;omega)))) ?_|refine row_s (by((try rewrite[Nat.zero_add]);rewrite[wl];exact row_map intR _ _ _ 0 (by omega))) ?_|refine row_s (by(rfl)) ?_|refine rows_s (by(exact cp0 hs w2)) ?_|refine ChkS.mk (by kernel_rfl) ?_|apply br_t rfl|apply br_f rfl|refine handp_s 61 [some 6,none] ?_|apply lend_s|refine call_s (c33 ..) ?_);conv=>whnf));(focus (apply callpe_s (f:=61);(· repeat' (first|(refine sub_all ?_;simp[lms];done)|exact sub_map _ _ _ _|apply cons_eq|apply obj_eq|apply agg_eq|apply own_eq|apply ro_eq|apply rp_eq|apply fnc_eq|rfl));refine callp_s (f:=61) rfl (k1 ..) ?_;conv=>whnf));iterate 10 (first|(apply rq_s rfl;conv=>whnf)|(refine rows_s (sub_all (by solve|simp[lms]|fail)) ?_;conv=>whnf)|(refine fac_s (fun hf=> ?_);conv=>whnf)|(refine ChkS.mk (by kernel_rfl) ?_;conv=>whnf)|(refine aftp_s (by rfl) ?_;conv=>whnf)|(exact True.intro))
 all_goals skip
theorem prim13(d:Dat)(r:List Int)(a b c:Int)(fl:Int)(h:Dk d)(hs:d.st=r++[])(hb0:d.bk.length≤32)(hf:0≤fl∧fl≤d.bk.length)(hk:1≤(d.bk.length:Int)-fl)(qb: -2147483648≤b∧b≤2147483647)(qc: -2147483648≤c∧c≤2147483647):Con Tryz.prog 36 [.obj (datC d),.int .i64 13,.int .i64 fl] [.obj (datC (primR TX 13 d r a b c).1),.undef,.undef] (.int .i64 (primR TX 13 d r a b c).2):=by
 have kt:Con Tryz.prog 45 [.int .i64 13] (undefs [.int .i64 13]) (.int .i64 0):=c45 13 (by unfold P52;omega)
 have kk:Con Tryz.prog 59 [.int .i64 13] (undefs [.int .i64 13]) (.int .i64 1):=c59 13 (by unfold P52;omega)
 have hst:=h.st
 have hl:d.st.length=r.length+0:=by rw[hs];simp
 have g0:decide ((((d.st.map intR).length:Nat):Int)<0)=false:=by rw[List.length_map];exact decide_eq_false (by omega)
 have wf:IntKind.i64.wrap ((((d.bk.map intR).length:Nat):Int)-fl)=(d.bk.length:Int)-fl:=by rw[List.length_map];exact wrap64 (by omega) (by omega)
 have g1:decide (IntKind.i64.wrap ((((d.bk.map intR).length:Nat):Int)-fl)<1)=false:=by rw[wf];exact decide_eq_false (by omega)
 have w2:IntKind.i64.wrap ((((d.st.map intR).length:Nat):Int)-0)=(r.length:Int):=by rw[List.length_map,wrap64 (by omega) (by omega)];omega
 have er:List.take ((IntKind.i64.wrap ((((d.st.map intR).length:Nat):Int)-0)).toNat-0) (List.drop (0+0) d.st)=r:=by rw[w2,hs];simp
 have wl:(IntKind.i64.wrap ((((d.bk.map intR).length:Nat):Int)-1)).toNat=d.bk.length-1:=by rw[List.length_map,wrap64 (by omega) (by omega)];omega
 have wl2:IntKind.i64.wrap ((((d.bk.map intR).length:Nat):Int)-1)=((d.bk.length-1:Nat):Int):=by rw[List.length_map,wrap64 (by omega) (by omega)];omega
 have kd:=c62 {d with st:=List.take ((IntKind.i64.wrap ((((d.st.map intR).length:Nat):Int)-0)).toNat-0) (List.drop (0+0) d.st)} 1 hb0 (by simp only;omega)
 have k1:=c61 {d with st:=List.take ((IntKind.i64.wrap ((((d.st.map intR).length:Nat):Int)-0)).toNat-0) (List.drop (0+0) d.st),bk:=d.bk.take (d.bk.length-1)} [d.bk.getD (d.bk.length-1) 0] (by rw[er];simp only;omega) (by simp)
 rw[←er]
 rw[show primR TX 13 d (List.take ((IntKind.i64.wrap ((((d.st.map intR).length:Nat):Int)-0)).toNat-0) (List.drop (0+0) d.st)) a b c=pushL {d with st:=List.take ((IntKind.i64.wrap ((((d.st.map intR).length:Nat):Int)-0)).toNat-0) (List.drop (0+0) d.st),bk:=d.bk.take (d.bk.length-1)} [d.bk.getD (d.bk.length-1) 0]from rfl]
 refine Con.evP 242 [500000] rfl T_ok mix Tryz.func36 rfl rfl rfl rfl [.tmp 6] rfl ?_
 conv=>whnf
 (iterate 28 ((first|apply rq_s rfl|refine rows_s (by(exact(show _=z3 from rfl))) ?_|refine fac_s (fun hf=> ?_)|refine ChkS.mk (by kernel_rfl) ?_|apply br_f rfl|refine br_f (by assumption) ?_|apply lend_s|refine call_s (kt ..) ?_|refine call_s (kk ..) ?_);conv=>whnf));(iterate 125 ((first|refine rq_s (by solve|simp only[lms]|fail) ?_|apply rq_s rfl|refine rq_s (by((first|(rw[w2];exact decide_eq_true (by omega))|(rw[w2,List.length_map];exact decide_eq_true (by omega))|(rw[w2,List.length_map];simp;omega)|(rw[wl2];exact decide_eq_true (by omega))|(refine and_s rfl ?_;rw[wl2,List.length_map];exact decide_eq_true (by omega))|(rw[wl2,List.length_map];simp;omega)))) ?_|refine row_s (by((try rewrite[Nat.zero_add]);rewrite[wl];exact row_map intR _ _ _ 0 (by omega))) ?_|refine row_s (by(rfl)) ?_|refine rows_s (by(exact cp0 hs w2)) ?_|refine ChkS.mk (by kernel_rfl) ?_|apply br_t rfl|apply br_f rfl|refine handp_s 62 [some 6,none] ?_|apply lend_s|refine call_s (c33 ..) ?_);conv=>whnf));(focus (apply callpe_s (f:=62);(· repeat' (first|(refine sub_all ?_;simp[lms];done)|exact sub_map _ _ _ _|apply cons_eq|apply obj_eq|apply agg_eq|apply own_eq|apply ro_eq|apply rp_eq|apply fnc_eq|rfl));refine callp_s (f:=62) rfl (kd ..) ?_;conv=>whnf));(iterate 5 ((first|refine rq_s (by solve|simp only[lms]|fail) ?_|apply rq_s rfl|refine handp_s 61 [some 6,none] ?_);conv=>whnf));(focus (apply callpe_s (f:=61);(· repeat' (first|(refine sub_all ?_;simp[lms];done)|exact sub_map _ _ _ _|apply cons_eq|apply obj_eq|apply agg_eq|apply own_eq|apply ro_eq|apply rp_eq|apply fnc_eq|rfl));refine callp_s (f:=61) rfl (k1 ..) ?_;conv=>whnf));iterate 8 (first|(apply rq_s rfl;conv=>whnf)|(refine rows_s (sub_all (by solve|simp[lms]|fail)) ?_;conv=>whnf)|(refine fac_s (fun hf=> ?_);conv=>whnf)|(refine aftp_s (by rfl) ?_;conv=>whnf)|(exact True.intro))
 all_goals skip
theorem prim52(d:Dat)(r:List Int)(a b c:Int)(fl:Int)(h:Dk d)(hs:d.st=r++[])(hb0:d.bk.length≤32)(hf:0≤fl∧fl≤d.bk.length)(hk:2≤(d.bk.length:Int)-fl)(qb: -2147483648≤b∧b≤2147483647)(qc: -2147483648≤c∧c≤2147483647):Con Tryz.prog 36 [.obj (datC d),.int .i64 52,.int .i64 fl] [.obj (datC (primR TX 52 d r a b c).1),.undef,.undef] (.int .i64 (primR TX 52 d r a b c).2):=by
 have kt:Con Tryz.prog 45 [.int .i64 52] (undefs [.int .i64 52]) (.int .i64 0):=c45 52 (by unfold P52;omega)
 have kk:Con Tryz.prog 59 [.int .i64 52] (undefs [.int .i64 52]) (.int .i64 2):=c59 52 (by unfold P52;omega)
 have hst:=h.st
 have hl:d.st.length=r.length+0:=by rw[hs];simp
 have g0:decide ((((d.st.map intR).length:Nat):Int)<0)=false:=by rw[List.length_map];exact decide_eq_false (by omega)
 have wf:IntKind.i64.wrap ((((d.bk.map intR).length:Nat):Int)-fl)=(d.bk.length:Int)-fl:=by rw[List.length_map];exact wrap64 (by omega) (by omega)
 have g1:decide (IntKind.i64.wrap ((((d.bk.map intR).length:Nat):Int)-fl)<2)=false:=by rw[wf];exact decide_eq_false (by omega)
 have w2:IntKind.i64.wrap ((((d.st.map intR).length:Nat):Int)-0)=(r.length:Int):=by rw[List.length_map,wrap64 (by omega) (by omega)];omega
 have er:List.take ((IntKind.i64.wrap ((((d.st.map intR).length:Nat):Int)-0)).toNat-0) (List.drop (0+0) d.st)=r:=by rw[w2,hs];simp
 have kd:=c62 {d with st:=List.take ((IntKind.i64.wrap ((((d.st.map intR).length:Nat):Int)-0)).toNat-0) (List.drop (0+0) d.st)} 2 hb0 (by simp only;omega)
 rw[←er]
 refine Con.evP 242 [500000] rfl T_ok mix Tryz.func36 rfl rfl rfl rfl [.tmp 6] rfl ?_
 conv=>whnf
 (iterate 28 ((first|apply rq_s rfl|refine rows_s (by(exact(show _=z3 from rfl))) ?_|refine fac_s (fun hf=> ?_)|refine ChkS.mk (by kernel_rfl) ?_|apply br_f rfl|refine br_f (by assumption) ?_|apply lend_s|refine call_s (kt ..) ?_|refine call_s (kk ..) ?_);conv=>whnf));(iterate 108 ((first|refine rq_s (by solve|simp only[lms]|fail) ?_|apply rq_s rfl|refine rq_s (by rw[w2];first|exact decide_eq_true (by omega)|(rw[List.length_map];first|exact decide_eq_true (by omega)|(simp;omega))) ?_|refine row_s (by(rfl)) ?_|refine rows_s (by(exact cp0 hs w2)) ?_|refine ChkS.mk (by kernel_rfl) ?_|apply br_t rfl|apply br_f rfl|refine handp_s 62 [some 6,none] ?_|apply lend_s|refine call_s (c33 ..) ?_);conv=>whnf));(focus (apply callpe_s (f:=62);(· repeat' (first|(refine sub_all ?_;simp[lms];done)|exact sub_map _ _ _ _|apply cons_eq|apply obj_eq|apply agg_eq|apply own_eq|apply ro_eq|apply rp_eq|apply fnc_eq|rfl));refine callp_s (f:=62) rfl (kd ..) ?_;conv=>whnf));iterate 7 (first|(apply rq_s rfl;conv=>whnf)|(refine rows_s (sub_all (by solve|simp[lms]|fail)) ?_;conv=>whnf)|(refine aftp_s (by rfl) ?_;conv=>whnf)|(exact True.intro))
 all_goals skip
theorem prim12z(d:Dat)(r:List Int)(a b c:Int)(fl:Int)(h:Dk d)(hs:d.st=r++[c])(hb0:d.bk.length≤32)(hf:0≤fl∧fl≤d.bk.length)(hk:0≤(d.bk.length:Int)-fl)(qb: -2147483648≤b∧b≤2147483647)(qc: -2147483648≤c∧c≤2147483647)(h0:d.bk.length=32):Con Tryz.prog 36 [.obj (datC d),.int .i64 12,.int .i64 fl] [.obj (datC (primR TX 12 d r a b c).1),.undef,.undef] (.int .i64 (primR TX 12 d r a b c).2):=by
 have kt:Con Tryz.prog 45 [.int .i64 12] (undefs [.int .i64 12]) (.int .i64 1):=c45 12 (by unfold P52;omega)
 have kk:Con Tryz.prog 59 [.int .i64 12] (undefs [.int .i64 12]) (.int .i64 0):=c59 12 (by unfold P52;omega)
 have hst:=h.st
 have hl:d.st.length=r.length+1:=by rw[hs];simp
 have g0:decide ((((d.st.map intR).length:Nat):Int)<1)=false:=by rw[List.length_map];exact decide_eq_false (by omega)
 have wf:IntKind.i64.wrap ((((d.bk.map intR).length:Nat):Int)-fl)=(d.bk.length:Int)-fl:=by rw[List.length_map];exact wrap64 (by omega) (by omega)
 have g1:decide (IntKind.i64.wrap ((((d.bk.map intR).length:Nat):Int)-fl)<0)=false:=by rw[wf];exact decide_eq_false (by omega)
 have w2:IntKind.i64.wrap ((((d.st.map intR).length:Nat):Int)-1)=(r.length:Int):=by rw[List.length_map,wrap64 (by omega) (by omega)];omega
 have er:List.take ((IntKind.i64.wrap ((((d.st.map intR).length:Nat):Int)-1)).toNat-0) (List.drop (0+0) d.st)=r:=by rw[w2,hs];simp
 have g5:((((d.bk.map intR).length:Nat):Int)==32)=true:=by rw[List.length_map,h0];rfl
 rw[←er]
 rw[show primR TX 12 d (List.take ((IntKind.i64.wrap ((((d.st.map intR).length:Nat):Int)-1)).toNat-0) (List.drop (0+0) d.st)) a b c=({d with st:=List.take ((IntKind.i64.wrap ((((d.st.map intR).length:Nat):Int)-1)).toNat-0) (List.drop (0+0) d.st)},-5)from by simp only[primR];rw[if_pos h0]]
 refine Con.evP 242 [500000] rfl T_ok mix Tryz.func36 rfl rfl rfl rfl [.tmp 6] rfl ?_
 conv=>whnf
 (iterate 115 ((first|refine rq_s (by solve|simp only[lms]|fail) ?_|apply rq_s rfl|refine rq_s (by rw[w2];first|exact decide_eq_true (by omega)|(rw[List.length_map];first|exact decide_eq_true (by omega)|(simp;omega))) ?_|refine row_s (by(rfl)) ?_|refine rows_s (by(exact(show _=z3 from rfl))) ?_|refine rows_s (by(exact cp1 hs w2)) ?_|refine fac_s (fun hf=> ?_)|refine ChkS.mk (by kernel_rfl) ?_|refine br_f (by assumption) ?_|apply lend_s|refine call_s (kt ..) ?_|refine call_s (kk ..) ?_);conv=>whnf));iterate 23 (first|(apply rq_s rfl;conv=>whnf)|(refine rows_s (sub_all (by solve|simp[lms]|fail)) ?_;conv=>whnf)|(refine rows_s (by(exact sub_map _ _ _ _)) ?_;conv=>whnf)|(apply br_t rfl;conv=>whnf)|(apply br_f rfl;conv=>whnf)|(refine br_t (by assumption) ?_;conv=>whnf)|(refine call_s (c33 ..) ?_;conv=>whnf)|(refine aftp_s (by rfl) ?_;conv=>whnf)|(exact True.intro))
 all_goals skip
theorem prim12n(d:Dat)(r:List Int)(a b c:Int)(fl:Int)(h:Dk d)(hs:d.st=r++[c])(hb0:d.bk.length≤32)(hf:0≤fl∧fl≤d.bk.length)(hk:0≤(d.bk.length:Int)-fl)(qb: -2147483648≤b∧b≤2147483647)(qc: -2147483648≤c∧c≤2147483647)(h0: ¬d.bk.length=32):Con Tryz.prog 36 [.obj (datC d),.int .i64 12,.int .i64 fl] [.obj (datC (primR TX 12 d r a b c).1),.undef,.undef] (.int .i64 (primR TX 12 d r a b c).2):=by
 have kt:Con Tryz.prog 45 [.int .i64 12] (undefs [.int .i64 12]) (.int .i64 1):=c45 12 (by unfold P52;omega)
 have kk:Con Tryz.prog 59 [.int .i64 12] (undefs [.int .i64 12]) (.int .i64 0):=c59 12 (by unfold P52;omega)
 have hst:=h.st
 have hl:d.st.length=r.length+1:=by rw[hs];simp
 have g0:decide ((((d.st.map intR).length:Nat):Int)<1)=false:=by rw[List.length_map];exact decide_eq_false (by omega)
 have wf:IntKind.i64.wrap ((((d.bk.map intR).length:Nat):Int)-fl)=(d.bk.length:Int)-fl:=by rw[List.length_map];exact wrap64 (by omega) (by omega)
 have g1:decide (IntKind.i64.wrap ((((d.bk.map intR).length:Nat):Int)-fl)<0)=false:=by rw[wf];exact decide_eq_false (by omega)
 have w2:IntKind.i64.wrap ((((d.st.map intR).length:Nat):Int)-1)=(r.length:Int):=by rw[List.length_map,wrap64 (by omega) (by omega)];omega
 have er:List.take ((IntKind.i64.wrap ((((d.st.map intR).length:Nat):Int)-1)).toNat-0) (List.drop (0+0) d.st)=r:=by rw[w2,hs];simp
 have g5:((((d.bk.map intR).length:Nat):Int)==32)=false:=by rw[List.length_map];simp;omega
 rw[←er]
 rw[show primR TX 12 d (List.take ((IntKind.i64.wrap ((((d.st.map intR).length:Nat):Int)-1)).toNat-0) (List.drop (0+0) d.st)) a b c=({d with st:=List.take ((IntKind.i64.wrap ((((d.st.map intR).length:Nat):Int)-1)).toNat-0) (List.drop (0+0) d.st),bk:=d.bk++[c]},0)from by simp only[primR];rw[if_neg h0]]
 refine Con.evP 242 [500000] rfl T_ok mix Tryz.func36 rfl rfl rfl rfl [.tmp 6] rfl ?_
 conv=>whnf
 (iterate 28 ((first|apply rq_s rfl|refine rows_s (by(exact(show _=z3 from rfl))) ?_|refine fac_s (fun hf=> ?_)|refine ChkS.mk (by kernel_rfl) ?_|refine br_f (by assumption) ?_|apply lend_s|refine call_s (kt ..) ?_|refine call_s (kk ..) ?_);conv=>whnf));(iterate 113 ((first|refine rq_s (by solve|simp only[lms]|fail) ?_|apply rq_s rfl|refine rq_s (by((first|(rw[w2];exact decide_eq_true (by omega))|(rw[w2,List.length_map];exact decide_eq_true (by omega))|(rw[w2,List.length_map];simp;omega)|(simp[maxBytes,subA];omega)))) ?_|refine row_s (by(rfl)) ?_|refine rows_s (by(exact cp1 hs w2)) ?_|refine app0_s ?_|refine ChkS.mk (by kernel_rfl) ?_|apply br_t rfl|apply br_f rfl|refine br_f (by assumption) ?_|apply lend_s|refine call_s (c33 ..) ?_);conv=>whnf));iterate 4 ((first|refine rows_s (sub_all (by solve|simp[lms]|fail)) ?_|refine rows_s (by(exact sub_map _ _ _ _)) ?_|apply rows_s rfl|refine aftp_s (by rfl) ?_);conv=>whnf)
 rotate_left
 refine aftps_s (Sh.agg ⟨Sh.refl _,sh_eq ?_,Sh.refl _,Sh.refl _,Sh.refl _,Sh.refl _,trivial⟩) ?_
 ·simp[ownI,intR,subA,List.take_of_length_le]
 ·conv=>whnf
  exact True.intro
end P8

/- Every prim in place; ApplyPrim, by the program; contracts. -/
open Go Go.Abs Go.Proofs V1 H1 F1 F2 T1 T2 T3 P1 P2 P3 P4 P5 P6 P7 P8
namespace P9
theorem last1(l:List Int)(h:1≤l.length):l=l.take (l.length-1)++[l.getD (l.length-1) 0]:=by
 apply List.ext_getElem?
 intro i
 rw[List.getElem?_append]
 simp only[List.length_take,Nat.min_eq_left (show l.length-1≤l.length by omega)]
 by_cases h1:i<l.length-1
 ·rw[if_pos h1,List.getElem?_take,if_pos h1]
 ·rw[if_neg h1]
  by_cases h2:i=l.length-1
  ·subst h2
   simp[show l.length-1<l.length by omega]
  ·rw[List.getElem?_eq_none (by omega),List.getElem?_eq_none (by simp;omega)]
theorem last2(l:List Int)(h:2≤l.length):l=l.take (l.length-2)++[l.getD (l.length-2) 0,l.getD (l.length-1) 0]:=by
 have h1:=last1 l (by omega)
 have h2:=last1 (l.take (l.length-1)) (by simp;omega)
 have e1:(l.take (l.length-1)).length=l.length-1:=by simp
 rw[e1]at h2
 have e2:(l.take (l.length-1)).getD (l.length-1-1) 0=l.getD (l.length-2) 0:=by
  simp only[List.getD_eq_getElem?_getD]
  rw[List.getElem?_take,if_pos (by omega),show l.length-1-1=l.length-2 by omega]
 rw[e2,List.take_take,Nat.min_eq_left (by omega),show l.length-1-1=l.length-2 by omega]at h2
 conv=>lhs;rw[h1,h2]
 simp
theorem last3(l:List Int)(h:3≤l.length):l=l.take (l.length-3)++[l.getD (l.length-3) 0,l.getD (l.length-2) 0,l.getD (l.length-1) 0]:=by
 have h1:=last2 l (by omega)
 have h2:=last1 (l.take (l.length-2)) (by simp;omega)
 have e1:(l.take (l.length-2)).length=l.length-2:=by simp
 rw[e1]at h2
 have e2:(l.take (l.length-2)).getD (l.length-2-1) 0=l.getD (l.length-3) 0:=by
  simp only[List.getD_eq_getElem?_getD]
  rw[List.getElem?_take,if_pos (by omega),show l.length-2-1=l.length-3 by omega]
 rw[e2,List.take_take,Nat.min_eq_left (by omega),show l.length-2-1=l.length-3 by omega]at h2
 conv=>lhs;rw[h1,h2]
 simp
theorem cells_get{l:List Int}(h:cellsOK l=true)(i:Nat): -2147483648≤l.getD i 0∧l.getD i 0≤2147483647:=by
 by_cases hi:i<l.length
 ·have:=List.all_eq_true.1 h l[i] (List.getElem_mem hi)
  have e:l.getD i 0=l[i]:=by simp[hi]
  rw[e]
  exact inR_t this
 ·have e:l.getD i 0=0:=by simp[hi]
  rw[e];omega
theorem dk_of{d:Dat}(h:DataOk d):Dk d:=⟨h.he,h.ce,h.st,h.ou,h.ba,fun n hn=>inR_t (List.all_eq_true.1 h.cce n hn)⟩
theorem primU(p:Nat)(hp:P52 p)(d:Dat)(fl:Int)(h:d.st.length≤32)(hu:d.st.length<takesN p):Con Tryz.prog 36 [.obj (datC d),.int .i64 p,.int .i64 fl] [.obj (datC d),.undef,.undef] (.int .i64 (-4)):=by
 have g0:decide ((((d.st.map intR).length:Nat):Int)<((takesN p:Nat):Int))=true:=by rw[List.length_map];exact decide_eq_true (by omega)
 refine Con.evP 242 [500000] rfl T_ok mix Tryz.func36 rfl rfl rfl rfl [.tmp 6] rfl ?_
 conv=>whnf
 iterate 13 (first|(apply rq_s rfl;conv=>whnf)|(refine rows_s (sub_all (by solve|simp[lms]|fail)) ?_;conv=>whnf)|(refine fac_s (fun hf=> ?_);conv=>whnf)|(refine br_t (by assumption) ?_;conv=>whnf)|(apply lend_s;conv=>whnf)|(refine call_s (c45 p hp ..) ?_;conv=>whnf)|(refine aftp_s (by rfl) ?_;conv=>whnf)|(exact True.intro))
theorem primB(p:Nat)(hp:P52 p)(d:Dat)(fl:Int)(h:d.bk.length≤32)(hf:0≤fl∧fl≤d.bk.length)(hu: ¬d.st.length<takesN p)(hb:(d.bk.length:Int)-fl<backN p):Con Tryz.prog 36 [.obj (datC d),.int .i64 p,.int .i64 fl] [.obj (datC d),.undef,.undef] (.int .i64 (-6)):=by
 have g0:decide ((((d.st.map intR).length:Nat):Int)<((takesN p:Nat):Int))=false:=by rw[List.length_map];exact decide_eq_false (by omega)
 have wf:IntKind.i64.wrap ((((d.bk.map intR).length:Nat):Int)-fl)=(d.bk.length:Int)-fl:=by rw[List.length_map];exact wrap64 (by omega) (by omega)
 have g1:decide (IntKind.i64.wrap ((((d.bk.map intR).length:Nat):Int)-fl)<((backN p:Nat):Int))=true:=by rw[wf];exact decide_eq_true hb
 refine Con.evP 242 [500000] rfl T_ok mix Tryz.func36 rfl rfl rfl rfl [.tmp 6] rfl ?_
 conv=>whnf
 iterate 29 (first|(apply rq_s rfl;conv=>whnf)|(refine rows_s (sub_all (by solve|simp[lms]|fail)) ?_;conv=>whnf)|(refine fac_s (fun hf=> ?_);conv=>whnf)|(refine ChkS.mk (by kernel_rfl) ?_;conv=>whnf)|(refine br_t (by assumption) ?_;conv=>whnf)|(refine br_f (by assumption) ?_;conv=>whnf)|(apply lend_s;conv=>whnf)|(refine call_s (c45 p hp ..) ?_;conv=>whnf)|(refine call_s (c59 p hp ..) ?_;conv=>whnf)|(refine aftp_s (by rfl) ?_;conv=>whnf)|(exact True.intro))
theorem c36(p:Nat)(hp:P52 p)(d:Dat)(fl:Int)(h:DataOk d)(hf:0≤fl∧fl≤d.bk.length):Con Tryz.prog 36 [.obj (datC d),.int .i64 p,.int .i64 fl] [.obj (datC (primI TX p fl d).1),.undef,.undef] (.int .i64 (primI TX p fl d).2):=by
 by_cases hu:d.st.length<takesN p
 ·rw[primI,if_pos hu]
  exact primU p hp d fl h.st hu
 by_cases hb:(d.bk.length:Int)-fl<backN p
 ·rw[primI,if_neg hu,if_pos hb]
  exact primB p hp d fl h.bk hf hu hb
 rw[primI,if_neg hu,if_neg hb]
 have qb:=cells_get h.cst (d.st.length-2)
 have qc:=cells_get h.cst (d.st.length-1)
 have k:=dk_of h
 have hbk:=h.bk
 rcases all52 hp with rfl|rfl|rfl|rfl|rfl|rfl|rfl|rfl|rfl|rfl|rfl|rfl|rfl|rfl|rfl|rfl|rfl|rfl|rfl|rfl|rfl|rfl|rfl|rfl|rfl|rfl|rfl|rfl|rfl|rfl|rfl|rfl|rfl|rfl|rfl|rfl|rfl|rfl|rfl|rfl|rfl|rfl|rfl|rfl|rfl|rfl|rfl|rfl|rfl|rfl|rfl|rfl
 ·exact prim1 d _ _ _ _ fl k (last1 _ (Nat.le_of_not_lt hu)) hbk hf (Int.not_lt.1 hb) qb qc
 ·exact prim2 d _ _ _ _ fl k (last1 _ (Nat.le_of_not_lt hu)) hbk hf (Int.not_lt.1 hb) qb qc
 ·exact prim3 d _ _ _ _ fl k (last2 _ (Nat.le_of_not_lt hu)) hbk hf (Int.not_lt.1 hb) qb qc
 ·exact prim4 d _ _ _ _ fl k (last2 _ (Nat.le_of_not_lt hu)) hbk hf (Int.not_lt.1 hb) qb qc
 ·exact prim5 d _ _ _ _ fl k (last3 _ (Nat.le_of_not_lt hu)) hbk hf (Int.not_lt.1 hb) qb qc
 ·exact prim6 d _ _ _ _ fl k (last2 _ (Nat.le_of_not_lt hu)) hbk hf (Int.not_lt.1 hb) qb qc
 ·exact prim7 d _ _ _ _ fl k (last2 _ (Nat.le_of_not_lt hu)) hbk hf (Int.not_lt.1 hb) qb qc
 ·have hu:1≤d.st.length:=Nat.le_of_not_lt hu
  have hb2:0≤(d.bk.length:Int)-fl:=Int.not_lt.1 hb
  by_cases h0:d.st.getD (d.st.length-1) 0=0
  ·exact prim8z d _ _ _ _ fl k (last1 _ hu) hbk hf hb2 qb qc h0
  ·exact prim8n d _ _ _ _ fl k (last1 _ hu) hbk hf hb2 qb qc h0
 ·exact prim9 d _ _ _ _ fl k (last2 _ (Nat.le_of_not_lt hu)) hbk hf (Int.not_lt.1 hb) qb qc
 ·exact prim10 d _ _ _ _ fl k (last2 _ (Nat.le_of_not_lt hu)) hbk hf (Int.not_lt.1 hb) qb qc
 ·exact prim11 d _ _ _ _ fl k (by show d.st=List.take (d.st.length-0) d.st++[];simp) hbk hf (Int.not_lt.1 hb) qb qc
 ·have hu:1≤d.st.length:=Nat.le_of_not_lt hu
  have hb2:0≤(d.bk.length:Int)-fl:=Int.not_lt.1 hb
  by_cases h0:d.bk.length=32
  ·exact prim12z d _ _ _ _ fl k (last1 _ hu) hbk hf hb2 qb qc h0
  ·exact prim12n d _ _ _ _ fl k (last1 _ hu) hbk hf hb2 qb qc h0
 ·exact prim13 d _ _ _ _ fl k (by show d.st=List.take (d.st.length-0) d.st++[];simp) hbk hf (Int.not_lt.1 hb) qb qc
 ·exact prim14 d _ _ _ _ fl k (by show d.st=List.take (d.st.length-0) d.st++[];simp) hbk hf (Int.not_lt.1 hb) qb qc
 ·exact prim15 d _ _ _ _ fl k (last2 _ (Nat.le_of_not_lt hu)) hbk hf (Int.not_lt.1 hb) qb qc
 ·exact prim16 d _ _ _ _ fl k (last2 _ (Nat.le_of_not_lt hu)) hbk hf (Int.not_lt.1 hb) qb qc
 ·exact prim17 d _ _ _ _ fl k (last2 _ (Nat.le_of_not_lt hu)) hbk hf (Int.not_lt.1 hb) qb qc
 ·have hu:2≤d.st.length:=Nat.le_of_not_lt hu
  have hb2:0≤(d.bk.length:Int)-fl:=Int.not_lt.1 hb
  by_cases h0:d.st.getD (d.st.length-1) 0=0
  ·exact prim18z d _ _ _ _ fl k (last2 _ hu) hbk hf hb2 qb qc h0
  ·exact prim18n d _ _ _ _ fl k (last2 _ hu) hbk hf hb2 qb qc h0
 ·have hu:2≤d.st.length:=Nat.le_of_not_lt hu
  have hb2:0≤(d.bk.length:Int)-fl:=Int.not_lt.1 hb
  by_cases h0:d.st.getD (d.st.length-1) 0=0
  ·exact prim19z d _ _ _ _ fl k (last2 _ hu) hbk hf hb2 qb qc h0
  ·exact prim19n d _ _ _ _ fl k (last2 _ hu) hbk hf hb2 qb qc h0
 ·exact prim20 d _ _ _ _ fl k (last2 _ (Nat.le_of_not_lt hu)) hbk hf (Int.not_lt.1 hb) qb qc
 ·exact prim21 d _ _ _ _ fl k (last2 _ (Nat.le_of_not_lt hu)) hbk hf (Int.not_lt.1 hb) qb qc
 ·exact prim22 d _ _ _ _ fl k (last2 _ (Nat.le_of_not_lt hu)) hbk hf (Int.not_lt.1 hb) qb qc
 ·exact prim23 d _ _ _ _ fl k (last2 _ (Nat.le_of_not_lt hu)) hbk hf (Int.not_lt.1 hb) qb qc
 ·exact prim24 d _ _ _ _ fl k (last2 _ (Nat.le_of_not_lt hu)) hbk hf (Int.not_lt.1 hb) qb qc
 ·exact prim25 d _ _ _ _ fl k (last1 _ (Nat.le_of_not_lt hu)) hbk hf (Int.not_lt.1 hb) qb qc
 ·exact prim26 d _ _ _ _ fl k (last1 _ (Nat.le_of_not_lt hu)) hbk hf (Int.not_lt.1 hb) qb qc
 ·exact prim27 d _ _ _ _ fl k (last1 _ (Nat.le_of_not_lt hu)) hbk hf (Int.not_lt.1 hb) qb qc
 ·exact prim28 d _ _ _ _ fl k (last1 _ (Nat.le_of_not_lt hu)) hbk hf (Int.not_lt.1 hb) qb qc
 ·exact prim29 d _ _ _ _ fl k (last1 _ (Nat.le_of_not_lt hu)) hbk hf (Int.not_lt.1 hb) qb qc
 ·exact prim30 d _ _ _ _ fl k (last2 _ (Nat.le_of_not_lt hu)) hbk hf (Int.not_lt.1 hb) qb qc
 ·exact prim31 d _ _ _ _ fl k (last2 _ (Nat.le_of_not_lt hu)) hbk hf (Int.not_lt.1 hb) qb qc
 ·exact prim32 d _ _ _ _ fl k (last2 _ (Nat.le_of_not_lt hu)) hbk hf (Int.not_lt.1 hb) qb qc
 ·exact prim33 d _ _ _ _ fl k (last2 _ (Nat.le_of_not_lt hu)) hbk hf (Int.not_lt.1 hb) qb qc
 ·exact prim34 d _ _ _ _ fl k (last2 _ (Nat.le_of_not_lt hu)) hbk hf (Int.not_lt.1 hb) qb qc
 ·exact prim35 d _ _ _ _ fl k (last2 _ (Nat.le_of_not_lt hu)) hbk hf (Int.not_lt.1 hb) qb qc
 ·exact prim36 d _ _ _ _ fl k (last2 _ (Nat.le_of_not_lt hu)) hbk hf (Int.not_lt.1 hb) qb qc
 ·exact prim37 d _ _ _ _ fl k (last1 _ (Nat.le_of_not_lt hu)) hbk hf (Int.not_lt.1 hb) qb qc
 ·exact prim38 d _ _ _ _ fl k (last1 _ (Nat.le_of_not_lt hu)) hbk hf (Int.not_lt.1 hb) qb qc
 ·exact prim39 d _ _ _ _ fl k (last1 _ (Nat.le_of_not_lt hu)) hbk hf (Int.not_lt.1 hb) qb qc
 ·exact prim40 d _ _ _ _ fl k (last2 _ (Nat.le_of_not_lt hu)) hbk hf (Int.not_lt.1 hb) qb qc
 ·exact prim41 d _ _ _ _ fl k (last2 _ (Nat.le_of_not_lt hu)) hbk hf (Int.not_lt.1 hb) qb qc
 ·exact prim42 d _ _ _ _ fl k (by show d.st=List.take (d.st.length-0) d.st++[];simp) hbk hf (Int.not_lt.1 hb) qb qc
 ·exact prim43 d _ _ _ _ fl k (last1 _ (Nat.le_of_not_lt hu)) hbk hf (Int.not_lt.1 hb) qb qc
 ·exact prim44 d _ _ _ _ fl k (last1 _ (Nat.le_of_not_lt hu)) hbk hf (Int.not_lt.1 hb) qb qc
 ·exact prim45 d _ _ _ _ fl k (last1 _ (Nat.le_of_not_lt hu)) hbk hf (Int.not_lt.1 hb) qb qc
 ·exact prim46 d _ _ _ _ fl k (last1 _ (Nat.le_of_not_lt hu)) hbk hf (Int.not_lt.1 hb) qb qc
 ·exact prim47 d _ _ _ _ fl k (by show d.st=List.take (d.st.length-0) d.st++[];simp) hbk hf (Int.not_lt.1 hb) qb qc
 ·exact prim48 d _ _ _ _ fl k (by show d.st=List.take (d.st.length-0) d.st++[];simp) hbk hf (Int.not_lt.1 hb) qb qc
 ·exact prim49 d _ _ _ _ fl k (by show d.st=List.take (d.st.length-0) d.st++[];simp) hbk hf (Int.not_lt.1 hb) qb qc
 ·exact prim50 d _ _ _ _ fl k (by show d.st=List.take (d.st.length-0) d.st++[];simp) hbk hf (Int.not_lt.1 hb) qb qc
 ·exact prim51 d _ _ _ _ fl k (by show d.st=List.take (d.st.length-0) d.st++[];simp) hbk hf (Int.not_lt.1 hb) qb qc
 ·exact prim52 d _ _ _ _ fl k (by show d.st=List.take (d.st.length-0) d.st++[];simp) hbk hf (Int.not_lt.1 hb) qb qc
end P9

/- Changes of data, ApplyPrim, by the program; contracts. -/
open Go Go.Abs Go.Proofs V1 H1 F1 F2 T1 T2 T3 P1 P2 P3 P4 P5 P6 P7 P8 P9
namespace P10
theorem small_ok{d:Dat}(h:DataOk d):smallData d:=⟨by have:=h.st;omega,by have:=h.bk;omega,by have:=h.ce;omega,by have:=h.ou;omega⟩
def applyF(d:Dat)(p fl:Int):Dat × Int × Int:=
 if dataOK d=false then(dat0,0,1)else if inR p 1 52=false then(dat0,0,9)else if inR fl 0 d.bk.length=false then(dat0,0,4)else((primF TX p.toNat fl d).1,(primF TX p.toNat fl d).2,0)
def apV(x:Dat × Int × Int):AV:=.tup [datO x.1,.int .i64 x.2.1,.int .i64 x.2.2]
theorem sh_dat0(a b:Int):Sh (.tup [.agg [.emp,.emp,.emp,.int .i64 0,.int .i64 0,.str []],.int .i64 a,.int .i64 b]) (.tup [datO dat0,.int .i64 a,.int .i64 b]):=by
 refine Sh.tup ⟨Sh.agg ⟨Sh.emp_own _ _,Sh.emp_own _ _,Sh.emp_own _ _,Sh.refl _,Sh.refl _,Sh.refl _,trivial⟩,Sh.refl _,Sh.refl _,trivial⟩
end P10
