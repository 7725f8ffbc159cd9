import Derived.Test.YtidkogijdlfjpaaGreatDoorApC
/- Cells laid on a stack, and prims that move them, by the reference; contracts. -/
set_option linter.unusedVariables false
set_option linter.unusedSimpArgs false
set_option maxRecDepth 100000
open Go Go.Abs Go.Proofs V1 H1 F1 F2 T1 T2 T3 P1 P2 P3 P4 P5 P6 P7 P8 P9 P10
namespace P11
theorem putF_t{d:Dat}{t:Nat}{l:List Int}(e:d.st.length-t+l.length>32):putF d t l=(d,-3):=by rw[putF,if_pos e]
theorem putF_f{d:Dat}{t:Nat}{l:List Int}(e: ¬d.st.length-t+l.length>32):putF d t l=({d with st:=d.st.take (d.st.length-t)++l},0):=by rw[putF,if_neg e]
theorem put(d:Dat)(t:Int)(l:List Int)(h:d.st.length≤32)(h0:0≤t)(ht:t≤d.st.length)(hl:l.length≤4):Con Tryz.prog 78 [datV d,.int .i64 t,roI l] (undefs [datV d,.int .i64 t,roI l]) (.tup [datV (putF d t.toNat l).1,.int .i64 (putF d t.toNat l).2]):=by
 have w1:IntKind.i64.wrap ((d.st.length:Int)-t)=((d.st.length-t.toNat:Nat):Int):=by rw[wrap64 (by omega) (by omega)];omega
 have w2:IntKind.i64.wrap (((d.st.length-t.toNat:Nat):Int)+l.length)=((d.st.length-t.toNat+l.length:Nat):Int):=by rw[wrap64 (by omega) (by omega)];omega
 refine Con.ev 30 T_ok mix Tryz.func78 rfl rfl rfl rfl [.cell 6 26,.tmp 7] rfl ?_
 conv=>whnf
 iterate 14 (first|(apply rq_s rfl;conv=>whnf)|(apply rows_s rfl;conv=>whnf)|(refine br_s ?_ ?_<;>intro hb<;>(try simp only[cln]at hb)<;>conv=>whnf))
 rotate_left
 (iterate 7 ((first|apply rq_s rfl|refine rq_s (by refine and_s rfl ?_;simp only[lnm];omega) ?_|refine rq_s (by simp only[Bool.and_eq_true,decide_eq_true_eq,List.length_map];omega) ?_);conv=>whnf));(apply rq_s (by((first|(simp[w1,w2,maxBytes,AV.plain,subA];done)|(simp[w1,w2,maxBytes,AV.plain,subA];omega))));conv=>whnf);(iterate 4 ((first|refine rq_s (by solve|simp only[lms]|fail) ?_|apply rq_s rfl|refine app0_s ?_);conv=>whnf));(apply rq_s (by((first|(simp[w1,w2,maxBytes,AV.plain,subA];done)|(simp[w1,w2,maxBytes,AV.plain,subA];omega))));conv=>whnf);iterate 14 ((first|refine rq_s (by solve|simp only[lms]|fail) ?_|apply rq_s rfl|apply rows_s rfl|refine app0_s ?_);conv=>whnf)
 rotate_left
 all_goals rw[w1,w2]at hb
 ·exact⟨by rw[putF_t (by omega)];exact Sh.refl _⟩
 ·rw[putF_f (by omega)]
  refine⟨Sh.tup ⟨Sh.agg ⟨?_,Sh.refl _,Sh.refl _,Sh.refl _,Sh.refl _,Sh.refl _,trivial⟩,Sh.refl _,trivial⟩⟩
  refine Sh.trans ?_ (Sh.own_ro (lvl:=1) (by omega) _ _)
  refine sh_eq ?_
  simp[subA,w1,List.take_of_length_le]
theorem putE(d:Dat)(t:Int)(h:d.st.length≤32)(h0:0≤t)(ht:t≤d.st.length):Con Tryz.prog 78 [datV d,.int .i64 t,AV.emp] (undefs [datV d,.int .i64 t,AV.emp]) (.tup [datV (putF d t.toNat []).1,.int .i64 (putF d t.toNat []).2]):=by
 have w1:IntKind.i64.wrap ((d.st.length:Int)-t)=((d.st.length-t.toNat:Nat):Int):=by rw[wrap64 (by omega) (by omega)];omega
 have w2:IntKind.i64.wrap (((d.st.length-t.toNat:Nat):Int)+((0:Nat):Int))=((d.st.length-t.toNat:Nat):Int):=by rw[wrap64 (by omega) (by omega)];omega
 refine Con.ev 30 T_ok mix Tryz.func78 rfl rfl rfl rfl [.cell 6 26,.tmp 7] rfl ?_
 conv=>whnf
 iterate 14 (first|(apply rq_s rfl;conv=>whnf)|(apply rows_s rfl;conv=>whnf)|(refine br_s ?_ ?_<;>intro hb<;>(try simp only[cln]at hb)<;>conv=>whnf))
 rotate_left
 (iterate 7 ((first|apply rq_s rfl|refine rq_s (by refine and_s rfl ?_;simp only[lnm];omega) ?_|refine rq_s (by simp only[Bool.and_eq_true,decide_eq_true_eq,List.length_map];omega) ?_);conv=>whnf));(apply rq_s (by((first|(simp[w1,w2,maxBytes,AV.plain,subA];done)|(simp[w1,w2,maxBytes,AV.plain,subA];omega))));conv=>whnf);(iterate 3 ((first|refine rq_s (by solve|simp only[lms]|fail) ?_|apply rq_s rfl|refine app0_s ?_);conv=>whnf));(apply rq_s (by((first|(simp[w1,w2,maxBytes,AV.plain,subA];done)|(simp[w1,w2,maxBytes,AV.plain,subA];omega))));conv=>whnf);iterate 14 ((first|refine rq_s (by solve|simp only[lms]|fail) ?_|apply rq_s rfl|apply rows_s rfl|refine app0_s ?_);conv=>whnf)
 rotate_left
 all_goals rw[w1,w2]at hb
 ·exact⟨by rw[putF_t (by simp;omega)];exact Sh.refl _⟩
 ·rw[putF_f (by simp;omega)]
  refine⟨Sh.tup ⟨Sh.agg ⟨?_,Sh.refl _,Sh.refl _,Sh.refl _,Sh.refl _,Sh.refl _,trivial⟩,Sh.refl _,trivial⟩⟩
  refine Sh.trans ?_ (Sh.own_ro (lvl:=1) (by omega) _ _)
  refine sh_eq ?_
  simp[subA,w1,List.take_of_length_le]
def tV(x:Dat × Int):AV:=.tup [datV x.1,.int .i64 x.2]
def fixF(d:Dat)(x:Dat × Int):Dat × Int:=if x.2=0 then x else(d,x.2)
theorem put_fix(d:Dat)(t:Nat)(l:List Int)(h:d.st.length≤32)(ht:t≤d.st.length):putF d t l=fixF d (putR d (d.st.take (d.st.length-t)) l):=by
 have e:(d.st.take (d.st.length-t)).length=d.st.length-t:=by simp
 unfold putF putR fixF
 rw[e]
 by_cases h1:32<d.st.length-t+l.length
 ·rw[if_pos h1,if_pos h1];rfl
 ·rw[if_neg h1,if_neg h1];rfl
theorem mv1(d:Dat)(a b c:Int)(h:d.st.length≤32)(ht:1≤d.st.length):Con Tryz.prog 54 [datV d,.int .i64 1,.int .i64 a,.int .i64 b,.int .i64 c] (undefs [datV d,.int .i64 1,.int .i64 a,.int .i64 b,.int .i64 c]) (tV (putF d 1 [c,c])):=by
 have k1:=put d 1 [c,c] h (by omega) (by omega) (by simp)
 refine Con.ev 112 T_ok mix Tryz.func54 rfl rfl rfl rfl [.cell 10 26,.tmp 11] rfl ?_
 conv=>whnf
 (iterate 30 ((first|refine rq_s (by solve|simp only[lms]|fail) ?_|apply rq_s rfl|refine rows_s (sub_all (by solve|simp[lms]|fail)) ?_|apply rows_s rfl|refine fac_s (fun hf=> ?_)|apply br_t rfl|apply lend_s|refine call_s (k1 ..) ?_);conv=>whnf));(refine sh_s ?_;(rfl))
theorem mv2(d:Dat)(a b c:Int)(h:d.st.length≤32)(ht:1≤d.st.length):Con Tryz.prog 54 [datV d,.int .i64 2,.int .i64 a,.int .i64 b,.int .i64 c] (undefs [datV d,.int .i64 2,.int .i64 a,.int .i64 b,.int .i64 c]) (tV (putF d 1 [])):=by
 have k1:=putE d 1 h (by omega) (by omega)
 refine Con.ev 112 T_ok mix Tryz.func54 rfl rfl rfl rfl [.cell 10 26,.tmp 11] rfl ?_
 conv=>whnf
 (iterate 28 ((first|apply rq_s rfl|apply rows_s rfl|refine fac_s (fun hf=> ?_)|apply br_t rfl|apply br_f rfl|apply lend_s|refine call_s (k1 ..) ?_);conv=>whnf));(refine sh_s ?_;(rfl))
theorem mv3(d:Dat)(a b c:Int)(h:d.st.length≤32)(ht:2≤d.st.length):Con Tryz.prog 54 [datV d,.int .i64 3,.int .i64 a,.int .i64 b,.int .i64 c] (undefs [datV d,.int .i64 3,.int .i64 a,.int .i64 b,.int .i64 c]) (tV (putF d 2 [c,b])):=by
 have k1:=put d 2 [c,b] h (by omega) (by omega) (by simp)
 refine Con.ev 112 T_ok mix Tryz.func54 rfl rfl rfl rfl [.cell 10 26,.tmp 11] rfl ?_
 conv=>whnf
 (iterate 32 ((first|refine rq_s (by solve|simp only[lms]|fail) ?_|apply rq_s rfl|refine rows_s (sub_all (by solve|simp[lms]|fail)) ?_|apply rows_s rfl|refine fac_s (fun hf=> ?_)|apply br_t rfl|apply br_f rfl|apply lend_s|refine call_s (k1 ..) ?_);conv=>whnf));(refine sh_s ?_;(rfl))
theorem mv4(d:Dat)(a b c:Int)(h:d.st.length≤32)(ht:2≤d.st.length):Con Tryz.prog 54 [datV d,.int .i64 4,.int .i64 a,.int .i64 b,.int .i64 c] (undefs [datV d,.int .i64 4,.int .i64 a,.int .i64 b,.int .i64 c]) (tV (putF d 2 [b,c,b])):=by
 have k1:=put d 2 [b,c,b] h (by omega) (by omega) (by simp)
 refine Con.ev 112 T_ok mix Tryz.func54 rfl rfl rfl rfl [.cell 10 26,.tmp 11] rfl ?_
 conv=>whnf
 (iterate 33 ((first|refine rq_s (by solve|simp only[lms]|fail) ?_|apply rq_s rfl|refine rows_s (sub_all (by solve|simp[lms]|fail)) ?_|apply rows_s rfl|refine fac_s (fun hf=> ?_)|apply br_t rfl|apply br_f rfl|apply lend_s|refine call_s (k1 ..) ?_);conv=>whnf));(refine sh_s ?_;(rfl))
theorem mv5(d:Dat)(a b c:Int)(h:d.st.length≤32)(ht:3≤d.st.length):Con Tryz.prog 54 [datV d,.int .i64 5,.int .i64 a,.int .i64 b,.int .i64 c] (undefs [datV d,.int .i64 5,.int .i64 a,.int .i64 b,.int .i64 c]) (tV (putF d 3 [b,c,a])):=by
 have k1:=put d 3 [b,c,a] h (by omega) (by omega) (by simp)
 refine Con.ev 112 T_ok mix Tryz.func54 rfl rfl rfl rfl [.cell 10 26,.tmp 11] rfl ?_
 conv=>whnf
 (iterate 34 ((first|refine rq_s (by solve|simp only[lms]|fail) ?_|apply rq_s rfl|refine rows_s (sub_all (by solve|simp[lms]|fail)) ?_|apply rows_s rfl|refine fac_s (fun hf=> ?_)|apply br_t rfl|apply br_f rfl|apply lend_s|refine call_s (k1 ..) ?_);conv=>whnf));(refine sh_s ?_;(rfl))
theorem mv6(d:Dat)(a b c:Int)(h:d.st.length≤32)(ht:2≤d.st.length):Con Tryz.prog 54 [datV d,.int .i64 6,.int .i64 a,.int .i64 b,.int .i64 c] (undefs [datV d,.int .i64 6,.int .i64 a,.int .i64 b,.int .i64 c]) (tV (putF d 2 [c])):=by
 have k1:=put d 2 [c] h (by omega) (by omega) (by simp)
 refine Con.ev 112 T_ok mix Tryz.func54 rfl rfl rfl rfl [.cell 10 26,.tmp 11] rfl ?_
 conv=>whnf
 (iterate 35 ((first|refine rq_s (by solve|simp only[lms]|fail) ?_|apply rq_s rfl|refine rows_s (sub_all (by solve|simp[lms]|fail)) ?_|apply rows_s rfl|refine fac_s (fun hf=> ?_)|apply br_t rfl|apply br_f rfl|apply lend_s|refine call_s (k1 ..) ?_);conv=>whnf));(refine sh_s ?_;(rfl))
theorem mv7(d:Dat)(a b c:Int)(h:d.st.length≤32)(ht:2≤d.st.length):Con Tryz.prog 54 [datV d,.int .i64 7,.int .i64 a,.int .i64 b,.int .i64 c] (undefs [datV d,.int .i64 7,.int .i64 a,.int .i64 b,.int .i64 c]) (tV (putF d 2 [c,b,c])):=by
 have k1:=put d 2 [c,b,c] h (by omega) (by omega) (by simp)
 refine Con.ev 112 T_ok mix Tryz.func54 rfl rfl rfl rfl [.cell 10 26,.tmp 11] rfl ?_
 conv=>whnf
 (iterate 36 ((first|refine rq_s (by solve|simp only[lms]|fail) ?_|apply rq_s rfl|refine rows_s (sub_all (by solve|simp[lms]|fail)) ?_|apply rows_s rfl|refine fac_s (fun hf=> ?_)|apply br_t rfl|apply br_f rfl|apply lend_s|refine call_s (k1 ..) ?_);conv=>whnf));(refine sh_s ?_;(rfl))
theorem mv9(d:Dat)(a b c:Int)(h:d.st.length≤32)(ht:2≤d.st.length):Con Tryz.prog 54 [datV d,.int .i64 9,.int .i64 a,.int .i64 b,.int .i64 c] (undefs [datV d,.int .i64 9,.int .i64 a,.int .i64 b,.int .i64 c]) (tV (putF d 2 [b,c,b,c])):=by
 have k1:=put d 2 [b,c,b,c] h (by omega) (by omega) (by simp)
 refine Con.ev 112 T_ok mix Tryz.func54 rfl rfl rfl rfl [.cell 10 26,.tmp 11] rfl ?_
 conv=>whnf
 (iterate 38 ((first|refine rq_s (by solve|simp only[lms]|fail) ?_|apply rq_s rfl|refine rows_s (sub_all (by solve|simp[lms]|fail)) ?_|apply rows_s rfl|refine fac_s (fun hf=> ?_)|apply br_t rfl|apply br_f rfl|apply lend_s|refine call_s (k1 ..) ?_);conv=>whnf));(refine sh_s ?_;(rfl))
theorem mv10(d:Dat)(a b c:Int)(h:d.st.length≤32)(ht:2≤d.st.length):Con Tryz.prog 54 [datV d,.int .i64 10,.int .i64 a,.int .i64 b,.int .i64 c] (undefs [datV d,.int .i64 10,.int .i64 a,.int .i64 b,.int .i64 c]) (tV (putF d 2 [])):=by
 have k1:=putE d 2 h (by omega) (by omega)
 refine Con.ev 112 T_ok mix Tryz.func54 rfl rfl rfl rfl [.cell 10 26,.tmp 11] rfl ?_
 conv=>whnf
 (iterate 36 ((first|apply rq_s rfl|apply rows_s rfl|refine fac_s (fun hf=> ?_)|apply br_t rfl|apply br_f rfl|apply lend_s|refine call_s (k1 ..) ?_);conv=>whnf));(refine sh_s ?_;(rfl))
theorem mv8z(d:Dat)(a b c:Int)(h:d.st.length≤32)(ht:1≤d.st.length)(h0:c=0):Con Tryz.prog 54 [datV d,.int .i64 8,.int .i64 a,.int .i64 b,.int .i64 c] (undefs [datV d,.int .i64 8,.int .i64 a,.int .i64 b,.int .i64 c]) (tV ((d,0))):=by
 have g5:(c==0)=true:=by simp[h0]
 refine Con.ev 112 T_ok mix Tryz.func54 rfl rfl rfl rfl [.cell 10 26,.tmp 11] rfl ?_
 conv=>whnf
 (iterate 21 ((first|apply rq_s rfl|apply rows_s rfl|apply br_t rfl|apply br_f rfl|refine br_t (by assumption) ?_);conv=>whnf));(refine sh_s ?_;(rfl))
theorem mv8n(d:Dat)(a b c:Int)(h:d.st.length≤32)(ht:1≤d.st.length)(h0: ¬c=0):Con Tryz.prog 54 [datV d,.int .i64 8,.int .i64 a,.int .i64 b,.int .i64 c] (undefs [datV d,.int .i64 8,.int .i64 a,.int .i64 b,.int .i64 c]) (tV (putF d 1 [c,c])):=by
 have k1:=put d 1 [c,c] h (by omega) (by omega) (by simp)
 have g5:(c==0)=false:=by simp[h0]
 refine Con.ev 112 T_ok mix Tryz.func54 rfl rfl rfl rfl [.cell 10 26,.tmp 11] rfl ?_
 conv=>whnf
 (iterate 38 ((first|refine rq_s (by solve|simp only[lms]|fail) ?_|apply rq_s rfl|refine rows_s (sub_all (by solve|simp[lms]|fail)) ?_|apply rows_s rfl|refine fac_s (fun hf=> ?_)|apply br_t rfl|apply br_f rfl|refine br_f (by assumption) ?_|apply lend_s|refine call_s (k1 ..) ?_);conv=>whnf));(refine sh_s ?_;(rfl))
theorem mv11(d:Dat)(a b c:Int)(h:d.st.length≤32)(ht:0≤d.st.length):Con Tryz.prog 54 [datV d,.int .i64 11,.int .i64 a,.int .i64 b,.int .i64 c] (undefs [datV d,.int .i64 11,.int .i64 a,.int .i64 b,.int .i64 c]) (tV (putF d 0 [(d.st.length:Int)])):=by
 have k1:=put d 0 [(d.st.length:Int)] h (by omega) (by omega) (by simp)
 rw[show[(d.st.length:Int)]=[(((d.st.map intR).length:Nat):Int)] by rw[List.length_map]]at k1⊢
 refine Con.ev 112 T_ok mix Tryz.func54 rfl rfl rfl rfl [.cell 10 26,.tmp 11] rfl ?_
 conv=>whnf
 (iterate 40 ((first|refine rq_s (by solve|simp only[lms]|fail) ?_|apply rq_s rfl|refine rows_s (sub_all (by solve|simp[lms]|fail)) ?_|apply rows_s rfl|refine fac_s (fun hf=> ?_)|apply br_f rfl|apply lend_s|refine call_s (k1 ..) ?_);conv=>whnf));(refine sh_s ?_;(rfl))
end P11

/- Prims of the other stack, by the reference; contracts. -/
open Go Go.Abs Go.Proofs V1 H1 F1 F2 T1 T2 T3 P1 P2 P3 P4 P5 P6 P7 P8 P9 P10 P11
namespace P12
theorem callG_eq{P:Program}{f:FuncId}{xs bs:List AV}{K:AV→Prop}(h:xs=bs)(k:CallG P f bs K):CallG P f xs K:=h▸k
theorem c29(p:Int):Con Tryz.prog 29 [.int .i64 p] (undefs [.int .i64 p]) (.bool (inR p 1 52)):=by
 refine Con.ev 5 T_ok mix Tryz.func29 rfl rfl rfl rfl [.tmp 2] rfl ?_
 conv=>whnf
 (iterate 6 ((first|apply rq_s rfl|apply lend_s|refine call_s (c30 ..) ?_);conv=>whnf));(refine sh_s ?_;(rfl))
theorem bk12z(d:Dat)(fl c:Int)(h:d.st.length≤32)(ht:1≤d.st.length)(hb:d.bk.length≤32)(h0:d.bk.length=32):Con Tryz.prog 55 [datV d,.int .i64 12,.int .i64 fl,.int .i64 c] (undefs [datV d,.int .i64 12,.int .i64 fl,.int .i64 c]) (tV (d,-5)):=by
 have g5:((((d.bk.map intR).length:Nat):Int)==32)=true:=by rw[List.length_map,h0];rfl
 refine Con.ev 81 T_ok mix Tryz.func55 rfl rfl rfl rfl [.cell 8 26,.tmp 9] rfl ?_
 conv=>whnf
 (iterate 15 ((first|apply rq_s rfl|apply rows_s rfl|apply br_t rfl|refine br_t (by assumption) ?_);conv=>whnf));(refine sh_s ?_;(rfl))
theorem bk12n(d:Dat)(fl c:Int)(h:d.st.length≤32)(ht:1≤d.st.length)(hb:d.bk.length≤32)(h0: ¬d.bk.length=32):Con Tryz.prog 55 [datV d,.int .i64 12,.int .i64 fl,.int .i64 c] (undefs [datV d,.int .i64 12,.int .i64 fl,.int .i64 c]) (tV (putF {d with bk:=d.bk++[c]} 1 [])):=by
 have g5:((((d.bk.map intR).length:Nat):Int)==32)=false:=by rw[List.length_map];simp;omega
 have k1:=putE {d with bk:=d.bk++[c]} 1 h (by omega) (by simp only;omega)
 refine Con.ev 81 T_ok mix Tryz.func55 rfl rfl rfl rfl [.cell 8 26,.tmp 9] rfl ?_
 conv=>whnf
 iterate 31 ((first|refine rq_s (by solve|simp only[lms]|fail) ?_|apply rq_s rfl|refine rq_s (by(((simp[maxBytes,AV.plain,subA];omega)))) ?_|apply rows_s rfl|refine app0_s ?_|apply br_t rfl|refine br_f (by assumption) ?_|apply lend_s);conv=>whnf)
 rotate_left
 refine callG_eq (bs:=[datV {d with bk:=d.bk++[c]},.int .i64 1,AV.emp]) ?_ ?_
 ·refine congrArg (fun x=>[AV.agg [roI d.st,AV.ro zI x,roI d.ce,.int .i64 d.he,.int .i64 d.ba,.str d.ou],.int .i64 1,AV.emp]) ?_
  simp[subA,List.take_of_length_le,intR]
 (iterate 13 ((first|apply rq_s rfl|apply rows_s rfl|refine fac_s (fun hf=> ?_)|refine call_s (k1 ..) ?_);conv=>whnf));(refine sh_s ?_;(rfl))
theorem bk52(d:Dat)(fl c:Int)(h:d.st.length≤32)(hb:d.bk.length≤32)(hf:0≤fl∧fl≤d.bk.length)(hk:2≤(d.bk.length:Int)-fl):Con Tryz.prog 55 [datV d,.int .i64 52,.int .i64 fl,.int .i64 c] (undefs [datV d,.int .i64 52,.int .i64 fl,.int .i64 c]) (tV ({d with bk:=d.bk.take (d.bk.length-2)},0)):=by
 have wf:IntKind.i64.wrap ((((d.bk.map intR).length:Nat):Int)-fl)=(d.bk.length:Int)-fl:=by rw[List.length_map];exact wrap64 (by omega) (by omega)
 have w2:IntKind.i64.wrap ((((d.bk.map intR).length:Nat):Int)-2)=((d.bk.length-2:Nat):Int):=by rw[List.length_map,wrap64 (by omega) (by omega)];omega
 have g1:decide (IntKind.i64.wrap ((((d.bk.map intR).length:Nat):Int)-fl)<2)=false:=by rw[wf];exact decide_eq_false (by omega)
 refine Con.ev 81 T_ok mix Tryz.func55 rfl rfl rfl rfl [.cell 8 26,.tmp 9] rfl ?_
 conv=>whnf
 iterate 28 ((first|refine rq_s (by solve|simp only[lms]|fail) ?_|apply rq_s rfl|refine rq_s (by((first|(rw[w2];exact decide_eq_true (by omega))|(rw[w2,List.length_map];exact decide_eq_true (by omega))|(simp[w2,maxBytes,AV.plain,subA];omega)))) ?_|refine rows_s (sub_all (by solve|simp[lms]|fail)) ?_|apply rows_s rfl|refine app0_s ?_|apply br_t rfl|apply br_f rfl|refine br_f (by assumption) ?_);conv=>whnf)
 rotate_left
 refine⟨Sh.tup ⟨Sh.agg ⟨Sh.refl _,?_,Sh.refl _,Sh.refl _,Sh.refl _,Sh.refl _,trivial⟩,Sh.refl _,trivial⟩⟩
 refine Sh.trans ?_ (Sh.own_ro (lvl:=1) (by omega) _ _)
 refine sh_eq ?_
 rw[List.length_map]at w2;simp[subA,w2]
theorem bkU(p:Nat)(d:Dat)(fl c:Int)(hp:p=13∨p=14∨p=51∨p=52)(hb:d.bk.length≤32)(hf:0≤fl∧fl≤d.bk.length)(hk:(d.bk.length:Int)-fl<backN p):Con Tryz.prog 55 [datV d,.int .i64 p,.int .i64 fl,.int .i64 c] (undefs [datV d,.int .i64 p,.int .i64 fl,.int .i64 c]) (tV (d,-6)):=by
 have wf:IntKind.i64.wrap ((((d.bk.map intR).length:Nat):Int)-fl)=(d.bk.length:Int)-fl:=by rw[List.length_map];exact wrap64 (by omega) (by omega)
 have g1:decide (IntKind.i64.wrap ((((d.bk.map intR).length:Nat):Int)-fl)<((backN p:Nat):Int))=true:=by rw[wf];exact decide_eq_true hk
 rcases hp with rfl|rfl|rfl|rfl
 ·have g1:decide (IntKind.i64.wrap ((((d.bk.map intR).length:Nat):Int)-fl)<1)=true:=g1
  refine Con.ev 81 T_ok mix Tryz.func55 rfl rfl rfl rfl [.cell 8 26,.tmp 9] rfl ?_
  conv=>whnf
  (iterate 16 ((first|apply rq_s rfl|apply rows_s rfl|apply br_f rfl|refine br_t (by assumption) ?_);conv=>whnf));(refine sh_s ?_;(rfl))
 ·have g1:decide (IntKind.i64.wrap ((((d.bk.map intR).length:Nat):Int)-fl)<1)=true:=g1
  refine Con.ev 81 T_ok mix Tryz.func55 rfl rfl rfl rfl [.cell 8 26,.tmp 9] rfl ?_
  conv=>whnf
  (iterate 16 ((first|apply rq_s rfl|apply rows_s rfl|apply br_f rfl|refine br_t (by assumption) ?_);conv=>whnf));(refine sh_s ?_;(rfl))
 ·have g1:decide (IntKind.i64.wrap ((((d.bk.map intR).length:Nat):Int)-fl)<1)=true:=g1
  refine Con.ev 81 T_ok mix Tryz.func55 rfl rfl rfl rfl [.cell 8 26,.tmp 9] rfl ?_
  conv=>whnf
  (iterate 16 ((first|apply rq_s rfl|apply rows_s rfl|apply br_f rfl|refine br_t (by assumption) ?_);conv=>whnf));(refine sh_s ?_;(rfl))
 ·have g1:decide (IntKind.i64.wrap ((((d.bk.map intR).length:Nat):Int)-fl)<2)=true:=g1
  refine Con.ev 81 T_ok mix Tryz.func55 rfl rfl rfl rfl [.cell 8 26,.tmp 9] rfl ?_
  conv=>whnf
  (iterate 16 ((first|apply rq_s rfl|apply rows_s rfl|apply br_t rfl|apply br_f rfl|refine br_t (by assumption) ?_);conv=>whnf));(refine sh_s ?_;(rfl))
theorem bk14(d:Dat)(fl c:Int)(h:d.st.length≤32)(hb:d.bk.length≤32)(hf:0≤fl∧fl≤d.bk.length)(hk:1≤(d.bk.length:Int)-fl):Con Tryz.prog 55 [datV d,.int .i64 14,.int .i64 fl,.int .i64 c] (undefs [datV d,.int .i64 14,.int .i64 fl,.int .i64 c]) (tV (putF d 0 [d.bk.getD (d.bk.length-1) 0])):=by
 have wf:IntKind.i64.wrap ((((d.bk.map intR).length:Nat):Int)-fl)=(d.bk.length:Int)-fl:=by rw[List.length_map];exact wrap64 (by omega) (by omega)
 have g1:decide (IntKind.i64.wrap ((((d.bk.map intR).length:Nat):Int)-fl)<1)=false:=by rw[wf];exact decide_eq_false (by omega)
 have wl2:IntKind.i64.wrap ((((d.bk.map intR).length:Nat):Int)-1)=((d.bk.length-1:Nat):Int):=by rw[List.length_map,wrap64 (by omega) (by omega)];omega
 have wl:(IntKind.i64.wrap ((((d.bk.map intR).length:Nat):Int)-1)).toNat=d.bk.length-1:=by rw[wl2];omega
 have k1:=put d 0 [d.bk.getD (d.bk.length-1) 0] h (by omega) (by omega) (by simp)
 refine Con.ev 81 T_ok mix Tryz.func55 rfl rfl rfl rfl [.cell 8 26,.tmp 9] rfl ?_
 conv=>whnf
 (iterate 57 ((first|refine rq_s (by solve|simp only[lms]|fail) ?_|apply rq_s rfl|refine rq_s (by((first|(rw[wl2];exact decide_eq_true (by omega))|(refine and_s rfl ?_;rw[wl2,List.length_map];exact decide_eq_true (by omega))|(simp[wl2];omega)))) ?_|refine row_s (by(rewrite[wl];exact row_map intR _ _ _ 0 (by omega))) ?_|refine rows_s (sub_all (by solve|simp[lms]|fail)) ?_|apply rows_s rfl|refine fac_s (fun hf=> ?_)|refine ChkS.mk (by kernel_rfl) ?_|apply br_f rfl|refine br_f (by assumption) ?_|refine call_s (k1 ..) ?_);conv=>whnf));(refine sh_s ?_;(rfl))
theorem bk51(d:Dat)(fl c:Int)(h:d.st.length≤32)(hb:d.bk.length≤32)(hf:0≤fl∧fl≤d.bk.length)(hk:1≤(d.bk.length:Int)-fl):Con Tryz.prog 55 [datV d,.int .i64 51,.int .i64 fl,.int .i64 c] (undefs [datV d,.int .i64 51,.int .i64 fl,.int .i64 c]) (tV (putF d 0 [d.bk.getD (d.bk.length-1) 0])):=by
 have wf:IntKind.i64.wrap ((((d.bk.map intR).length:Nat):Int)-fl)=(d.bk.length:Int)-fl:=by rw[List.length_map];exact wrap64 (by omega) (by omega)
 have g1:decide (IntKind.i64.wrap ((((d.bk.map intR).length:Nat):Int)-fl)<1)=false:=by rw[wf];exact decide_eq_false (by omega)
 have wl2:IntKind.i64.wrap ((((d.bk.map intR).length:Nat):Int)-1)=((d.bk.length-1:Nat):Int):=by rw[List.length_map,wrap64 (by omega) (by omega)];omega
 have wl:(IntKind.i64.wrap ((((d.bk.map intR).length:Nat):Int)-1)).toNat=d.bk.length-1:=by rw[wl2];omega
 have k1:=put d 0 [d.bk.getD (d.bk.length-1) 0] h (by omega) (by omega) (by simp)
 refine Con.ev 81 T_ok mix Tryz.func55 rfl rfl rfl rfl [.cell 8 26,.tmp 9] rfl ?_
 conv=>whnf
 (iterate 57 ((first|refine rq_s (by solve|simp only[lms]|fail) ?_|apply rq_s rfl|refine rq_s (by((first|(rw[wl2];exact decide_eq_true (by omega))|(refine and_s rfl ?_;rw[wl2,List.length_map];exact decide_eq_true (by omega))|(simp[wl2];omega)))) ?_|refine row_s (by(rewrite[wl];exact row_map intR _ _ _ 0 (by omega))) ?_|refine rows_s (sub_all (by solve|simp[lms]|fail)) ?_|apply rows_s rfl|refine fac_s (fun hf=> ?_)|refine ChkS.mk (by kernel_rfl) ?_|apply br_f rfl|refine br_f (by assumption) ?_|refine call_s (k1 ..) ?_);conv=>whnf));(refine sh_s ?_;(rfl))
theorem bk13z(d:Dat)(fl c:Int)(h:d.st.length≤32)(hb:d.bk.length≤32)(hf:0≤fl∧fl≤d.bk.length)(hk:1≤(d.bk.length:Int)-fl)(h0:d.st.length=32):Con Tryz.prog 55 [datV d,.int .i64 13,.int .i64 fl,.int .i64 c] (undefs [datV d,.int .i64 13,.int .i64 fl,.int .i64 c]) (tV (d,-3)):=by
 have wf:IntKind.i64.wrap ((((d.bk.map intR).length:Nat):Int)-fl)=(d.bk.length:Int)-fl:=by rw[List.length_map];exact wrap64 (by omega) (by omega)
 have g1:decide (IntKind.i64.wrap ((((d.bk.map intR).length:Nat):Int)-fl)<1)=false:=by rw[wf];exact decide_eq_false (by omega)
 have wl2:IntKind.i64.wrap ((((d.bk.map intR).length:Nat):Int)-1)=((d.bk.length-1:Nat):Int):=by rw[List.length_map,wrap64 (by omega) (by omega)];omega
 have wl:(IntKind.i64.wrap ((((d.bk.map intR).length:Nat):Int)-1)).toNat=d.bk.length-1:=by rw[wl2];omega
 have k1:=put d 0 [d.bk.getD (d.bk.length-1) 0] h (by omega) (by omega) (by simp)
 rw[show putF d (0:Int).toNat [d.bk.getD (d.bk.length-1) 0]=(d,-3)from putF_t (by simp;omega)]at k1
 refine Con.ev 81 T_ok mix Tryz.func55 rfl rfl rfl rfl [.cell 8 26,.tmp 9] rfl ?_
 conv=>whnf
 (iterate 56 ((first|refine rq_s (by solve|simp only[lms]|fail) ?_|apply rq_s rfl|refine rq_s (by((first|(rw[wl2];exact decide_eq_true (by omega))|(refine and_s rfl ?_;rw[wl2,List.length_map];exact decide_eq_true (by omega))|(simp[wl2];omega)))) ?_|refine row_s (by(rewrite[wl];exact row_map intR _ _ _ 0 (by omega))) ?_|refine rows_s (sub_all (by solve|simp[lms]|fail)) ?_|apply rows_s rfl|refine fac_s (fun hf=> ?_)|refine ChkS.mk (by kernel_rfl) ?_|apply br_t rfl|apply br_f rfl|refine br_f (by assumption) ?_|refine call_s (k1 ..) ?_);conv=>whnf));(refine sh_s ?_;(rfl))
theorem bk13n(d:Dat)(fl c:Int)(h:d.st.length≤32)(hb:d.bk.length≤32)(hf:0≤fl∧fl≤d.bk.length)(hk:1≤(d.bk.length:Int)-fl)(h0: ¬d.st.length=32):Con Tryz.prog 55 [datV d,.int .i64 13,.int .i64 fl,.int .i64 c] (undefs [datV d,.int .i64 13,.int .i64 fl,.int .i64 c]) (tV ({d with st:=d.st++[d.bk.getD (d.bk.length-1) 0],bk:=d.bk.take (d.bk.length-1)},0)):=by
 have wf:IntKind.i64.wrap ((((d.bk.map intR).length:Nat):Int)-fl)=(d.bk.length:Int)-fl:=by rw[List.length_map];exact wrap64 (by omega) (by omega)
 have g1:decide (IntKind.i64.wrap ((((d.bk.map intR).length:Nat):Int)-fl)<1)=false:=by rw[wf];exact decide_eq_false (by omega)
 have wl2:IntKind.i64.wrap ((((d.bk.map intR).length:Nat):Int)-1)=((d.bk.length-1:Nat):Int):=by rw[List.length_map,wrap64 (by omega) (by omega)];omega
 have wl:(IntKind.i64.wrap ((((d.bk.map intR).length:Nat):Int)-1)).toNat=d.bk.length-1:=by rw[wl2];omega
 have k1:=put d 0 [d.bk.getD (d.bk.length-1) 0] h (by omega) (by omega) (by simp)
 rw[show putF d (0:Int).toNat [d.bk.getD (d.bk.length-1) 0]=({d with st:=d.st++[d.bk.getD (d.bk.length-1) 0]},0)from(putF_f (by simp;omega)).trans (by simp[List.take_of_length_le])]at k1
 refine Con.ev 81 T_ok mix Tryz.func55 rfl rfl rfl rfl [.cell 8 26,.tmp 9] rfl ?_
 conv=>whnf
 (iterate 6 ((first|apply rq_s rfl|apply br_f rfl|refine br_f (by assumption) ?_);conv=>whnf));iterate 61 ((first|refine rq_s (by solve|simp only[lms]|fail) ?_|apply rq_s rfl|refine rq_s (by((first|(rw[wl2];exact decide_eq_true (by omega))|(refine and_s rfl ?_;rw[wl2,List.length_map];exact decide_eq_true (by omega))|(rw[wl2];exact decide_eq_true (by omega))|(rw[wl2,List.length_map];exact decide_eq_true (by omega))|(simp[wl2,maxBytes,AV.plain,subA];omega)))) ?_|refine row_s (by(rewrite[wl];exact row_map intR _ _ _ 0 (by omega))) ?_|refine rows_s (sub_all (by solve|simp[lms]|fail)) ?_|apply rows_s rfl|refine app0_s ?_|refine fac_s (fun hf=> ?_)|refine ChkS.mk (by kernel_rfl) ?_|apply br_t rfl|refine call_s (k1 ..) ?_);conv=>whnf)
 rotate_left
 refine⟨Sh.tup ⟨Sh.agg ⟨Sh.refl _,?_,Sh.refl _,Sh.refl _,Sh.refl _,Sh.refl _,trivial⟩,Sh.refl _,trivial⟩⟩
 refine Sh.trans ?_ (Sh.own_ro (lvl:=1) (by omega) _ _)
 refine sh_eq ?_
 rw[List.length_map]at wl2;simp[subA,wl2]
end P12

/- Prims that sum, by the reference; contracts. -/
open Go Go.Abs Go.Proofs V1 H1 F1 F2 T1 T2 T3 P1 P2 P3 P4 P5 P6 P7 P8 P9 P10 P11 P12
namespace P13
theorem smTwo(p:Nat)(hp:15≤p∧p≤24)(d:Dat)(b c:Int)(h:d.st.length≤32)(ht:2≤d.st.length)(v:Int)(k2:Con Tryz.prog 79 [.int .i64 (IntKind.i64.wrap ((p:Int)-14)),.int .i64 b,.int .i64 c] (undefs [.int .i64 (IntKind.i64.wrap ((p:Int)-14)),.int .i64 b,.int .i64 c]) (.tup [.int .i64 v,.bool true])):Con Tryz.prog 56 [datV d,.int .i64 p,.int .i64 b,.int .i64 c] (undefs [datV d,.int .i64 p,.int .i64 b,.int .i64 c]) (tV (putF d 2 [v])):=by
 have q0:inR (p:Int) 15 24=true:=by simp[inR];omega
 have k1:=put d 2 [v] h (by omega) (by omega) (by simp)
 refine Con.ev 152 T_ok mix Tryz.func56 rfl rfl rfl rfl [.cell 8 26,.tmp 9] rfl ?_
 conv=>whnf
 (iterate 42 ((first|refine rq_s (by solve|simp only[lms]|fail) ?_|apply rq_s rfl|refine rows_s (sub_all (by solve|simp[lms]|fail)) ?_|apply rows_s rfl|refine fac_s (fun hf=> ?_)|apply br_f rfl|refine br_t (by assumption) ?_|apply lend_s|refine call_s (k1 ..) ?_|refine call_s (c30 ..) ?_|refine call_s (k2 ..) ?_);conv=>whnf));(refine sh_s ?_;(rfl))
theorem smTwoZ(p:Nat)(hp:15≤p∧p≤24)(d:Dat)(b c:Int)(h:d.st.length≤32)(ht:2≤d.st.length)(v:Int)(k2:Con Tryz.prog 79 [.int .i64 (IntKind.i64.wrap ((p:Int)-14)),.int .i64 b,.int .i64 c] (undefs [.int .i64 (IntKind.i64.wrap ((p:Int)-14)),.int .i64 b,.int .i64 c]) (.tup [.int .i64 v,.bool false])):Con Tryz.prog 56 [datV d,.int .i64 p,.int .i64 b,.int .i64 c] (undefs [datV d,.int .i64 p,.int .i64 b,.int .i64 c]) (tV ((d,-10))):=by
 have q0:inR (p:Int) 15 24=true:=by simp[inR];omega
 refine Con.ev 152 T_ok mix Tryz.func56 rfl rfl rfl rfl [.cell 8 26,.tmp 9] rfl ?_
 conv=>whnf
 (iterate 25 ((first|apply rq_s rfl|apply rows_s rfl|refine fac_s (fun hf=> ?_)|apply br_t rfl|refine br_t (by assumption) ?_|apply lend_s|refine call_s (c30 ..) ?_|refine call_s (k2 ..) ?_);conv=>whnf));(refine sh_s ?_;(rfl))
theorem sm15(d:Dat)(b c:Int)(h:d.st.length≤32)(ht:2≤d.st.length)(qb: -2147483648≤b∧b≤2147483647)(qc: -2147483648≤c∧c≤2147483647):Con Tryz.prog 56 [datV d,.int .i64 15,.int .i64 b,.int .i64 c] (undefs [datV d,.int .i64 15,.int .i64 b,.int .i64 c]) (tV (putF d 2 [(twoV 1 b c).1])):=by
 have hcb:cell b=true:=by simp[cell,inR];omega
 have hcc:cell c=true:=by simp[cell,inR];omega
 exact smTwo 15 (by omega) d b c h ht _ (s2_1 b c hcb hcc)
theorem sm16(d:Dat)(b c:Int)(h:d.st.length≤32)(ht:2≤d.st.length)(qb: -2147483648≤b∧b≤2147483647)(qc: -2147483648≤c∧c≤2147483647):Con Tryz.prog 56 [datV d,.int .i64 16,.int .i64 b,.int .i64 c] (undefs [datV d,.int .i64 16,.int .i64 b,.int .i64 c]) (tV (putF d 2 [(twoV 2 b c).1])):=by
 have hcb:cell b=true:=by simp[cell,inR];omega
 have hcc:cell c=true:=by simp[cell,inR];omega
 exact smTwo 16 (by omega) d b c h ht _ (s2_2 b c hcb hcc)
theorem sm17(d:Dat)(b c:Int)(h:d.st.length≤32)(ht:2≤d.st.length)(qb: -2147483648≤b∧b≤2147483647)(qc: -2147483648≤c∧c≤2147483647):Con Tryz.prog 56 [datV d,.int .i64 17,.int .i64 b,.int .i64 c] (undefs [datV d,.int .i64 17,.int .i64 b,.int .i64 c]) (tV (putF d 2 [(twoV 3 b c).1])):=by
 have hcb:cell b=true:=by simp[cell,inR];omega
 have hcc:cell c=true:=by simp[cell,inR];omega
 exact smTwo 17 (by omega) d b c h ht _ (s2_3 b c hcb hcc)
theorem sm18n(d:Dat)(b c:Int)(h:d.st.length≤32)(ht:2≤d.st.length)(qb: -2147483648≤b∧b≤2147483647)(qc: -2147483648≤c∧c≤2147483647)(h0: ¬c=0):Con Tryz.prog 56 [datV d,.int .i64 18,.int .i64 b,.int .i64 c] (undefs [datV d,.int .i64 18,.int .i64 b,.int .i64 c]) (tV (putF d 2 [wc (floorQ b c)])):=by
 have hcb:cell b=true:=by simp[cell,inR];omega
 have hcc:cell c=true:=by simp[cell,inR];omega
 have k2:=s2_4 b c hcb hcc
 rw[tv4 h0]at k2
 exact smTwo 18 (by omega) d b c h ht _ k2
theorem sm18z(d:Dat)(b c:Int)(h:d.st.length≤32)(ht:2≤d.st.length)(qb: -2147483648≤b∧b≤2147483647)(qc: -2147483648≤c∧c≤2147483647)(h0:c=0):Con Tryz.prog 56 [datV d,.int .i64 18,.int .i64 b,.int .i64 c] (undefs [datV d,.int .i64 18,.int .i64 b,.int .i64 c]) (tV ((d,-10))):=by
 have hcb:cell b=true:=by simp[cell,inR];omega
 have hcc:cell c=true:=by simp[cell,inR];omega
 have k2:=s2_4 b c hcb hcc
 rw[(tv0 h0).1]at k2
 exact smTwoZ 18 (by omega) d b c h ht _ k2
theorem sm19n(d:Dat)(b c:Int)(h:d.st.length≤32)(ht:2≤d.st.length)(qb: -2147483648≤b∧b≤2147483647)(qc: -2147483648≤c∧c≤2147483647)(h0: ¬c=0):Con Tryz.prog 56 [datV d,.int .i64 19,.int .i64 b,.int .i64 c] (undefs [datV d,.int .i64 19,.int .i64 b,.int .i64 c]) (tV (putF d 2 [b-floorQ b c*c])):=by
 have hcb:cell b=true:=by simp[cell,inR];omega
 have hcc:cell c=true:=by simp[cell,inR];omega
 have k2:=s2_5 b c hcb hcc
 rw[tv5 h0]at k2
 exact smTwo 19 (by omega) d b c h ht _ k2
theorem sm19z(d:Dat)(b c:Int)(h:d.st.length≤32)(ht:2≤d.st.length)(qb: -2147483648≤b∧b≤2147483647)(qc: -2147483648≤c∧c≤2147483647)(h0:c=0):Con Tryz.prog 56 [datV d,.int .i64 19,.int .i64 b,.int .i64 c] (undefs [datV d,.int .i64 19,.int .i64 b,.int .i64 c]) (tV ((d,-10))):=by
 have hcb:cell b=true:=by simp[cell,inR];omega
 have hcc:cell c=true:=by simp[cell,inR];omega
 have k2:=s2_5 b c hcb hcc
 rw[(tv0 h0).2]at k2
 exact smTwoZ 19 (by omega) d b c h ht _ k2
theorem sm20(d:Dat)(b c:Int)(h:d.st.length≤32)(ht:2≤d.st.length)(qb: -2147483648≤b∧b≤2147483647)(qc: -2147483648≤c∧c≤2147483647):Con Tryz.prog 56 [datV d,.int .i64 20,.int .i64 b,.int .i64 c] (undefs [datV d,.int .i64 20,.int .i64 b,.int .i64 c]) (tV (putF d 2 [(twoV 6 b c).1])):=by
 have hcb:cell b=true:=by simp[cell,inR];omega
 have hcc:cell c=true:=by simp[cell,inR];omega
 exact smTwo 20 (by omega) d b c h ht _ (s2_6 b c hcb hcc)
theorem sm21(d:Dat)(b c:Int)(h:d.st.length≤32)(ht:2≤d.st.length)(qb: -2147483648≤b∧b≤2147483647)(qc: -2147483648≤c∧c≤2147483647):Con Tryz.prog 56 [datV d,.int .i64 21,.int .i64 b,.int .i64 c] (undefs [datV d,.int .i64 21,.int .i64 b,.int .i64 c]) (tV (putF d 2 [(twoV 7 b c).1])):=by
 have hcb:cell b=true:=by simp[cell,inR];omega
 have hcc:cell c=true:=by simp[cell,inR];omega
 exact smTwo 21 (by omega) d b c h ht _ (s2_7 b c hcb hcc)
theorem sm22(d:Dat)(b c:Int)(h:d.st.length≤32)(ht:2≤d.st.length)(qb: -2147483648≤b∧b≤2147483647)(qc: -2147483648≤c∧c≤2147483647):Con Tryz.prog 56 [datV d,.int .i64 22,.int .i64 b,.int .i64 c] (undefs [datV d,.int .i64 22,.int .i64 b,.int .i64 c]) (tV (putF d 2 [(twoV 8 b c).1])):=by
 have hcb:cell b=true:=by simp[cell,inR];omega
 have hcc:cell c=true:=by simp[cell,inR];omega
 exact smTwo 22 (by omega) d b c h ht _ (s2_8 b c hcb hcc)
theorem sm23(d:Dat)(b c:Int)(h:d.st.length≤32)(ht:2≤d.st.length)(qb: -2147483648≤b∧b≤2147483647)(qc: -2147483648≤c∧c≤2147483647):Con Tryz.prog 56 [datV d,.int .i64 23,.int .i64 b,.int .i64 c] (undefs [datV d,.int .i64 23,.int .i64 b,.int .i64 c]) (tV (putF d 2 [(twoV 9 b c).1])):=by
 have hcb:cell b=true:=by simp[cell,inR];omega
 have hcc:cell c=true:=by simp[cell,inR];omega
 exact smTwo 23 (by omega) d b c h ht _ (s2_9 b c hcb hcc)
theorem sm24(d:Dat)(b c:Int)(h:d.st.length≤32)(ht:2≤d.st.length)(qb: -2147483648≤b∧b≤2147483647)(qc: -2147483648≤c∧c≤2147483647):Con Tryz.prog 56 [datV d,.int .i64 24,.int .i64 b,.int .i64 c] (undefs [datV d,.int .i64 24,.int .i64 b,.int .i64 c]) (tV (putF d 2 [(twoV 10 b c).1])):=by
 have hcb:cell b=true:=by simp[cell,inR];omega
 have hcc:cell c=true:=by simp[cell,inR];omega
 exact smTwo 24 (by omega) d b c h ht _ (s2_10 b c hcb hcc)
theorem sm25(d:Dat)(b c:Int)(h:d.st.length≤32)(ht:1≤d.st.length)(qb: -2147483648≤b∧b≤2147483647)(qc: -2147483648≤c∧c≤2147483647):Con Tryz.prog 56 [datV d,.int .i64 25,.int .i64 b,.int .i64 c] (undefs [datV d,.int .i64 25,.int .i64 b,.int .i64 c]) (tV (putF d 1 [compF1 25 b c])):=by
 have w1:=neg_w qc
 have k1:=put d 1 [compF1 25 b c] h (by omega) (by omega) (by simp)
 have ek:compF1 25 b c=wc (IntKind.i64.wrap (0-c)):=by simp only[w1];rfl
 rw[ek]at k1⊢
 refine Con.ev 152 T_ok mix Tryz.func56 rfl rfl rfl rfl [.cell 8 26,.tmp 9] rfl ?_
 conv=>whnf
 (iterate 49 ((first|refine rq_s (by solve|simp only[lms]|fail) ?_|apply rq_s rfl|refine rows_s (sub_all (by solve|simp[lms]|fail)) ?_|apply rows_s rfl|refine fac_s (fun hf=> ?_)|refine ChkS.mk (by kernel_rfl) ?_|apply br_t rfl|apply br_f rfl|apply lend_s|refine call_s (k1 ..) ?_|refine call_s (c30 ..) ?_|refine call_s (c75 ..) ?_);conv=>whnf));(refine sh_s ?_;(rfl))
theorem sm26(d:Dat)(b c:Int)(h:d.st.length≤32)(ht:1≤d.st.length)(qb: -2147483648≤b∧b≤2147483647)(qc: -2147483648≤c∧c≤2147483647):Con Tryz.prog 56 [datV d,.int .i64 26,.int .i64 b,.int .i64 c] (undefs [datV d,.int .i64 26,.int .i64 b,.int .i64 c]) (tV (putF d 1 [compF1 26 b c])):=by
 have w1:=neg_w qc
 have e:(if-c>c then-c else c)=max c (-c):=(by rw[Int.max_def];split<;>split<;>omega)
 have k1:=put d 1 [compF1 26 b c] h (by omega) (by omega) (by simp)
 have ek:compF1 26 b c=wc (if IntKind.i64.wrap (0-c)>c then IntKind.i64.wrap (0-c)else c):=by simp only[w1,e];rfl
 rw[ek]at k1⊢
 refine Con.ev 152 T_ok mix Tryz.func56 rfl rfl rfl rfl [.cell 8 26,.tmp 9] rfl ?_
 conv=>whnf
 (iterate 52 ((first|refine rq_s (by solve|simp only[lms]|fail) ?_|apply rq_s rfl|refine rows_s (sub_all (by solve|simp[lms]|fail)) ?_|apply rows_s rfl|refine fac_s (fun hf=> ?_)|refine ChkS.mk (by kernel_rfl) ?_|apply br_t rfl|apply br_f rfl|apply lend_s|refine call_s (k1 ..) ?_|refine call_s (c30 ..) ?_|refine call_s (c75 ..) ?_);conv=>whnf));(refine sh_s ?_;(rfl))
theorem sm27(d:Dat)(b c:Int)(h:d.st.length≤32)(ht:1≤d.st.length)(qb: -2147483648≤b∧b≤2147483647)(qc: -2147483648≤c∧c≤2147483647):Con Tryz.prog 56 [datV d,.int .i64 27,.int .i64 b,.int .i64 c] (undefs [datV d,.int .i64 27,.int .i64 b,.int .i64 c]) (tV (putF d 1 [compF1 27 b c])):=by
 have w1:=neg_w qc
 have w2:IntKind.i64.wrap (-c-1)= -c-1:=wrap64 (by omega) (by omega)
 have k1:=put d 1 [compF1 27 b c] h (by omega) (by omega) (by simp)
 have ek:compF1 27 b c=IntKind.i64.wrap (IntKind.i64.wrap (0-c)-1):=by simp only[w1,w2];rfl
 rw[ek]at k1⊢
 refine Con.ev 152 T_ok mix Tryz.func56 rfl rfl rfl rfl [.cell 8 26,.tmp 9] rfl ?_
 conv=>whnf
 (iterate 38 ((first|refine rq_s (by solve|simp only[lms]|fail) ?_|apply rq_s rfl|refine rows_s (sub_all (by solve|simp[lms]|fail)) ?_|apply rows_s rfl|refine fac_s (fun hf=> ?_)|apply br_t rfl|apply br_f rfl|apply lend_s|refine call_s (k1 ..) ?_|refine call_s (c30 ..) ?_);conv=>whnf));(refine sh_s ?_;(rfl))
theorem sm28(d:Dat)(b c:Int)(h:d.st.length≤32)(ht:1≤d.st.length)(qb: -2147483648≤b∧b≤2147483647)(qc: -2147483648≤c∧c≤2147483647):Con Tryz.prog 56 [datV d,.int .i64 28,.int .i64 b,.int .i64 c] (undefs [datV d,.int .i64 28,.int .i64 b,.int .i64 c]) (tV (putF d 1 [compF1 28 b c])):=by
 have w1:IntKind.i64.wrap (c+1)=c+1:=wrap64 (by omega) (by omega)
 have k1:=put d 1 [compF1 28 b c] h (by omega) (by omega) (by simp)
 have ek:compF1 28 b c=wc (IntKind.i64.wrap (c+1)):=by simp only[w1];rfl
 rw[ek]at k1⊢
 refine Con.ev 152 T_ok mix Tryz.func56 rfl rfl rfl rfl [.cell 8 26,.tmp 9] rfl ?_
 conv=>whnf
 (iterate 52 ((first|refine rq_s (by solve|simp only[lms]|fail) ?_|apply rq_s rfl|refine rows_s (sub_all (by solve|simp[lms]|fail)) ?_|apply rows_s rfl|refine fac_s (fun hf=> ?_)|refine ChkS.mk (by kernel_rfl) ?_|apply br_t rfl|apply br_f rfl|apply lend_s|refine call_s (k1 ..) ?_|refine call_s (c30 ..) ?_|refine call_s (c75 ..) ?_);conv=>whnf));(refine sh_s ?_;(rfl))
theorem sm29(d:Dat)(b c:Int)(h:d.st.length≤32)(ht:1≤d.st.length)(qb: -2147483648≤b∧b≤2147483647)(qc: -2147483648≤c∧c≤2147483647):Con Tryz.prog 56 [datV d,.int .i64 29,.int .i64 b,.int .i64 c] (undefs [datV d,.int .i64 29,.int .i64 b,.int .i64 c]) (tV (putF d 1 [compF1 29 b c])):=by
 have w1:IntKind.i64.wrap (c-1)=c-1:=wrap64 (by omega) (by omega)
 have k1:=put d 1 [compF1 29 b c] h (by omega) (by omega) (by simp)
 have ek:compF1 29 b c=wc (IntKind.i64.wrap (c-1)):=by simp only[w1];rfl
 rw[ek]at k1⊢
 refine Con.ev 152 T_ok mix Tryz.func56 rfl rfl rfl rfl [.cell 8 26,.tmp 9] rfl ?_
 conv=>whnf
 (iterate 53 ((first|refine rq_s (by solve|simp only[lms]|fail) ?_|apply rq_s rfl|refine rows_s (sub_all (by solve|simp[lms]|fail)) ?_|apply rows_s rfl|refine fac_s (fun hf=> ?_)|refine ChkS.mk (by kernel_rfl) ?_|apply br_t rfl|apply br_f rfl|apply lend_s|refine call_s (k1 ..) ?_|refine call_s (c30 ..) ?_|refine call_s (c75 ..) ?_);conv=>whnf));(refine sh_s ?_;(rfl))
theorem sm30(d:Dat)(b c:Int)(h:d.st.length≤32)(ht:2≤d.st.length)(qb: -2147483648≤b∧b≤2147483647)(qc: -2147483648≤c∧c≤2147483647):Con Tryz.prog 56 [datV d,.int .i64 30,.int .i64 b,.int .i64 c] (undefs [datV d,.int .i64 30,.int .i64 b,.int .i64 c]) (tV (putF d 2 [compF1 30 b c])):=by
 have e:(if c<b then c else b)=min b c:=(by rw[Int.min_def];split<;>split<;>omega)
 have k1:=put d 2 [compF1 30 b c] h (by omega) (by omega) (by simp)
 have ek:compF1 30 b c=(if c<b then c else b):=by simp only[e];rfl
 rw[ek]at k1⊢
 refine Con.ev 152 T_ok mix Tryz.func56 rfl rfl rfl rfl [.cell 8 26,.tmp 9] rfl ?_
 conv=>whnf
 (iterate 41 ((first|refine rq_s (by solve|simp only[lms]|fail) ?_|apply rq_s rfl|refine rows_s (sub_all (by solve|simp[lms]|fail)) ?_|apply rows_s rfl|refine fac_s (fun hf=> ?_)|apply br_t rfl|apply br_f rfl|apply lend_s|refine call_s (k1 ..) ?_|refine call_s (c30 ..) ?_);conv=>whnf));(refine sh_s ?_;(rfl))
theorem sm31(d:Dat)(b c:Int)(h:d.st.length≤32)(ht:2≤d.st.length)(qb: -2147483648≤b∧b≤2147483647)(qc: -2147483648≤c∧c≤2147483647):Con Tryz.prog 56 [datV d,.int .i64 31,.int .i64 b,.int .i64 c] (undefs [datV d,.int .i64 31,.int .i64 b,.int .i64 c]) (tV (putF d 2 [compF1 31 b c])):=by
 have e:(if c>b then c else b)=max b c:=(by rw[Int.max_def];split<;>split<;>omega)
 have k1:=put d 2 [compF1 31 b c] h (by omega) (by omega) (by simp)
 have ek:compF1 31 b c=(if c>b then c else b):=by simp only[e];rfl
 rw[ek]at k1⊢
 refine Con.ev 152 T_ok mix Tryz.func56 rfl rfl rfl rfl [.cell 8 26,.tmp 9] rfl ?_
 conv=>whnf
 (iterate 42 ((first|refine rq_s (by solve|simp only[lms]|fail) ?_|apply rq_s rfl|refine rows_s (sub_all (by solve|simp[lms]|fail)) ?_|apply rows_s rfl|refine fac_s (fun hf=> ?_)|apply br_t rfl|apply br_f rfl|apply lend_s|refine call_s (k1 ..) ?_|refine call_s (c30 ..) ?_);conv=>whnf));(refine sh_s ?_;(rfl))
theorem sm32(d:Dat)(b c:Int)(h:d.st.length≤32)(ht:2≤d.st.length)(qb: -2147483648≤b∧b≤2147483647)(qc: -2147483648≤c∧c≤2147483647):Con Tryz.prog 56 [datV d,.int .i64 32,.int .i64 b,.int .i64 c] (undefs [datV d,.int .i64 32,.int .i64 b,.int .i64 c]) (tV (putF d 2 [compF1 32 b c])):=by
 have k1:=put d 2 [compF1 32 b c] h (by omega) (by omega) (by simp)
 refine Con.ev 152 T_ok mix Tryz.func56 rfl rfl rfl rfl [.cell 8 26,.tmp 9] rfl ?_
 conv=>whnf
 (iterate 16 ((first|apply rq_s rfl|apply br_f rfl|apply lend_s|refine call_s (c30 ..) ?_);conv=>whnf));(iterate 72 ((first|refine rq_s (by solve|simp only[lms]|fail) ?_|apply rq_s rfl|refine row_s (by(rfl)) ?_|refine rows_s (sub_all (by solve|simp[lms]|fail)) ?_|apply rows_s rfl|refine fac_s (fun hf=> ?_)|refine ChkS.mk (by kernel_rfl) ?_|refine call_s (k1 ..) ?_|refine call_s (c80 ..) ?_|refine call_s (c81 ..) ?_);conv=>whnf));(refine sh_s ?_;(rfl))
theorem sm33(d:Dat)(b c:Int)(h:d.st.length≤32)(ht:2≤d.st.length)(qb: -2147483648≤b∧b≤2147483647)(qc: -2147483648≤c∧c≤2147483647):Con Tryz.prog 56 [datV d,.int .i64 33,.int .i64 b,.int .i64 c] (undefs [datV d,.int .i64 33,.int .i64 b,.int .i64 c]) (tV (putF d 2 [compF1 33 b c])):=by
 have k1:=put d 2 [compF1 33 b c] h (by omega) (by omega) (by simp)
 refine Con.ev 152 T_ok mix Tryz.func56 rfl rfl rfl rfl [.cell 8 26,.tmp 9] rfl ?_
 conv=>whnf
 (iterate 16 ((first|apply rq_s rfl|apply br_f rfl|apply lend_s|refine call_s (c30 ..) ?_);conv=>whnf));(iterate 72 ((first|refine rq_s (by solve|simp only[lms]|fail) ?_|apply rq_s rfl|refine row_s (by(rfl)) ?_|refine rows_s (sub_all (by solve|simp[lms]|fail)) ?_|apply rows_s rfl|refine fac_s (fun hf=> ?_)|refine ChkS.mk (by kernel_rfl) ?_|refine call_s (k1 ..) ?_|refine call_s (c80 ..) ?_|refine call_s (c81 ..) ?_);conv=>whnf));(refine sh_s ?_;(rfl))
theorem sm34(d:Dat)(b c:Int)(h:d.st.length≤32)(ht:2≤d.st.length)(qb: -2147483648≤b∧b≤2147483647)(qc: -2147483648≤c∧c≤2147483647):Con Tryz.prog 56 [datV d,.int .i64 34,.int .i64 b,.int .i64 c] (undefs [datV d,.int .i64 34,.int .i64 b,.int .i64 c]) (tV (putF d 2 [compF1 34 b c])):=by
 have k1:=put d 2 [compF1 34 b c] h (by omega) (by omega) (by simp)
 refine Con.ev 152 T_ok mix Tryz.func56 rfl rfl rfl rfl [.cell 8 26,.tmp 9] rfl ?_
 conv=>whnf
 (iterate 16 ((first|apply rq_s rfl|apply br_f rfl|apply lend_s|refine call_s (c30 ..) ?_);conv=>whnf));(iterate 72 ((first|refine rq_s (by solve|simp only[lms]|fail) ?_|apply rq_s rfl|refine row_s (by(rfl)) ?_|refine rows_s (sub_all (by solve|simp[lms]|fail)) ?_|apply rows_s rfl|refine fac_s (fun hf=> ?_)|refine ChkS.mk (by kernel_rfl) ?_|refine call_s (k1 ..) ?_|refine call_s (c80 ..) ?_|refine call_s (c81 ..) ?_);conv=>whnf));(refine sh_s ?_;(rfl))
theorem sm35(d:Dat)(b c:Int)(h:d.st.length≤32)(ht:2≤d.st.length)(qb: -2147483648≤b∧b≤2147483647)(qc: -2147483648≤c∧c≤2147483647):Con Tryz.prog 56 [datV d,.int .i64 35,.int .i64 b,.int .i64 c] (undefs [datV d,.int .i64 35,.int .i64 b,.int .i64 c]) (tV (putF d 2 [compF1 35 b c])):=by
 have k1:=put d 2 [compF1 35 b c] h (by omega) (by omega) (by simp)
 refine Con.ev 152 T_ok mix Tryz.func56 rfl rfl rfl rfl [.cell 8 26,.tmp 9] rfl ?_
 conv=>whnf
 (iterate 16 ((first|apply rq_s rfl|apply br_f rfl|apply lend_s|refine call_s (c30 ..) ?_);conv=>whnf));(iterate 72 ((first|refine rq_s (by solve|simp only[lms]|fail) ?_|apply rq_s rfl|refine row_s (by(rfl)) ?_|refine rows_s (sub_all (by solve|simp[lms]|fail)) ?_|apply rows_s rfl|refine fac_s (fun hf=> ?_)|refine ChkS.mk (by kernel_rfl) ?_|refine call_s (k1 ..) ?_|refine call_s (c80 ..) ?_|refine call_s (c81 ..) ?_);conv=>whnf));(refine sh_s ?_;(rfl))
theorem sm36(d:Dat)(b c:Int)(h:d.st.length≤32)(ht:2≤d.st.length)(qb: -2147483648≤b∧b≤2147483647)(qc: -2147483648≤c∧c≤2147483647):Con Tryz.prog 56 [datV d,.int .i64 36,.int .i64 b,.int .i64 c] (undefs [datV d,.int .i64 36,.int .i64 b,.int .i64 c]) (tV (putF d 2 [compF1 36 b c])):=by
 have k1:=put d 2 [compF1 36 b c] h (by omega) (by omega) (by simp)
 refine Con.ev 152 T_ok mix Tryz.func56 rfl rfl rfl rfl [.cell 8 26,.tmp 9] rfl ?_
 conv=>whnf
 (iterate 16 ((first|apply rq_s rfl|apply br_f rfl|apply lend_s|refine call_s (c30 ..) ?_);conv=>whnf));(iterate 72 ((first|refine rq_s (by solve|simp only[lms]|fail) ?_|apply rq_s rfl|refine row_s (by(rfl)) ?_|refine rows_s (sub_all (by solve|simp[lms]|fail)) ?_|apply rows_s rfl|refine fac_s (fun hf=> ?_)|refine ChkS.mk (by kernel_rfl) ?_|refine call_s (k1 ..) ?_|refine call_s (c80 ..) ?_|refine call_s (c81 ..) ?_);conv=>whnf));(refine sh_s ?_;(rfl))
theorem sm37(d:Dat)(b c:Int)(h:d.st.length≤32)(ht:1≤d.st.length)(qb: -2147483648≤b∧b≤2147483647)(qc: -2147483648≤c∧c≤2147483647):Con Tryz.prog 56 [datV d,.int .i64 37,.int .i64 b,.int .i64 c] (undefs [datV d,.int .i64 37,.int .i64 b,.int .i64 c]) (tV (putF d 1 [compF1 37 b c])):=by
 have k1:=put d 1 [compF1 37 b c] h (by omega) (by omega) (by simp)
 refine Con.ev 152 T_ok mix Tryz.func56 rfl rfl rfl rfl [.cell 8 26,.tmp 9] rfl ?_
 conv=>whnf
 (iterate 56 ((first|refine rq_s (by solve|simp only[lms]|fail) ?_|apply rq_s rfl|refine rows_s (sub_all (by solve|simp[lms]|fail)) ?_|apply rows_s rfl|refine fac_s (fun hf=> ?_)|refine ChkS.mk (by kernel_rfl) ?_|apply br_t rfl|apply br_f rfl|apply lend_s|refine call_s (k1 ..) ?_|refine call_s (c30 ..) ?_|refine call_s (c80 ..) ?_);conv=>whnf));(refine sh_s ?_;(rfl))
theorem sm38(d:Dat)(b c:Int)(h:d.st.length≤32)(ht:1≤d.st.length)(qb: -2147483648≤b∧b≤2147483647)(qc: -2147483648≤c∧c≤2147483647):Con Tryz.prog 56 [datV d,.int .i64 38,.int .i64 b,.int .i64 c] (undefs [datV d,.int .i64 38,.int .i64 b,.int .i64 c]) (tV (putF d 1 [compF1 38 b c])):=by
 have k1:=put d 1 [compF1 38 b c] h (by omega) (by omega) (by simp)
 refine Con.ev 152 T_ok mix Tryz.func56 rfl rfl rfl rfl [.cell 8 26,.tmp 9] rfl ?_
 conv=>whnf
 (iterate 57 ((first|refine rq_s (by solve|simp only[lms]|fail) ?_|apply rq_s rfl|refine rows_s (sub_all (by solve|simp[lms]|fail)) ?_|apply rows_s rfl|refine fac_s (fun hf=> ?_)|refine ChkS.mk (by kernel_rfl) ?_|apply br_t rfl|apply br_f rfl|apply lend_s|refine call_s (k1 ..) ?_|refine call_s (c30 ..) ?_|refine call_s (c80 ..) ?_);conv=>whnf));(refine sh_s ?_;(rfl))
end P13

/- Prims on cells and on the output, by the reference; contracts. -/
open Go Go.Abs Go.Proofs V1 H1 F1 F2 T1 T2 T3 P1 P2 P3 P4 P5 P6 P7 P8 P9 P10 P11 P12 P13
namespace P14
def atI(d:Dat)(a:Int):Int:=match cellAt d a with|none=> -1|some k=>k
theorem c82(d:Dat)(a:Int)(hd:0≤d.he∧d.he≤32)(qa: -2147483648≤a∧a≤2147483647):Con Tryz.prog 82 [datV d,.int .i64 a] (undefs [datV d,.int .i64 a]) (.int .i64 (atI d a)):=by
 have w1:IntKind.i64.wrap (4*d.he)=4*d.he:=wrap64 (by omega) (by omega)
 have w2:IntKind.i64.wrap (4096+4*d.he)=4096+4*d.he:=wrap64 (by omega) (by omega)
 have w3:IntKind.i64.wrap (4096+4*d.he-1)=4096+4*d.he-1:=wrap64 (by omega) (by omega)
 have w4:IntKind.i64.wrap (a-4096)=a-4096:=wrap64 (by omega) (by omega)
 unfold atI
 refine Con.ev 21 T_ok mix Tryz.func82 rfl rfl rfl rfl [.tmp 4] rfl ?_
 conv=>whnf
 iterate 13 (first|(apply rq_s rfl;conv=>whnf)|(apply br_t rfl;conv=>whnf)|(refine br_s ?_ ?_<;>intro hb<;>(try simp only[cln]at hb)<;>conv=>whnf)|(apply lend_s;conv=>whnf)|(refine call_s (c30 ..) ?_;conv=>whnf))
 rotate_left
 iterate 5 (first|(apply rq_s rfl;conv=>whnf)|(apply br_f rfl;conv=>whnf)|(refine br_s ?_ ?_<;>intro hb<;>(try simp only[cln]at hb)<;>conv=>whnf))
 rotate_left
 iterate 2 (apply rq_s rfl;conv=>whnf)
 rotate_left
 ·rw[w1,w2,w3]at hb
  rw[cell_n (.inl hb)]
  exact sh_s rfl
 ·rw[cell_n (.inr hb)]
  exact sh_s rfl
 ·have h1:inR a 4096 (4096+4*d.he-1)=true:=by rw[←w3,←w2,←w1];assumption
  have hk:=cell_lt (cell_s h1 hb) hd
  rw[cell_s h1 hb]
  generalize ((a-4096).tdiv 4).toNat=k at hk
  rw[w4,hk.2,wrap64 (by omega) (by omega)]
  exact sh_s rfl
theorem at_n{d:Dat}{a:Int}(h:cellAt d a=none):atI d a= -1:=by rw[atI,h]
theorem at_s{d:Dat}{a:Int}{k:Nat}(h:cellAt d a=some k):atI d a=k:=by rw[atI,h]
theorem c83(d:Dat)(a n:Int)(hd:0≤d.he∧d.he≤32)(hc:d.ce.length=32)(qa: -2147483648≤a∧a≤2147483647):Con Tryz.prog 83 [datV d,.int .i64 a,.int .i64 n] (undefs [datV d,.int .i64 a,.int .i64 n]) (tV (storeF d a n)):=by
 have k1:=c82 d a hd qa
 cases hk:cellAt d a with
 |none=>
  rw[at_n hk]at k1
  rw[store_n hk]
  refine Con.ev 26 T_ok mix Tryz.func83 rfl rfl rfl rfl [.cell 6 26,.tmp 7] rfl ?_
  conv=>whnf
  (iterate 26 ((first|apply rq_s rfl|apply rows_s rfl|refine fac_s (fun hf=> ?_)|apply br_t rfl|apply lend_s|refine call_s (k1 ..) ?_);conv=>whnf));(refine sh_s ?_;(rfl))
 |some k=>
  rw[at_s hk]at k1
  have hl:=cell_lt hk hd
  have g1:decide ((k:Int)<0)=false:=decide_eq_false (by omega)
  rw[store_s hk]
  refine Con.ev 26 T_ok mix Tryz.func83 rfl rfl rfl rfl [.cell 6 26,.tmp 7] rfl ?_
  conv=>whnf
  iterate 39 ((first|refine rq_s (by solve|simp only[lms]|fail) ?_|apply rq_s rfl|refine rq_s (by refine and_s rfl ?_;simp only[lnm];omega) ?_|refine rq_s (by((first|(simp;omega)|(simp[maxBytes,AV.plain,subA];omega)))) ?_|refine rows_s (by(exact setRow_at (j:=k) (by omega) (by omega))) ?_|refine rows_s (sub_all (by solve|simp[lms]|fail)) ?_|apply rows_s rfl|refine app0_s ?_|refine fac_s (fun hf=> ?_)|apply br_f rfl|apply lend_s|refine call_s (k1 ..) ?_);conv=>whnf)
  rotate_left
  exact⟨Sh.tup ⟨Sh.agg ⟨Sh.refl _,Sh.refl _,Sh.own_ro (lvl:=1) (by omega) _ _,Sh.refl _,Sh.refl _,Sh.refl _,trivial⟩,Sh.refl _,trivial⟩⟩
theorem c86(d:Dat)(t:List UInt8)(h:d.ou.length≤300)(ht:t.length≤1000):Con Tryz.prog 86 [datV d,.str t] (undefs [datV d,.str t]) (tV (sayF d t)):=by
 have w1:IntKind.i64.wrap ((d.ou.length:Int)+(t.length:Int))=((d.ou.length+t.length:Nat):Int):=by rw[wrap64 (by omega) (by omega)];omega
 refine Con.ev 20 T_ok mix Tryz.func86 rfl rfl rfl rfl [.cell 4 26,.tmp 5] rfl ?_
 conv=>whnf
 iterate 14 (first|(apply rq_s rfl;conv=>whnf)|(apply rows_s rfl;conv=>whnf)|(refine br_s ?_ ?_<;>intro hb<;>(try simp only[cln]at hb)<;>conv=>whnf))
 rotate_left
 (apply rq_s rfl;conv=>whnf)
 rotate_left
 ·rw[w1]at hb
  rw[say_t (by omega)]
  exact sh_s rfl
 ·rw[w1]at hb
  rw[say_f (by omega)]
  (iterate 13 ((first|apply rq_s rfl|refine rq_s (by(((exact decide_eq_true (by unfold maxStr;omega))))) ?_|apply rows_s rfl);conv=>whnf));(refine sh_s ?_;(rfl))
theorem c84(d:Dat)(n:Int)(hd:0≤d.he∧d.he≤32)(hc:d.ce.length=32)(qn: -2147483648≤n∧n≤2147483647):Con Tryz.prog 84 [datV d,.int .i64 n] (undefs [datV d,.int .i64 n]) (tV (allotF d n)):=by
 have hq:=tdiv_le n 4
 have wq:IntKind.i64.wrap (n.tdiv 4)=n.tdiv 4:=wrap64 (by omega) (by omega)
 have w1:IntKind.i64.wrap (d.he+n.tdiv 4)=d.he+n.tdiv 4:=wrap64 (by omega) (by omega)
 refine Con.ev 47 T_ok mix Tryz.func84 rfl rfl rfl rfl [.cell 4 26,.tmp 5] rfl ?_
 conv=>whnf
 iterate 22 (first|(apply rq_s rfl;conv=>whnf)|(apply rows_s rfl;conv=>whnf)|(apply br_t rfl;conv=>whnf)|(refine br_s ?_ ?_<;>intro hb<;>(try simp only[cln]at hb)<;>conv=>whnf))
 rotate_left
 iterate 25 (first|(apply rq_s rfl;conv=>whnf)|(apply rows_s rfl;conv=>whnf)|(apply br_f rfl;conv=>whnf)|(refine br_s ?_ ?_<;>intro hb<;>(try simp only[cln]at hb)<;>conv=>whnf)|(apply lend_s;conv=>whnf)|(refine call_s (c30 ..) ?_;conv=>whnf))
 rotate_left
 iterate 8 ((first|apply rq_s rfl|refine rq_s (by(((simp[maxBytes,AV.plain,subA];omega)))) ?_|refine app0_s ?_);conv=>whnf)
 rotate_left
 ·rw[allot_n (.inl hb)]
  exact sh_s rfl
 ·rw[wq,w1]at hb
  rw[allot_n (.inr hb)]
  exact sh_s rfl
 rw[wq,w1]at hb
 have hi:=inR_t hb
 have h4:n.tmod 4=0:=by assumption
 rw[allot_s h4 hb,zeros_zr hd.1 hi.1]
 refine LoopG.auto (α:=Nat) T_ok mix [1,2,4,6] (fun j=>[(1,.int .i64 n),(2,.ptr 1 0 0),(4,.ptr 3 0 0),(6,.int .i64 (d.he+j))]) (fun j=>[(1,.live ⟨false,0,[roI d.st,roI d.bk,roI d.ce,.int .i64 d.he,.int .i64 d.ba,.str d.ou],[[roI d.st,roI d.bk,.ref 2 0 d.ce.length,.int .i64 d.he,.int .i64 d.ba,.str d.ou]]⟩),(2,.live ⟨true,1,zI,(zr d.ce d.he.toNat j).map intR⟩),(3,.live ⟨false,0,[.emp,.emp,.emp,.int .i64 0,.int .i64 0,.str []],[[.emp,.emp,.emp,.int .i64 0,.int .i64 0,.str []]]⟩)]) (fun j=>j≤(n.tdiv 4).toNat) (fun j=>(n.tdiv 4).toNat-j) ?_ ?_
 ·conv=>whnf
  (apply ChkS.mk (by kernel_rfl);conv=>whnf)
  rotate_left
  exact head_s 0 (by omega) (by simp) (by simp[zr_0,roI,zI])
 ·rintro j hj- -
  by_cases hlt:j<(n.tdiv 4).toNat
  ·have gd:decide (d.he+(j:Int)<IntKind.i64.wrap (d.he+IntKind.i64.wrap (n.tdiv 4)))=true:=by rw[wq,w1];exact decide_eq_true (by omega)
   have hz:=zr_len (ce:=d.ce) (a:=d.he.toNat) (j:=j) (by omega)
   conv=>whnf
   iterate 9 ((first|refine rq_s (by solve|simp only[lms]|fail) ?_|apply rq_s rfl|refine rq_s (by refine and_s rfl ?_;simp only[lnm];omega) ?_|refine rq_s (by simp only[Bool.and_eq_true,decide_eq_true_eq,List.length_map];omega) ?_|refine rows_s (by(exact setRow_at (j:=d.he.toNat+j) (by rw[hz];omega) (by omega))) ?_|refine ChkS.mk (by kernel_rfl) ?_|refine br_t (by assumption) ?_);conv=>whnf)
   rotate_left
   refine head_s (j+1) ⟨by omega,by omega⟩ (by rw[wrap64 (by omega) (by omega),show d.he+(j:Int)+1=d.he+((j+1:Nat):Int) by omega]) ?_
   rw[zr_next (by omega)]
   rfl
  ·have gd:decide (d.he+(j:Int)<IntKind.i64.wrap (d.he+IntKind.i64.wrap (n.tdiv 4)))=false:=by rw[wq,w1];exact decide_eq_false (by omega)
   conv=>whnf
   iterate 18 ((first|refine rq_s (by solve|simp only[lms]|fail) ?_|apply rq_s rfl|refine rows_s (by(exact sub_map _ _ _ _)) ?_|apply rows_s rfl|refine br_f (by assumption) ?_);conv=>whnf)
   rotate_left
   obtain rfl:j=(n.tdiv 4).toNat:=by omega
   have hz:=zr_len (ce:=d.ce) (a:=d.he.toNat) (j:=(n.tdiv 4).toNat) (by omega)
   rw[wq,w1,List.drop_zero,List.take_of_length_le (by omega)]
   exact⟨Sh.tup ⟨Sh.agg ⟨Sh.refl _,Sh.refl _,Sh.own_ro (lvl:=1) (by omega) _ _,Sh.refl _,Sh.refl _,Sh.refl _,trivial⟩,Sh.refl _,trivial⟩⟩
end P14

/- Prims on cells and on the output in whole, by the reference; contracts. -/
open Go Go.Abs Go.Proofs V1 H1 F1 F2 T1 T2 T3 P1 P2 P3 P4 P5 P6 P7 P8 P9 P10 P11 P12 P13 P14
namespace P15
theorem md_n(p:Nat)(hp:p=39∨p=40∨p=41)(d:Dat)(b c:Int)(h:Dk d)(qc: -2147483648≤c∧c≤2147483647)(hk:cellAt d c=none):Con Tryz.prog 57 [datV d,.int .i64 p,.int .i64 b,.int .i64 c] (undefs [datV d,.int .i64 p,.int .i64 b,.int .i64 c]) (tV (d,-9)):=by
 have k1:=c82 d c h.he qc
 rw[at_n hk]at k1
 rcases hp with rfl|rfl|rfl
 ·refine Con.ev 119 T_ok mix Tryz.func57 rfl rfl rfl rfl [.cell 8 26,.tmp 9] rfl ?_
  conv=>whnf
  (iterate 27 ((first|apply rq_s rfl|apply rows_s rfl|refine fac_s (fun hf=> ?_)|apply br_t rfl|apply lend_s|refine call_s (k1 ..) ?_);conv=>whnf));(refine sh_s ?_;(rfl))
 ·refine Con.ev 119 T_ok mix Tryz.func57 rfl rfl rfl rfl [.cell 8 26,.tmp 9] rfl ?_
  conv=>whnf
  (iterate 29 ((first|apply rq_s rfl|apply rows_s rfl|refine fac_s (fun hf=> ?_)|apply br_t rfl|apply br_f rfl|apply lend_s|refine call_s (k1 ..) ?_);conv=>whnf));(refine sh_s ?_;(rfl))
 ·refine Con.ev 119 T_ok mix Tryz.func57 rfl rfl rfl rfl [.cell 8 26,.tmp 9] rfl ?_
  conv=>whnf
  (iterate 29 ((first|apply rq_s rfl|apply rows_s rfl|refine fac_s (fun hf=> ?_)|apply br_t rfl|apply br_f rfl|apply lend_s|refine call_s (k1 ..) ?_);conv=>whnf));(refine sh_s ?_;(rfl))
theorem md39(d:Dat)(b c:Int)(h:Dk d)(ht:1≤d.st.length)(qc: -2147483648≤c∧c≤2147483647)(k:Nat)(hk:cellAt d c=some k):Con Tryz.prog 57 [datV d,.int .i64 39,.int .i64 b,.int .i64 c] (undefs [datV d,.int .i64 39,.int .i64 b,.int .i64 c]) (tV (putF d 1 [d.ce.getD k 0])):=by
 have k1:=c82 d c h.he qc
 rw[at_s hk]at k1
 have hl:=cell_lt hk h.he
 have hc:=h.ce
 have hh:=h.he
 have g1:decide ((k:Int)<0)=false:=decide_eq_false (by omega)
 have k2:=put d 1 [d.ce.getD k 0] h.st (by omega) (by omega) (by simp)
 refine Con.ev 119 T_ok mix Tryz.func57 rfl rfl rfl rfl [.cell 8 26,.tmp 9] rfl ?_
 conv=>whnf
 (iterate 25 ((first|apply rq_s rfl|refine rq_s (by refine and_s rfl ?_;simp only[lnm];omega) ?_|apply rows_s rfl|refine fac_s (fun hf=> ?_)|refine ChkS.mk (by kernel_rfl) ?_|apply br_t rfl|apply br_f rfl|apply lend_s|refine call_s (k1 ..) ?_);conv=>whnf));(refine row_s (by((try rewrite[Nat.zero_add]);(try simp only[Int.toNat_natCast]);exact row_map intR _ _ _ 0 (by omega))) ?_;conv=>whnf);(iterate 34 ((first|refine rq_s (by solve|simp only[lms]|fail) ?_|apply rq_s rfl|refine rows_s (sub_all (by solve|simp[lms]|fail)) ?_|apply rows_s rfl|refine fac_s (fun hf=> ?_)|refine ChkS.mk (by kernel_rfl) ?_|refine call_s (k2 ..) ?_);conv=>whnf));(refine sh_s ?_;(rfl))
theorem md40(d:Dat)(b c:Int)(h:Dk d)(ht:2≤d.st.length)(qb: -2147483648≤b∧b≤2147483647)(qc: -2147483648≤c∧c≤2147483647)(k:Nat)(hk:cellAt d c=some k):Con Tryz.prog 57 [datV d,.int .i64 40,.int .i64 b,.int .i64 c] (undefs [datV d,.int .i64 40,.int .i64 b,.int .i64 c]) (tV (putF {d with ce:=d.ce.set k b} 2 [])):=by
 have k1:=c82 d c h.he qc
 rw[at_s hk]at k1
 have hl:=cell_lt hk h.he
 have hc:=h.ce
 have hh:=h.he
 have g1:decide ((k:Int)<0)=false:=decide_eq_false (by omega)
 have k2:=c83 d c b h.he h.ce qc
 rw[store_s hk]at k2
 have k3:=putE {d with ce:=d.ce.set k b} 2 h.st (by omega) (by simp only;omega)
 refine Con.ev 119 T_ok mix Tryz.func57 rfl rfl rfl rfl [.cell 8 26,.tmp 9] rfl ?_
 conv=>whnf
 (iterate 58 ((first|apply rq_s rfl|apply rows_s rfl|refine fac_s (fun hf=> ?_)|apply br_t rfl|apply br_f rfl|apply lend_s|refine call_s (k1 ..) ?_|refine call_s (k2 ..) ?_|refine call_s (k3 ..) ?_);conv=>whnf));(refine sh_s ?_;(rfl))
theorem md41(d:Dat)(b c:Int)(h:Dk d)(ht:2≤d.st.length)(qb: -2147483648≤b∧b≤2147483647)(qc: -2147483648≤c∧c≤2147483647)(k:Nat)(hk:cellAt d c=some k):Con Tryz.prog 57 [datV d,.int .i64 41,.int .i64 b,.int .i64 c] (undefs [datV d,.int .i64 41,.int .i64 b,.int .i64 c]) (tV (putF {d with ce:=d.ce.set k (wc (d.ce.getD k 0+b))} 2 [])):=by
 have k1:=c82 d c h.he qc
 rw[at_s hk]at k1
 have hl:=cell_lt hk h.he
 have hc:=h.ce
 have hh:=h.he
 have g1:decide ((k:Int)<0)=false:=decide_eq_false (by omega)
 have hx: -2147483648≤d.ce.getD k 0∧d.ce.getD k 0≤2147483647:=by
  have e:d.ce.getD k 0=d.ce[k]'(by omega):=by simp[show k<d.ce.length by omega]
  rw[e]
  exact h.cs _ (List.getElem_mem _)
 have wx:IntKind.i64.wrap (d.ce.getD k 0+b)=d.ce.getD k 0+b:=wrap64 (by omega) (by omega)
 have k2:=c83 d c (wc (d.ce.getD k 0+b)) h.he h.ce qc
 rw[store_s hk]at k2
 have k3:=putE {d with ce:=d.ce.set k (wc (d.ce.getD k 0+b))} 2 h.st (by omega) (by simp only;omega)
 rw[←wx]at k2 k3⊢
 refine Con.ev 119 T_ok mix Tryz.func57 rfl rfl rfl rfl [.cell 8 26,.tmp 9] rfl ?_
 conv=>whnf
 (iterate 22 ((first|apply rq_s rfl|refine rq_s (by refine and_s rfl ?_;simp only[lnm];omega) ?_|apply rows_s rfl|refine fac_s (fun hf=> ?_)|apply br_t rfl|apply br_f rfl|apply lend_s|refine call_s (k1 ..) ?_);conv=>whnf));(refine row_s (by((try rewrite[Nat.zero_add]);(try simp only[Int.toNat_natCast]);exact row_map intR _ _ _ 0 (by omega))) ?_;conv=>whnf);(iterate 43 ((first|apply rq_s rfl|apply rows_s rfl|refine fac_s (fun hf=> ?_)|apply lend_s|refine call_s (k2 ..) ?_|refine call_s (k3 ..) ?_|refine call_s (c75 ..) ?_);conv=>whnf));(refine sh_s ?_;(rfl))
theorem md42(d:Dat)(b c:Int)(h:Dk d):Con Tryz.prog 57 [datV d,.int .i64 42,.int .i64 b,.int .i64 c] (undefs [datV d,.int .i64 42,.int .i64 b,.int .i64 c]) (tV (putF d 0 [4096+4*d.he])):=by
 have hh:=h.he
 have w1:IntKind.i64.wrap (4*d.he)=4*d.he:=wrap64 (by omega) (by omega)
 have w2:IntKind.i64.wrap (4096+4*d.he)=4096+4*d.he:=wrap64 (by omega) (by omega)
 have e:4096+4*d.he=IntKind.i64.wrap (4096+IntKind.i64.wrap (4*d.he)):=by rw[w1,w2]
 have k1:=put d 0 [4096+4*d.he] h.st (by omega) (by omega) (by simp)
 rw[e]at k1⊢
 refine Con.ev 119 T_ok mix Tryz.func57 rfl rfl rfl rfl [.cell 8 26,.tmp 9] rfl ?_
 conv=>whnf
 (iterate 34 ((first|refine rq_s (by solve|simp only[lms]|fail) ?_|apply rq_s rfl|refine rows_s (sub_all (by solve|simp[lms]|fail)) ?_|apply rows_s rfl|refine fac_s (fun hf=> ?_)|apply br_t rfl|apply br_f rfl|apply lend_s|refine call_s (k1 ..) ?_);conv=>whnf));(refine sh_s ?_;(rfl))
theorem md43(d:Dat)(b c:Int)(h:Dk d)(ht:1≤d.st.length)(qc: -2147483648≤c∧c≤2147483647):Con Tryz.prog 57 [datV d,.int .i64 43,.int .i64 b,.int .i64 c] (undefs [datV d,.int .i64 43,.int .i64 b,.int .i64 c]) (tV (if(allotF d c).2≠0 then(d,(allotF d c).2)else putF (allotF d c).1 1 [])):=by
 have k1:=c84 d c h.he h.ce qc
 have es:(allotF d c).1.st=d.st:=by unfold allotF;split<;>rfl
 have k2:=putE (allotF d c).1 1 (by rw[es];exact h.st) (by omega) (by rw[es];omega)
 by_cases h0:(allotF d c).2=0
 ·have g0:((allotF d c).2 != 0)=false:=by rw[h0];rfl
  rw[if_neg (fun k=>k h0)]
  generalize allotF d c=x at k1 k2 g0
  refine Con.ev 119 T_ok mix Tryz.func57 rfl rfl rfl rfl [.cell 8 26,.tmp 9] rfl ?_
  conv=>whnf
  (iterate 45 ((first|apply rq_s rfl|apply rows_s rfl|refine fac_s (fun hf=> ?_)|apply br_t rfl|apply br_f rfl|refine br_f (by assumption) ?_|apply lend_s|refine call_s (k1 ..) ?_|refine call_s (k2 ..) ?_);conv=>whnf));(refine sh_s ?_;(rfl))
 ·have g0:((allotF d c).2 != 0)=true:=bne_iff_ne.2 h0
  rw[if_pos h0]
  generalize allotF d c=x at k1 k2 g0
  refine Con.ev 119 T_ok mix Tryz.func57 rfl rfl rfl rfl [.cell 8 26,.tmp 9] rfl ?_
  conv=>whnf
  (iterate 31 ((first|apply rq_s rfl|apply rows_s rfl|refine fac_s (fun hf=> ?_)|apply br_t rfl|apply br_f rfl|refine br_t (by assumption) ?_|apply lend_s|refine call_s (k1 ..) ?_);conv=>whnf));(refine sh_s ?_;(rfl))
theorem allot4(d:Dat)(h:Dk d):(allotF d 4).2≠0∨((allotF d 4).2=0∧(0≤(allotF d 4).1.he∧(allotF d 4).1.he≤32)∧(allotF d 4).1.ce.length=32):=by
 have hh:=h.he
 by_cases hi:inR (d.he+(4:Int).tdiv 4) 0 32=true
 ·have h2:=inR_t hi
  rw[allot_s rfl hi]
  refine .inr ⟨rfl,h2,?_⟩
  rw[zeros_zr hh.1 h2.1,zr_len]
  ·exact h.ce
  ·have:(4:Int).tdiv 4=1:=rfl
   have:=h.ce
   omega
 ·rw[allot_n (.inr (by simpa using hi))]
  exact .inl (by simp)
theorem md44(d:Dat)(b c:Int)(h:Dk d)(ht:1≤d.st.length)(qc: -2147483648≤c∧c≤2147483647):Con Tryz.prog 57 [datV d,.int .i64 44,.int .i64 b,.int .i64 c] (undefs [datV d,.int .i64 44,.int .i64 b,.int .i64 c]) (tV (if(allotF d 4).2≠0 then(d,(allotF d 4).2)else putF (storeF (allotF d 4).1 (4096+4*d.he) c).1 1 [])):=by
 have hh:=h.he
 have w1:IntKind.i64.wrap (4*d.he)=4*d.he:=wrap64 (by omega) (by omega)
 have w2:IntKind.i64.wrap (4096+4*d.he)=4096+4*d.he:=wrap64 (by omega) (by omega)
 have e:4096+4*d.he=IntKind.i64.wrap (4096+IntKind.i64.wrap (4*d.he)):=by rw[w1,w2]
 have k1:=c84 d 4 h.he h.ce (by omega)
 have es:(allotF d 4).1.st=d.st:=by unfold allotF;split<;>rfl
 rcases allot4 d h with h0|⟨h0,h2,h3⟩
 ·have g0:((allotF d 4).2 != 0)=true:=bne_iff_ne.2 h0
  rw[if_pos h0]
  generalize allotF d 4=x at k1 g0
  refine Con.ev 119 T_ok mix Tryz.func57 rfl rfl rfl rfl [.cell 8 26,.tmp 9] rfl ?_
  conv=>whnf
  (iterate 31 ((first|apply rq_s rfl|apply rows_s rfl|refine fac_s (fun hf=> ?_)|apply br_f rfl|refine br_t (by assumption) ?_|apply lend_s|refine call_s (k1 ..) ?_);conv=>whnf));(refine sh_s ?_;(rfl))
 ·have g0:((allotF d 4).2 != 0)=false:=by rw[h0];rfl
  rw[if_neg (fun k=>k h0)]
  have k2:=c83 (allotF d 4).1 (4096+4*d.he) c h2 h3 (by omega)
  have es2:(storeF (allotF d 4).1 (4096+4*d.he) c).1.st=d.st:=by unfold storeF;split<;>exact es
  have k3:=putE (storeF (allotF d 4).1 (4096+4*d.he) c).1 1 (by rw[es2];exact h.st) (by omega) (by rw[es2];omega)
  rw[e]at k2 k3⊢
  generalize allotF d 4=x at k1 k2 k3 g0
  generalize hy:storeF x.1 (IntKind.i64.wrap (4096+IntKind.i64.wrap (4*d.he))) c=y at k2 k3
  refine Con.ev 119 T_ok mix Tryz.func57 rfl rfl rfl rfl [.cell 8 26,.tmp 9] rfl ?_
  conv=>whnf
  (iterate 60 ((first|apply rq_s rfl|apply rows_s rfl|refine fac_s (fun hf=> ?_)|apply br_f rfl|refine br_f (by assumption) ?_|apply lend_s|refine call_s (k1 ..) ?_|refine call_s (k2 ..) ?_|refine call_s (k3 ..) ?_);conv=>whnf));(refine sh_s ?_;(rfl))
end P15

/- Prims on the output, by the reference; contracts. -/
open Go Go.Abs Go.Proofs V1 H1 F1 F2 T1 T2 T3 P1 P2 P3 P4 P5 P6 P7 P8 P9 P10 P11 P12 P13 P14 P15
namespace P16
def sayT(p:Nat)(d:Dat)(c:Int):List UInt8:=match p with
 |45=>[UInt8.ofNat (c%256).toNat]
 |46=>txtF c d.ba.toNat++[32]
 |47=>[10]
 |_=>[32]
def sayR(p:Nat)(d:Dat)(c:Int):Dat × Int:=if(sayF d (sayT p d c)).2≠0 then(d,(sayF d (sayT p d c)).2)else putF (sayF d (sayT p d c)).1 (takesN p) []
theorem and255(c:Int):UInt8.ofNat (IntKind.u8.wrap (bitw (· &&& ·) c 255)).toNat=UInt8.ofNat (c%256).toNat:=by
 refine congrArg (fun x:Int=>UInt8.ofNat x.toNat) ?_
 have e:((BitVec.ofInt 64 c&&&BitVec.ofInt 64 255).toNat:Int)=c%256:=by
  rw[BitVec.toNat_and,show(BitVec.ofInt 64 255).toNat=2 ^ 8-1 from rfl,Nat.and_two_pow_sub_one_eq_mod,BitVec.toNat_ofInt]
  omega
 show IntKind.u8.wrap (IntKind.i64.wrap _)=_
 rw[e,wrap64 (by omega) (by omega)]
 show c%256%256=c%256
 omega
theorem sy(p:Nat)(hp:p=45∨p=46∨p=47∨p=48)(d:Dat)(c:Int)(h:Dk d)(ht:takesN p≤d.st.length)(qc: -2147483648≤c∧c≤2147483647):Con Tryz.prog 58 [datV d,.int .i64 p,.int .i64 c] (undefs [datV d,.int .i64 p,.int .i64 c]) (tV (sayR p d c)):=by
 have eb:((d.ba.toNat:Nat):Int)=d.ba:=by have:=h.ba;omega
 have hcell:cell c=true:=by simp[cell,inR];omega
 have hb16:2≤d.ba.toNat∧d.ba.toNat≤16:=by have:=h.ba;omega
 have k0:=c85 c d.ba.toNat hcell hb16
 have hl:=txt_len c hb16.1 hcell
 rw[eb]at k0
 have hlen:(sayT p d c).length≤1000:=by rcases hp with rfl|rfl|rfl|rfl<;>simp[sayT];omega
 have k1:=c86 d (sayT p d c) h.ou hlen
 have es:(sayF d (sayT p d c)).1.st=d.st:=by unfold sayF;split<;>rfl
 have k2:=putE (sayF d (sayT p d c)).1 (takesN p) (by rw[es];exact h.st) (by omega) (by rw[es];omega)
 unfold sayR
 rcases hp with rfl|rfl|rfl|rfl
 ·rw[show sayT 45 d c=[UInt8.ofNat (IntKind.u8.wrap (bitw (· &&& ·) c 255)).toNat]from by rw[and255];rfl]at k1 k2⊢
  by_cases h0:(sayF d [UInt8.ofNat (IntKind.u8.wrap (bitw (· &&& ·) c 255)).toNat]).2=0
  ·have g0:((sayF d [UInt8.ofNat (IntKind.u8.wrap (bitw (· &&& ·) c 255)).toNat]).2 != 0)=false:=by rw[h0];rfl
   rw[if_neg (fun k=>k h0)]
   generalize sayF d [UInt8.ofNat (IntKind.u8.wrap (bitw (· &&& ·) c 255)).toNat]=x at k1 k2 g0
   refine Con.ev 52 T_ok mix Tryz.func58 rfl rfl rfl rfl [.cell 6 26,.tmp 7] rfl ?_
   conv=>whnf
   (iterate 45 ((first|refine rq_s (by solve|simp only[lms]|fail) ?_|apply rq_s rfl|apply rows_s rfl|refine byt_s rfl ?_|refine fac_s (fun hf=> ?_)|apply br_t rfl|refine br_f (by assumption) ?_|apply lend_s|refine call_s (k1 ..) ?_|refine call_s (k2 ..) ?_);conv=>whnf));(refine sh_s ?_;(rfl))
  ·have g0:((sayF d [UInt8.ofNat (IntKind.u8.wrap (bitw (· &&& ·) c 255)).toNat]).2 != 0)=true:=bne_iff_ne.2 h0
   rw[if_pos h0]
   generalize sayF d [UInt8.ofNat (IntKind.u8.wrap (bitw (· &&& ·) c 255)).toNat]=x at k1 k2 g0
   refine Con.ev 52 T_ok mix Tryz.func58 rfl rfl rfl rfl [.cell 6 26,.tmp 7] rfl ?_
   conv=>whnf
   (iterate 31 ((first|refine rq_s (by solve|simp only[lms]|fail) ?_|apply rq_s rfl|apply rows_s rfl|refine byt_s rfl ?_|refine fac_s (fun hf=> ?_)|apply br_t rfl|refine br_t (by assumption) ?_|apply lend_s|refine call_s (k1 ..) ?_);conv=>whnf));(refine sh_s ?_;(rfl))
 ·have k1:Con Tryz.prog 86 [datV d,.str (txtF c d.ba.toNat++[32])] (undefs [datV d,.str (txtF c d.ba.toNat++[32])]) (tV (sayF d (sayT 46 d c))):=k1
  by_cases h0:(sayF d (sayT 46 d c)).2=0
  ·have g0:((sayF d (sayT 46 d c)).2 != 0)=false:=by rw[h0];rfl
   rw[if_neg (fun k=>k h0)]
   generalize sayF d (sayT 46 d c)=x at k1 k2 g0
   refine Con.ev 52 T_ok mix Tryz.func58 rfl rfl rfl rfl [.cell 6 26,.tmp 7] rfl ?_
   conv=>whnf
   (iterate 49 ((first|apply rq_s rfl|refine rq_s (by(((exact decide_eq_true (by unfold maxStr;simp;omega))))) ?_|apply rows_s rfl|refine fac_s (fun hf=> ?_)|apply br_t rfl|apply br_f rfl|refine br_f (by assumption) ?_|apply lend_s|refine call_s (k0 ..) ?_|refine call_s (k1 ..) ?_|refine call_s (k2 ..) ?_);conv=>whnf));(refine sh_s ?_;(rfl))
  ·have g0:((sayF d (sayT 46 d c)).2 != 0)=true:=bne_iff_ne.2 h0
   rw[if_pos h0]
   generalize sayF d (sayT 46 d c)=x at k1 k2 g0
   refine Con.ev 52 T_ok mix Tryz.func58 rfl rfl rfl rfl [.cell 6 26,.tmp 7] rfl ?_
   conv=>whnf
   (iterate 35 ((first|apply rq_s rfl|refine rq_s (by(((exact decide_eq_true (by unfold maxStr;simp;omega))))) ?_|apply rows_s rfl|refine fac_s (fun hf=> ?_)|apply br_t rfl|apply br_f rfl|refine br_t (by assumption) ?_|apply lend_s|refine call_s (k0 ..) ?_|refine call_s (k1 ..) ?_);conv=>whnf));(refine sh_s ?_;(rfl))
 ·have k1:Con Tryz.prog 86 [datV d,.str [10]] (undefs [datV d,.str [10]]) (tV (sayF d (sayT 47 d c))):=k1
  by_cases h0:(sayF d (sayT 47 d c)).2=0
  ·have g0:((sayF d (sayT 47 d c)).2 != 0)=false:=by rw[h0];rfl
   rw[if_neg (fun k=>k h0)]
   generalize sayF d (sayT 47 d c)=x at k1 k2 g0
   refine Con.ev 52 T_ok mix Tryz.func58 rfl rfl rfl rfl [.cell 6 26,.tmp 7] rfl ?_
   conv=>whnf
   (iterate 43 ((first|apply rq_s rfl|apply rows_s rfl|refine fac_s (fun hf=> ?_)|apply br_t rfl|apply br_f rfl|refine br_f (by assumption) ?_|apply lend_s|refine call_s (k1 ..) ?_|refine call_s (k2 ..) ?_);conv=>whnf));(refine sh_s ?_;(rfl))
  ·have g0:((sayF d (sayT 47 d c)).2 != 0)=true:=bne_iff_ne.2 h0
   rw[if_pos h0]
   generalize sayF d (sayT 47 d c)=x at k1 k2 g0
   refine Con.ev 52 T_ok mix Tryz.func58 rfl rfl rfl rfl [.cell 6 26,.tmp 7] rfl ?_
   conv=>whnf
   (iterate 29 ((first|apply rq_s rfl|apply rows_s rfl|refine fac_s (fun hf=> ?_)|apply br_t rfl|apply br_f rfl|refine br_t (by assumption) ?_|apply lend_s|refine call_s (k1 ..) ?_);conv=>whnf));(refine sh_s ?_;(rfl))
 ·have k1:Con Tryz.prog 86 [datV d,.str [32]] (undefs [datV d,.str [32]]) (tV (sayF d (sayT 48 d c))):=k1
  by_cases h0:(sayF d (sayT 48 d c)).2=0
  ·have g0:((sayF d (sayT 48 d c)).2 != 0)=false:=by rw[h0];rfl
   rw[if_neg (fun k=>k h0)]
   generalize sayF d (sayT 48 d c)=x at k1 k2 g0
   refine Con.ev 52 T_ok mix Tryz.func58 rfl rfl rfl rfl [.cell 6 26,.tmp 7] rfl ?_
   conv=>whnf
   (iterate 44 ((first|apply rq_s rfl|apply rows_s rfl|refine fac_s (fun hf=> ?_)|apply br_t rfl|apply br_f rfl|refine br_f (by assumption) ?_|apply lend_s|refine call_s (k1 ..) ?_|refine call_s (k2 ..) ?_);conv=>whnf));(refine sh_s ?_;(rfl))
  ·have g0:((sayF d (sayT 48 d c)).2 != 0)=true:=bne_iff_ne.2 h0
   rw[if_pos h0]
   generalize sayF d (sayT 48 d c)=x at k1 k2 g0
   refine Con.ev 52 T_ok mix Tryz.func58 rfl rfl rfl rfl [.cell 6 26,.tmp 7] rfl ?_
   conv=>whnf
   (iterate 30 ((first|apply rq_s rfl|apply rows_s rfl|refine fac_s (fun hf=> ?_)|apply br_t rfl|apply br_f rfl|refine br_t (by assumption) ?_|apply lend_s|refine call_s (k1 ..) ?_);conv=>whnf));(refine sh_s ?_;(rfl))
theorem sy49(d:Dat)(c:Int):Con Tryz.prog 58 [datV d,.int .i64 49,.int .i64 c] (undefs [datV d,.int .i64 49,.int .i64 c]) (tV ({d with ba:=10},0)):=by
 refine Con.ev 52 T_ok mix Tryz.func58 rfl rfl rfl rfl [.cell 6 26,.tmp 7] rfl ?_
 conv=>whnf
 (iterate 18 ((first|apply rq_s rfl|apply rows_s rfl|apply br_t rfl|apply br_f rfl);conv=>whnf));(refine sh_s ?_;(rfl))
theorem sy50(d:Dat)(c:Int):Con Tryz.prog 58 [datV d,.int .i64 50,.int .i64 c] (undefs [datV d,.int .i64 50,.int .i64 c]) (tV ({d with ba:=16},0)):=by
 refine Con.ev 52 T_ok mix Tryz.func58 rfl rfl rfl rfl [.cell 6 26,.tmp 7] rfl ?_
 conv=>whnf
 (iterate 18 ((first|apply rq_s rfl|apply rows_s rfl|apply br_f rfl);conv=>whnf));(refine sh_s ?_;(rfl))
end P16
