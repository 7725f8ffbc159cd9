import Derived.Test.YtidkogijdlfjpaaGreatDoorApE
/- Which prim, by the reference; contracts. -/
set_option linter.unusedVariables false
set_option linter.unusedSimpArgs false
set_option maxRecDepth 100000
open Go Go.Abs Go.Proofs V1 H1 F1 F2 T1 T2 T3 P1 P2 P3 P4 P5 P6 P7 P8 P9 P10 P11 P12 P13 P14 P15 P16
namespace P17
def tA(d:Dat)(i:Nat):Int:=if 2<i then d.st.getD (d.st.length-3) 0 else 0
def tB(d:Dat)(i:Nat):Int:=if 1<i then d.st.getD (d.st.length-2) 0 else 0
def tC(d:Dat)(i:Nat):Int:=if 0<i then d.st.getD (d.st.length-1) 0 else 0
def mx(d:Dat):Nat:=min 3 d.st.length
theorem apU(p:Nat)(hp:P52 p)(d:Dat)(fl:Int)(hu:d.st.length<takesN p):Con Tryz.prog 31 [datV d,.int .i64 p,.int .i64 fl] (undefs [datV d,.int .i64 p,.int .i64 fl]) (tV (d,-4)):=by
 have g0:decide ((((d.st.map intR).length:Nat):Int)<((takesN p:Nat):Int))=true:=by rw[List.length_map];exact decide_eq_true (by omega)
 refine Con.ev 110 T_ok mix Tryz.func31 rfl rfl rfl rfl [.cell 6 26,.tmp 7] rfl ?_
 conv=>whnf
 (iterate 18 ((first|apply rq_s rfl|apply rows_s rfl|refine fac_s (fun hf=> ?_)|refine br_t (by assumption) ?_|apply lend_s|refine call_s (c53 p hp ..) ?_);conv=>whnf));(refine sh_s ?_;(rfl))
theorem apAll(p:Nat)(hp:P52 p)(d:Dat)(fl:Int)(h:d.st.length≤32)(hu: ¬d.st.length<takesN p)(res:Dat × Int)(hk:((p≤11)∧Con Tryz.prog 54 [datV d,.int .i64 p,.int .i64 (tA d (mx d)),.int .i64 (tB d (mx d)),.int .i64 (tC d (mx d))] (undefs [datV d,.int .i64 p,.int .i64 (tA d (mx d)),.int .i64 (tB d (mx d)),.int .i64 (tC d (mx d))]) (tV res))∨((11<p∧p≤14)∧Con Tryz.prog 55 [datV d,.int .i64 p,.int .i64 fl,.int .i64 (tC d (mx d))] (undefs [datV d,.int .i64 p,.int .i64 fl,.int .i64 (tC d (mx d))]) (tV res))∨((51≤p)∧Con Tryz.prog 55 [datV d,.int .i64 p,.int .i64 fl,.int .i64 (tC d (mx d))] (undefs [datV d,.int .i64 p,.int .i64 fl,.int .i64 (tC d (mx d))]) (tV res))∨((14<p∧p≤38)∧Con Tryz.prog 56 [datV d,.int .i64 p,.int .i64 (tB d (mx d)),.int .i64 (tC d (mx d))] (undefs [datV d,.int .i64 p,.int .i64 (tB d (mx d)),.int .i64 (tC d (mx d))]) (tV res))∨((38<p∧p≤44)∧Con Tryz.prog 57 [datV d,.int .i64 p,.int .i64 (tB d (mx d)),.int .i64 (tC d (mx d))] (undefs [datV d,.int .i64 p,.int .i64 (tB d (mx d)),.int .i64 (tC d (mx d))]) (tV res))∨((44<p∧p<51)∧Con Tryz.prog 58 [datV d,.int .i64 p,.int .i64 (tC d (mx d))] (undefs [datV d,.int .i64 p,.int .i64 (tC d (mx d))]) (tV res))):Con Tryz.prog 31 [datV d,.int .i64 p,.int .i64 fl] (undefs [datV d,.int .i64 p,.int .i64 fl]) (tV res):=by
 have g0:decide ((((d.st.map intR).length:Nat):Int)<((takesN p:Nat):Int))=false:=by rw[List.length_map];exact decide_eq_false (by omega)
 refine Con.ev 110 T_ok mix Tryz.func31 rfl rfl rfl rfl [.cell 6 26,.tmp 7] rfl ?_
 conv=>whnf
 iterate 8 ((first|apply rq_s rfl|refine fac_s (fun hf=> ?_)|refine br_f (by assumption) ?_|apply lend_s|refine call_s (c53 p hp ..) ?_);conv=>whnf)
 rotate_left
 refine LoopG.auto (α:=Nat) T_ok mix [1,2,3,6,8,9,10] (fun i=>[(1,.int .i64 p),(2,.int .i64 fl),(3,.ptr 1 0 0),(6,.ptr 2 0 0),(8,.int .i64 (d.st.map intR).length),(9,.ref 3 0 3),(10,.int .i64 i)]) (fun i=>[(1,.live ⟨false,0,[roI d.st,roI d.bk,roI d.ce,.int .i64 d.he,.int .i64 d.ba,.str d.ou],[[roI d.st,roI d.bk,roI d.ce,.int .i64 d.he,.int .i64 d.ba,.str d.ou]]⟩),(2,.live ⟨false,0,[.emp,.emp,.emp,.int .i64 0,.int .i64 0,.str []],[[.emp,.emp,.emp,.int .i64 0,.int .i64 0,.str []]]⟩),(3,.live ⟨true,0,zI,[[.int .i64 (tA d i)],[.int .i64 (tB d i)],[.int .i64 (tC d i)]]⟩)]) (fun i=>i≤mx d) (fun i=>mx d-i) ?_ ?_
 ·conv=>whnf
  (apply ChkS.mk (by kernel_rfl);conv=>whnf)
  rotate_left
  exact head_s 0 (by omega) (by simp) (by simp[tA,tB,tC,zI,roI])
 ·rintro i hi- -
  by_cases hlt:i<mx d
  ·have h3:i<3:=by unfold mx at hlt;omega
   have hn:i<d.st.length:=by unfold mx at hlt;omega
   have gd:decide ((i:Int)<3)=true:=decide_eq_true (by omega)
   have ge:decide ((i:Int)<(((d.st.map intR).length:Nat):Int))=true:=by rw[List.length_map];exact decide_eq_true (by omega)
   have wj:IntKind.i64.wrap (2-(i:Int))=((2-i:Nat):Int):=by rw[wrap64 (by omega) (by omega)];omega
   have wn:IntKind.i64.wrap ((((d.st.map intR).length:Nat):Int)-1)=(((d.st.map intR).length:Nat):Int)-1:=by rw[List.length_map];exact wrap64 (by omega) (by omega)
   have wi2:IntKind.i64.wrap (IntKind.i64.wrap ((((d.st.map intR).length:Nat):Int)-1)-(i:Int))=((d.st.length-(i+1):Nat):Int):=by rw[wn,List.length_map,wrap64 (by omega) (by omega)];omega
   have wi:(IntKind.i64.wrap (IntKind.i64.wrap ((((d.st.map intR).length:Nat):Int)-1)-(i:Int))).toNat=d.st.length-(i+1):=by rw[wi2];omega
   conv=>whnf
   iterate 13 ((first|refine rq_s (by solve|simp only[lms]|fail) ?_|apply rq_s rfl|refine rq_s (by refine and_s rfl ?_;simp only[lnm];omega) ?_|refine rq_s (by simp only[Bool.and_eq_true,decide_eq_true_eq,List.length_map];omega) ?_|refine rq_s (by((first|(refine and_s ?_ ?_<;>(first|(rw[wj];exact decide_eq_true (by omega))|(rw[wi2];exact decide_eq_true (by omega))|(rw[wi2,List.length_map];exact decide_eq_true (by omega))))|(rw[wj];exact decide_eq_true (by omega))|(rw[wi2];exact decide_eq_true (by omega))|(rw[wi2,List.length_map];exact decide_eq_true (by omega))|(simp[wj];omega)))) ?_|refine row_s (by((rewrite[wi];exact row_map intR _ _ _ 0 (by omega)))) ?_|apply rows_s rfl|refine ChkS.mk (by kernel_rfl) ?_|apply br_t rfl|refine br_t (by assumption) ?_);conv=>whnf)
   rotate_left
   refine head_s (i+1) ⟨by omega,by omega⟩ (by rw[wrap64 (by omega) (by omega)];rfl) ?_
   rw[wj]
   rcases(by omega:i=0∨i=1∨i=2)with rfl|rfl|rfl<;>rfl
  ·obtain rfl:i=mx d:=by omega
   have wi:(0:Nat)=0:=rfl
   by_cases h3:d.st.length<3
   ·have em:mx d=d.st.length:=by unfold mx;omega
    have gd:decide (((mx d:Nat):Int)<3)=true:=decide_eq_true (by omega)
    have ge:decide (((mx d:Nat):Int)<(((d.st.map intR).length:Nat):Int))=false:=by rw[List.length_map];exact decide_eq_false (by omega)
    rcases hk with⟨hq,k⟩|⟨hq,k⟩|⟨hq,k⟩|⟨hq,k⟩|⟨hq,k⟩|⟨hq,k⟩
    ·have q1:decide ((p:Int)≤11)=true:=decide_eq_true (by omega)
     conv=>whnf
     (iterate 60 ((first|refine rq_s (by solve|simp only[lms]|fail) ?_|apply rq_s rfl|refine row_s (by(rfl)) ?_|apply rows_s rfl|refine fac_s (fun hf=> ?_)|refine ChkS.mk (by kernel_rfl) ?_|apply br_t rfl|refine br_t (by assumption) ?_|refine br_f (by assumption) ?_|refine call_s (k ..) ?_);conv=>whnf));(refine sh_s ?_;(rfl))
    ·have q1:decide ((p:Int)≤11)=false:=decide_eq_false (by omega)
     have q2:decide ((p:Int)≤14)=true:=decide_eq_true (by omega)
     conv=>whnf
     (iterate 50 ((first|refine rq_s (by solve|simp only[lms]|fail) ?_|apply rq_s rfl|refine row_s (by(rfl)) ?_|apply rows_s rfl|refine fac_s (fun hf=> ?_)|refine ChkS.mk (by kernel_rfl) ?_|apply br_t rfl|refine br_t (by assumption) ?_|refine br_f (by assumption) ?_|refine call_s (k ..) ?_);conv=>whnf));(refine sh_s ?_;(rfl))
    ·have q1:decide ((p:Int)≤11)=false:=decide_eq_false (by omega)
     have q2:decide ((p:Int)≤14)=false:=decide_eq_false (by omega)
     have q3:decide ((p:Int)≥51)=true:=decide_eq_true (by omega)
     conv=>whnf
     (iterate 49 ((first|refine rq_s (by solve|simp only[lms]|fail) ?_|apply rq_s rfl|refine row_s (by(rfl)) ?_|apply rows_s rfl|refine fac_s (fun hf=> ?_)|refine ChkS.mk (by kernel_rfl) ?_|apply br_t rfl|apply br_f rfl|refine br_t (by assumption) ?_|refine br_f (by assumption) ?_|refine call_s (k ..) ?_);conv=>whnf));(refine sh_s ?_;(rfl))
    ·have q1:decide ((p:Int)≤11)=false:=decide_eq_false (by omega)
     have q2:decide ((p:Int)≤14)=false:=decide_eq_false (by omega)
     have q3:decide ((p:Int)≥51)=false:=decide_eq_false (by omega)
     have q4:decide ((p:Int)≤38)=true:=decide_eq_true (by omega)
     conv=>whnf
     (iterate 56 ((first|refine rq_s (by solve|simp only[lms]|fail) ?_|apply rq_s rfl|refine row_s (by(rfl)) ?_|apply rows_s rfl|refine fac_s (fun hf=> ?_)|refine ChkS.mk (by kernel_rfl) ?_|apply br_t rfl|apply br_f rfl|refine br_t (by assumption) ?_|refine br_f (by assumption) ?_|refine call_s (k ..) ?_);conv=>whnf));(refine sh_s ?_;(rfl))
    ·have q1:decide ((p:Int)≤11)=false:=decide_eq_false (by omega)
     have q2:decide ((p:Int)≤14)=false:=decide_eq_false (by omega)
     have q3:decide ((p:Int)≥51)=false:=decide_eq_false (by omega)
     have q4:decide ((p:Int)≤38)=false:=decide_eq_false (by omega)
     have q5:decide ((p:Int)≤44)=true:=decide_eq_true (by omega)
     conv=>whnf
     (iterate 57 ((first|refine rq_s (by solve|simp only[lms]|fail) ?_|apply rq_s rfl|refine row_s (by(rfl)) ?_|apply rows_s rfl|refine fac_s (fun hf=> ?_)|refine ChkS.mk (by kernel_rfl) ?_|apply br_t rfl|apply br_f rfl|refine br_t (by assumption) ?_|refine br_f (by assumption) ?_|refine call_s (k ..) ?_);conv=>whnf));(refine sh_s ?_;(rfl))
    ·have q1:decide ((p:Int)≤11)=false:=decide_eq_false (by omega)
     have q2:decide ((p:Int)≤14)=false:=decide_eq_false (by omega)
     have q3:decide ((p:Int)≥51)=false:=decide_eq_false (by omega)
     have q4:decide ((p:Int)≤38)=false:=decide_eq_false (by omega)
     have q5:decide ((p:Int)≤44)=false:=decide_eq_false (by omega)
     conv=>whnf
     (iterate 49 ((first|refine rq_s (by solve|simp only[lms]|fail) ?_|apply rq_s rfl|refine row_s (by(rfl)) ?_|apply rows_s rfl|refine fac_s (fun hf=> ?_)|refine ChkS.mk (by kernel_rfl) ?_|apply br_t rfl|apply br_f rfl|refine br_t (by assumption) ?_|refine br_f (by assumption) ?_|refine call_s (k ..) ?_);conv=>whnf));(refine sh_s ?_;(rfl))
   ·have em:mx d=3:=by unfold mx;omega
    have gd:decide (((mx d:Nat):Int)<3)=false:=decide_eq_false (by omega)
    rcases hk with⟨hq,k⟩|⟨hq,k⟩|⟨hq,k⟩|⟨hq,k⟩|⟨hq,k⟩|⟨hq,k⟩
    ·have q1:decide ((p:Int)≤11)=true:=decide_eq_true (by omega)
     conv=>whnf
     (iterate 61 ((first|refine rq_s (by solve|simp only[lms]|fail) ?_|apply rq_s rfl|refine row_s (by(rfl)) ?_|apply rows_s rfl|refine fac_s (fun hf=> ?_)|refine ChkS.mk (by kernel_rfl) ?_|apply br_f rfl|refine br_t (by assumption) ?_|refine br_f (by assumption) ?_|refine call_s (k ..) ?_);conv=>whnf));(refine sh_s ?_;(rfl))
    ·have q1:decide ((p:Int)≤11)=false:=decide_eq_false (by omega)
     have q2:decide ((p:Int)≤14)=true:=decide_eq_true (by omega)
     conv=>whnf
     (iterate 51 ((first|refine rq_s (by solve|simp only[lms]|fail) ?_|apply rq_s rfl|refine row_s (by(rfl)) ?_|apply rows_s rfl|refine fac_s (fun hf=> ?_)|refine ChkS.mk (by kernel_rfl) ?_|apply br_t rfl|apply br_f rfl|refine br_t (by assumption) ?_|refine br_f (by assumption) ?_|refine call_s (k ..) ?_);conv=>whnf));(refine sh_s ?_;(rfl))
    ·have q1:decide ((p:Int)≤11)=false:=decide_eq_false (by omega)
     have q2:decide ((p:Int)≤14)=false:=decide_eq_false (by omega)
     have q3:decide ((p:Int)≥51)=true:=decide_eq_true (by omega)
     conv=>whnf
     (iterate 50 ((first|refine rq_s (by solve|simp only[lms]|fail) ?_|apply rq_s rfl|refine row_s (by(rfl)) ?_|apply rows_s rfl|refine fac_s (fun hf=> ?_)|refine ChkS.mk (by kernel_rfl) ?_|apply br_f rfl|refine br_t (by assumption) ?_|refine br_f (by assumption) ?_|refine call_s (k ..) ?_);conv=>whnf));(refine sh_s ?_;(rfl))
    ·have q1:decide ((p:Int)≤11)=false:=decide_eq_false (by omega)
     have q2:decide ((p:Int)≤14)=false:=decide_eq_false (by omega)
     have q3:decide ((p:Int)≥51)=false:=decide_eq_false (by omega)
     have q4:decide ((p:Int)≤38)=true:=decide_eq_true (by omega)
     conv=>whnf
     (iterate 57 ((first|refine rq_s (by solve|simp only[lms]|fail) ?_|apply rq_s rfl|refine row_s (by(rfl)) ?_|apply rows_s rfl|refine fac_s (fun hf=> ?_)|refine ChkS.mk (by kernel_rfl) ?_|apply br_f rfl|refine br_t (by assumption) ?_|refine br_f (by assumption) ?_|refine call_s (k ..) ?_);conv=>whnf));(refine sh_s ?_;(rfl))
    ·have q1:decide ((p:Int)≤11)=false:=decide_eq_false (by omega)
     have q2:decide ((p:Int)≤14)=false:=decide_eq_false (by omega)
     have q3:decide ((p:Int)≥51)=false:=decide_eq_false (by omega)
     have q4:decide ((p:Int)≤38)=false:=decide_eq_false (by omega)
     have q5:decide ((p:Int)≤44)=true:=decide_eq_true (by omega)
     conv=>whnf
     (iterate 58 ((first|refine rq_s (by solve|simp only[lms]|fail) ?_|apply rq_s rfl|refine row_s (by(rfl)) ?_|apply rows_s rfl|refine fac_s (fun hf=> ?_)|refine ChkS.mk (by kernel_rfl) ?_|apply br_f rfl|refine br_t (by assumption) ?_|refine br_f (by assumption) ?_|refine call_s (k ..) ?_);conv=>whnf));(refine sh_s ?_;(rfl))
    ·have q1:decide ((p:Int)≤11)=false:=decide_eq_false (by omega)
     have q2:decide ((p:Int)≤14)=false:=decide_eq_false (by omega)
     have q3:decide ((p:Int)≥51)=false:=decide_eq_false (by omega)
     have q4:decide ((p:Int)≤38)=false:=decide_eq_false (by omega)
     have q5:decide ((p:Int)≤44)=false:=decide_eq_false (by omega)
     conv=>whnf
     (iterate 50 ((first|refine rq_s (by solve|simp only[lms]|fail) ?_|apply rq_s rfl|refine row_s (by(rfl)) ?_|apply rows_s rfl|refine fac_s (fun hf=> ?_)|refine ChkS.mk (by kernel_rfl) ?_|apply br_f rfl|refine br_f (by assumption) ?_|refine call_s (k ..) ?_);conv=>whnf));(refine sh_s ?_;(rfl))
theorem apM(p:Nat)(hp:P52 p)(d:Dat)(fl:Int)(h:d.st.length≤32)(hu: ¬d.st.length<takesN p)(res:Dat × Int)(hq:p≤11)(k:Con Tryz.prog 54 [datV d,.int .i64 p,.int .i64 (tA d (mx d)),.int .i64 (tB d (mx d)),.int .i64 (tC d (mx d))] (undefs [datV d,.int .i64 p,.int .i64 (tA d (mx d)),.int .i64 (tB d (mx d)),.int .i64 (tC d (mx d))]) (tV res)):Con Tryz.prog 31 [datV d,.int .i64 p,.int .i64 fl] (undefs [datV d,.int .i64 p,.int .i64 fl]) (tV res):=apAll p hp d fl h hu res (.inl ⟨hq,k⟩)
theorem apB1(p:Nat)(hp:P52 p)(d:Dat)(fl:Int)(h:d.st.length≤32)(hu: ¬d.st.length<takesN p)(res:Dat × Int)(hq:11<p∧p≤14)(k:Con Tryz.prog 55 [datV d,.int .i64 p,.int .i64 fl,.int .i64 (tC d (mx d))] (undefs [datV d,.int .i64 p,.int .i64 fl,.int .i64 (tC d (mx d))]) (tV res)):Con Tryz.prog 31 [datV d,.int .i64 p,.int .i64 fl] (undefs [datV d,.int .i64 p,.int .i64 fl]) (tV res):=apAll p hp d fl h hu res (.inr (.inl ⟨hq,k⟩))
theorem apB2(p:Nat)(hp:P52 p)(d:Dat)(fl:Int)(h:d.st.length≤32)(hu: ¬d.st.length<takesN p)(res:Dat × Int)(hq:51≤p)(k:Con Tryz.prog 55 [datV d,.int .i64 p,.int .i64 fl,.int .i64 (tC d (mx d))] (undefs [datV d,.int .i64 p,.int .i64 fl,.int .i64 (tC d (mx d))]) (tV res)):Con Tryz.prog 31 [datV d,.int .i64 p,.int .i64 fl] (undefs [datV d,.int .i64 p,.int .i64 fl]) (tV res):=apAll p hp d fl h hu res (.inr (.inr (.inl ⟨hq,k⟩)))
theorem apS(p:Nat)(hp:P52 p)(d:Dat)(fl:Int)(h:d.st.length≤32)(hu: ¬d.st.length<takesN p)(res:Dat × Int)(hq:14<p∧p≤38)(k:Con Tryz.prog 56 [datV d,.int .i64 p,.int .i64 (tB d (mx d)),.int .i64 (tC d (mx d))] (undefs [datV d,.int .i64 p,.int .i64 (tB d (mx d)),.int .i64 (tC d (mx d))]) (tV res)):Con Tryz.prog 31 [datV d,.int .i64 p,.int .i64 fl] (undefs [datV d,.int .i64 p,.int .i64 fl]) (tV res):=apAll p hp d fl h hu res (.inr (.inr (.inr (.inl ⟨hq,k⟩))))
theorem apC(p:Nat)(hp:P52 p)(d:Dat)(fl:Int)(h:d.st.length≤32)(hu: ¬d.st.length<takesN p)(res:Dat × Int)(hq:38<p∧p≤44)(k:Con Tryz.prog 57 [datV d,.int .i64 p,.int .i64 (tB d (mx d)),.int .i64 (tC d (mx d))] (undefs [datV d,.int .i64 p,.int .i64 (tB d (mx d)),.int .i64 (tC d (mx d))]) (tV res)):Con Tryz.prog 31 [datV d,.int .i64 p,.int .i64 fl] (undefs [datV d,.int .i64 p,.int .i64 fl]) (tV res):=apAll p hp d fl h hu res (.inr (.inr (.inr (.inr (.inl ⟨hq,k⟩)))))
theorem apY(p:Nat)(hp:P52 p)(d:Dat)(fl:Int)(h:d.st.length≤32)(hu: ¬d.st.length<takesN p)(res:Dat × Int)(hq:44<p∧p<51)(k:Con Tryz.prog 58 [datV d,.int .i64 p,.int .i64 (tC d (mx d))] (undefs [datV d,.int .i64 p,.int .i64 (tC d (mx d))]) (tV res)):Con Tryz.prog 31 [datV d,.int .i64 p,.int .i64 fl] (undefs [datV d,.int .i64 p,.int .i64 fl]) (tV res):=apAll p hp d fl h hu res (.inr (.inr (.inr (.inr (.inr (⟨hq,k⟩))))))
end P17

/- Prims: what both sides compute is the same; plain. -/
open Go Go.Abs Go.Proofs V1 H1 F1 F2 T1 T2 T3 P1 P2 P3 P4 P5 P6 P7 P8 P9 P10 P11 P12 P13 P14 P15 P16 P17
namespace P18
def rr(p:Nat)(d:Dat):List Int:=d.st.take (d.st.length-takesN p)
def qa(d:Dat):Int:=d.st.getD (d.st.length-3) 0
def qb(d:Dat):Int:=d.st.getD (d.st.length-2) 0
def qc(d:Dat):Int:=d.st.getD (d.st.length-1) 0
theorem prim_u{p:Nat}{fl:Int}{d:Dat}(hu:d.st.length<takesN p):primF TX p fl d=(d,-4):=by
 have e:primI TX p fl d=(d,-4):=by rw[primI,if_pos hu]
 rw[primF,e];rfl
theorem prim_b{p:Nat}{fl:Int}{d:Dat}(hu: ¬d.st.length<takesN p)(hb:(d.bk.length:Int)-fl<backN p):primF TX p fl d=(d,-6):=by
 have e:primI TX p fl d=(d,-6):=by rw[primI,if_neg hu,if_pos hb]
 rw[primF,e];rfl
theorem prim_r{p:Nat}{fl:Int}{d:Dat}(hu: ¬d.st.length<takesN p)(hb: ¬(d.bk.length:Int)-fl<backN p):primF TX p fl d=fixF d (primR TX p d (rr p d) (qa d) (qb d) (qc d)):=by
 have e:primI TX p fl d=primR TX p d (rr p d) (qa d) (qb d) (qc d):=by rw[primI,if_neg hu,if_neg hb];rfl
 rw[primF,e];rfl
theorem rr_len{p:Nat}{d:Dat}:(rr p d).length=d.st.length-takesN p:=by simp[rr]
theorem rr_0{p:Nat}{d:Dat}(h:takesN p=0):rr p d=d.st:=by simp[rr,h]
theorem tA_e{d:Dat}(h:3≤d.st.length):tA d (mx d)=qa d:=by unfold tA mx qa;rw[if_pos (by omega)]
theorem tB_e{d:Dat}(h:2≤d.st.length):tB d (mx d)=qb d:=by unfold tB mx qb;rw[if_pos (by omega)]
theorem tC_e{d:Dat}(h:1≤d.st.length):tC d (mx d)=qc d:=by unfold tC mx qc;rw[if_pos (by omega)]
theorem tB_c{d:Dat}(h:DataOk d): -2147483648≤tB d (mx d)∧tB d (mx d)≤2147483647:=by
 have:=cells_get h.cst (d.st.length-2)
 unfold tB;split<;>omega
theorem tC_c{d:Dat}(h:DataOk d): -2147483648≤tC d (mx d)∧tC d (mx d)≤2147483647:=by
 have:=cells_get h.cst (d.st.length-1)
 unfold tC;split<;>omega
theorem put_p{p:Nat}{d:Dat}(h:DataOk d)(hu: ¬d.st.length<takesN p)(l:List Int):fixF d (putR d (rr p d) l)=putF d (takesN p) l:=(put_fix d (takesN p) l h.st (by omega)).symm
theorem put_e{p:Nat}{d d':Dat}(h:DataOk d)(hs:d'.st=d.st):putF d' (takesN p) []=({d' with st:=rr p d},0):=by
 have:=h.st
 rw[putF_f (by rw[hs];simp;omega),hs];simp[rr]
theorem fix_0{d x:Dat}:fixF d (x,0)=(x,0):=rfl
theorem fix_n{d x:Dat}{t:Int}(h:t≠0):fixF d (x,t)=(d,t):=if_neg h
theorem mv8z{d:Dat}(h:DataOk d)(hu: ¬d.st.length<takesN 8)(h0:qc d=0)(a b:Int):fixF d (primR TX 8 d (rr 8 d) a b (qc d))=(d,0):=by
 have h1:1≤d.st.length:=Nat.le_of_not_lt hu
 have hs:=h.st
 have e:=last1 d.st h1
 have er:(rr 8 d).length=d.st.length-1:=rr_len
 rw[show primR TX 8 d (rr 8 d) a b (qc d)=putR d (rr 8 d) [0] by simp only[primR];rw[if_pos h0],putR,if_neg (by simp[er];omega),fix_0]
 have:rr 8 d++[0]=d.st:=by
  have h0':d.st.getD (d.st.length-1) 0=0:=h0
  rw[h0']at e
  exact e.symm
 rw[this]
theorem bk13{d:Dat}(h:DataOk d)(a b c:Int):fixF d (primR TX 13 d (rr 13 d) a b c)=if d.st.length=32 then(d,-3)else({d with st:=d.st++[d.bk.getD (d.bk.length-1) 0],bk:=d.bk.take (d.bk.length-1)},0):=by
 have hs:=h.st
 rw[rr_0 rfl]
 show fixF d (putR _ _ _)=_
 unfold putR
 by_cases h0:d.st.length=32
 ·rw[if_pos (by simp;omega),if_pos h0];rfl
 ·rw[if_neg (by simp;omega),if_neg h0];rfl
theorem al_st{d:Dat}{r:List Int}{n:Int}:allotF {d with st:=r} n=({(allotF d n).1 with st:=r},(allotF d n).2):=by
 unfold allotF
 by_cases h0:n.tmod 4≠0∨inR (d.he+n.tdiv 4) 0 32=false
 ·rw[if_pos h0,if_pos h0]
 ·rw[if_neg h0,if_neg h0]
theorem al_s{d:Dat}{n:Int}:(allotF d n).1.st=d.st:=by unfold allotF;split<;>rfl
theorem so_st{d:Dat}{r:List Int}{a n:Int}:storeF {d with st:=r} a n=({(storeF d a n).1 with st:=r},(storeF d a n).2):=by
 show(match cellAt d a with|none=>_|some k=>_)=_
 unfold storeF
 cases cellAt d a<;>rfl
theorem so_s{d:Dat}{a n:Int}:(storeF d a n).1.st=d.st:=by unfold storeF;split<;>rfl
theorem sa_st{d:Dat}{r:List Int}{t:List UInt8}:sayF {d with st:=r} t=({(sayF d t).1 with st:=r},(sayF d t).2):=by
 unfold sayF
 by_cases h0:300<d.ou.length+t.length
 ·rw[if_pos h0,if_pos h0]
 ·rw[if_neg h0,if_neg h0]
theorem sa_s{d:Dat}{t:List UInt8}:(sayF d t).1.st=d.st:=by unfold sayF;split<;>rfl
theorem fix_st{p:Nat}{d:Dat}(h:DataOk d)(x:Dat × Int)(hx:x.1.st=d.st):fixF d ({x.1 with st:=rr p d},x.2)=if x.2≠0 then(d,x.2)else putF x.1 (takesN p) []:=by
 by_cases h0:x.2=0
 ·rw[h0,fix_0,if_neg (by simp),put_e h hx]
 ·rw[fix_n h0,if_pos h0]
theorem me40{d:Dat}(h:DataOk d)(a b c:Int):fixF d (primR TX 40 d (rr 40 d) a b c)=match cellAt d c with|none=>(d,-9)|some k=>putF {d with ce:=d.ce.set k b} 2 []:=by
 show fixF d (storeF _ c b)=_
 rw[so_st,fix_st h _ so_s]
 unfold storeF
 cases cellAt d c<;>rfl
theorem me41{d:Dat}(h:DataOk d)(a b c:Int):fixF d (primR TX 41 d (rr 41 d) a b c)=match cellAt d c with|none=>(d,-9)|some k=>putF {d with ce:=d.ce.set k (wc (d.ce.getD k 0+b))} 2 []:=by
 show fixF d (match cellAt d c with|none=>_|some k=>_)=_
 cases cellAt d c with
 |none=>rfl
 |some k=>exact(fix_st (p:=41) h ({d with ce:=d.ce.set k (wc (d.ce.getD k 0+b))},0) rfl)
theorem me39{d:Dat}(h:DataOk d)(hu: ¬d.st.length<takesN 39)(a b c:Int):fixF d (primR TX 39 d (rr 39 d) a b c)=match cellAt d c with|none=>(d,-9)|some k=>putF d 1 [d.ce.getD k 0]:=by
 show fixF d (match cellAt d c with|none=>_|some k=>_)=_
 cases cellAt d c with
 |none=>rfl
 |some k=>exact put_p h hu _
theorem me43{d:Dat}(h:DataOk d)(a b c:Int):fixF d (primR TX 43 d (rr 43 d) a b c)=if(allotF d c).2≠0 then(d,(allotF d c).2)else putF (allotF d c).1 1 []:=by
 show fixF d (allotF _ c)=_
 rw[al_st,fix_st h _ al_s];rfl
theorem me44{d:Dat}(h:DataOk d)(a b c:Int):fixF d (primR TX 44 d (rr 44 d) a b c)=if(allotF d 4).2≠0 then(d,(allotF d 4).2)else fixF d ({(storeF (allotF d 4).1 (4096+4*d.he) c).1 with st:=rr 44 d},(storeF (allotF d 4).1 (4096+4*d.he) c).2):=by
 show fixF d (match allotF {d with st:=rr 44 d} 4 with|(x,th)=>if th≠0 then(x,th)else storeF x (4096+4*d.he) c)=_
 rw[al_st]
 show fixF d (if(allotF d 4).2≠0 then({(allotF d 4).1 with st:=rr 44 d},(allotF d 4).2)else storeF {(allotF d 4).1 with st:=rr 44 d} (4096+4*d.he) c)=_
 by_cases h0:(allotF d 4).2=0
 ·rw[if_neg (fun k=>k h0),if_neg (fun k=>k h0),so_st]
 ·rw[if_pos h0,if_pos h0,fix_n h0]
theorem me4{d:Dat}(h:DataOk d)(hn:(allotF d 4).2=0)(c:Int):(storeF (allotF d 4).1 (4096+4*d.he) c).2=0:=by
 have hh:=h.he
 by_cases hi:inR (d.he+(4:Int).tdiv 4) 0 32=true
 ·have h2:=inR_t hi
  rw[allot_s rfl hi]
  have e4:(4:Int).tdiv 4=1:=rfl
  rw[e4]at h2
  have h1:inR (4096+4*d.he) 4096 (4096+4*(d.he+(4:Int).tdiv 4)-1)=true:=by rw[e4];simp[inR];omega
  have hm:(4096+4*d.he).tmod 4=0:=by rw[Int.tmod_eq_emod_of_nonneg (by omega)];omega
  rw[store_s (cell_s (d:={d with ce:=zeros d.ce d.he (d.he+(4:Int).tdiv 4),he:=d.he+(4:Int).tdiv 4}) h1 hm)]
 ·rw[allot_n (.inr (by simpa using hi))]at hn
  cases hn
theorem me44b{d:Dat}(h:DataOk d)(a b c:Int):fixF d (primR TX 44 d (rr 44 d) a b c)=if(allotF d 4).2≠0 then(d,(allotF d 4).2)else putF (storeF (allotF d 4).1 (4096+4*d.he) c).1 1 []:=by
 rw[me44 h]
 by_cases h0:(allotF d 4).2=0
 ·rw[if_neg (fun k=>k h0),if_neg (fun k=>k h0),fix_st h _ (so_s.trans al_s),if_neg (fun k=>k (me4 h h0 c))];rfl
 ·rw[if_pos h0,if_pos h0]
theorem sa45{p:Nat}(hp:p=45∨p=46∨p=47∨p=48){d:Dat}(h:DataOk d)(a b c:Int):fixF d (primR TX p d (rr p d) a b c)=sayR p d c:=by
 unfold sayR
 rcases hp with rfl|rfl|rfl|rfl
 ·show fixF d (sayF {d with st:=rr 45 d} (sayT 45 d c))=_
  rw[sa_st,fix_st h _ sa_s]
 ·show fixF d (sayF {d with st:=rr 46 d} (sayT 46 d c))=_
  rw[sa_st,fix_st h _ sa_s]
 ·show fixF d (sayF {d with st:=rr 47 d} (sayT 47 d c))=_
  rw[sa_st,fix_st h _ sa_s]
 ·show fixF d (sayF {d with st:=rr 48 d} (sayT 48 d c))=_
  rw[sa_st,fix_st h _ sa_s]
end P18

/- Every prim, ApplyPrim, by the reference; contracts. -/
open Go Go.Abs Go.Proofs V1 H1 F1 F2 T1 T2 T3 P1 P2 P3 P4 P5 P6 P7 P8 P9 P10 P11 P12 P13 P14 P15 P16 P17 P18
namespace P19
theorem c31(p:Nat)(hp:P52 p)(d:Dat)(fl:Int)(h:DataOk d)(hf:0≤fl∧fl≤d.bk.length):Con Tryz.prog 31 [datV d,.int .i64 p,.int .i64 fl] (undefs [datV d,.int .i64 p,.int .i64 fl]) (tV (primF TX p fl d)):=by
 by_cases hu:d.st.length<takesN p
 ·rw[prim_u hu]
  exact apU p hp d fl hu
 by_cases hb:(d.bk.length:Int)-fl<backN p
 ·rw[prim_b hu hb]
  have hq:p=13∨p=14∨p=51∨p=52:=by
   unfold backN at hb
   split at hb<;>first|omega|(exfalso;omega)
  have k:=bkU p d fl (tC d (mx d)) hq h.bk hf hb
  rcases hq with rfl|rfl|rfl|rfl
  ·exact apB1 _ hp d fl h.st hu _ (by omega) k
  ·exact apB1 _ hp d fl h.st hu _ (by omega) k
  ·exact apB2 _ hp d fl h.st hu _ (by omega) k
  ·exact apB2 _ hp d fl h.st hu _ (by omega) k
 have hst:=h.st
 have hbk:=h.bk
 have tb:=tB_c h
 have tc:=tC_c h
 rcases all52 hp with rfl|rfl|rfl|rfl|rfl|rfl|rfl|rfl|rfl|rfl|rfl|rfl|rfl|rfl|rfl|rfl|rfl|rfl|rfl|rfl|rfl|rfl|rfl|rfl|rfl|rfl|rfl|rfl|rfl|rfl|rfl|rfl|rfl|rfl|rfl|rfl|rfl|rfl|rfl|rfl|rfl|rfl|rfl|rfl|rfl|rfl|rfl|rfl|rfl|rfl|rfl|rfl
 ·rw[prim_r hu hb]
  have ht:1≤d.st.length:=Nat.le_of_not_lt hu
  have eC:=tC_e ht
  have k:=mv1 d (tA d (mx d)) (tB d (mx d)) (tC d (mx d)) h.st ht
  have e:putF d 1 [tC d (mx d),tC d (mx d)]=fixF d (primR TX 1 d (rr 1 d) (qa d) (qb d) (qc d)):=by rw[eC];exact(put_p h hu _).symm
  rw[e]at k
  exact apM 1 (by unfold P52;omega) d fl h.st hu _ (by omega) k
 ·rw[prim_r hu hb]
  have ht:1≤d.st.length:=Nat.le_of_not_lt hu
  have eC:=tC_e ht
  have k:=mv2 d (tA d (mx d)) (tB d (mx d)) (tC d (mx d)) h.st ht
  have e:putF d 1 []=fixF d (primR TX 2 d (rr 2 d) (qa d) (qb d) (qc d)):=put_e (p:=2) h rfl
  rw[e]at k
  exact apM 2 (by unfold P52;omega) d fl h.st hu _ (by omega) k
 ·rw[prim_r hu hb]
  have ht:2≤d.st.length:=Nat.le_of_not_lt hu
  have eB:=tB_e ht
  have eC:=tC_e (Nat.le_of_succ_le ht)
  have k:=mv3 d (tA d (mx d)) (tB d (mx d)) (tC d (mx d)) h.st ht
  have e:putF d 2 [tC d (mx d),tB d (mx d)]=fixF d (primR TX 3 d (rr 3 d) (qa d) (qb d) (qc d)):=by rw[eB,eC];exact(put_p h hu _).symm
  rw[e]at k
  exact apM 3 (by unfold P52;omega) d fl h.st hu _ (by omega) k
 ·rw[prim_r hu hb]
  have ht:2≤d.st.length:=Nat.le_of_not_lt hu
  have eB:=tB_e ht
  have eC:=tC_e (Nat.le_of_succ_le ht)
  have k:=mv4 d (tA d (mx d)) (tB d (mx d)) (tC d (mx d)) h.st ht
  have e:putF d 2 [tB d (mx d),tC d (mx d),tB d (mx d)]=fixF d (primR TX 4 d (rr 4 d) (qa d) (qb d) (qc d)):=by rw[eB,eC];exact(put_p h hu _).symm
  rw[e]at k
  exact apM 4 (by unfold P52;omega) d fl h.st hu _ (by omega) k
 ·rw[prim_r hu hb]
  have ht:3≤d.st.length:=Nat.le_of_not_lt hu
  have eA:=tA_e ht
  have eB:=tB_e (Nat.le_of_succ_le ht)
  have eC:=tC_e (d:=d) (by omega)
  have k:=mv5 d (tA d (mx d)) (tB d (mx d)) (tC d (mx d)) h.st ht
  have e:putF d 3 [tB d (mx d),tC d (mx d),tA d (mx d)]=fixF d (primR TX 5 d (rr 5 d) (qa d) (qb d) (qc d)):=by rw[eA,eB,eC];exact(put_p h hu _).symm
  rw[e]at k
  exact apM 5 (by unfold P52;omega) d fl h.st hu _ (by omega) k
 ·rw[prim_r hu hb]
  have ht:2≤d.st.length:=Nat.le_of_not_lt hu
  have eB:=tB_e ht
  have eC:=tC_e (Nat.le_of_succ_le ht)
  have k:=mv6 d (tA d (mx d)) (tB d (mx d)) (tC d (mx d)) h.st ht
  have e:putF d 2 [tC d (mx d)]=fixF d (primR TX 6 d (rr 6 d) (qa d) (qb d) (qc d)):=by rw[eC];exact(put_p h hu _).symm
  rw[e]at k
  exact apM 6 (by unfold P52;omega) d fl h.st hu _ (by omega) k
 ·rw[prim_r hu hb]
  have ht:2≤d.st.length:=Nat.le_of_not_lt hu
  have eB:=tB_e ht
  have eC:=tC_e (Nat.le_of_succ_le ht)
  have k:=mv7 d (tA d (mx d)) (tB d (mx d)) (tC d (mx d)) h.st ht
  have e:putF d 2 [tC d (mx d),tB d (mx d),tC d (mx d)]=fixF d (primR TX 7 d (rr 7 d) (qa d) (qb d) (qc d)):=by rw[eB,eC];exact(put_p h hu _).symm
  rw[e]at k
  exact apM 7 (by unfold P52;omega) d fl h.st hu _ (by omega) k
 ·rw[prim_r hu hb]
  have ht:1≤d.st.length:=Nat.le_of_not_lt hu
  have eC:=tC_e ht
  by_cases h0:qc d=0
  ·have k:=P11.mv8z d (tA d (mx d)) (tB d (mx d)) (tC d (mx d)) h.st ht (by rw[eC];exact h0)
   rw[←P18.mv8z h hu h0 (qa d) (qb d)]at k
   exact apM 8 (by unfold P52;omega) d fl h.st hu _ (by omega) k
  ·have k:=mv8n d (tA d (mx d)) (tB d (mx d)) (tC d (mx d)) h.st ht (by rw[eC];exact h0)
   have e:putF d 1 [tC d (mx d),tC d (mx d)]=fixF d (primR TX 8 d (rr 8 d) (qa d) (qb d) (qc d)):=by
    rw[eC,show primR TX 8 d (rr 8 d) (qa d) (qb d) (qc d)=putR d (rr 8 d) [qc d,qc d] by simp only[primR];rw[if_neg h0]]
    exact(put_p h hu _).symm
   rw[e]at k
   exact apM 8 (by unfold P52;omega) d fl h.st hu _ (by omega) k
 ·rw[prim_r hu hb]
  have ht:2≤d.st.length:=Nat.le_of_not_lt hu
  have eB:=tB_e ht
  have eC:=tC_e (Nat.le_of_succ_le ht)
  have k:=mv9 d (tA d (mx d)) (tB d (mx d)) (tC d (mx d)) h.st ht
  have e:putF d 2 [tB d (mx d),tC d (mx d),tB d (mx d),tC d (mx d)]=fixF d (primR TX 9 d (rr 9 d) (qa d) (qb d) (qc d)):=by rw[eB,eC];exact(put_p h hu _).symm
  rw[e]at k
  exact apM 9 (by unfold P52;omega) d fl h.st hu _ (by omega) k
 ·rw[prim_r hu hb]
  have ht:2≤d.st.length:=Nat.le_of_not_lt hu
  have eB:=tB_e ht
  have eC:=tC_e (Nat.le_of_succ_le ht)
  have k:=mv10 d (tA d (mx d)) (tB d (mx d)) (tC d (mx d)) h.st ht
  have e:putF d 2 []=fixF d (primR TX 10 d (rr 10 d) (qa d) (qb d) (qc d)):=put_e (p:=10) h rfl
  rw[e]at k
  exact apM 10 (by unfold P52;omega) d fl h.st hu _ (by omega) k
 ·rw[prim_r hu hb]
  have ht:0≤d.st.length:=Nat.le_of_not_lt hu
  have k:=mv11 d (tA d (mx d)) (tB d (mx d)) (tC d (mx d)) h.st ht
  have e:putF d 0 [(d.st.length:Int)]=fixF d (primR TX 11 d (rr 11 d) (qa d) (qb d) (qc d)):=by
   have e0:((rr 11 d).length:Int)=d.st.length:=by rw[rr_0 rfl]
   show _=fixF d (putR d (rr 11 d) [((rr 11 d).length:Int)])
   rw[e0]
   exact(put_p h hu _).symm
  rw[e]at k
  exact apM 11 (by unfold P52;omega) d fl h.st hu _ (by omega) k
 ·rw[prim_r hu hb]
  have ht:1≤d.st.length:=Nat.le_of_not_lt hu
  have eC:=tC_e ht
  by_cases h0:d.bk.length=32
  ·have k:=bk12z d fl (tC d (mx d)) h.st ht h.bk h0
   rw[show primR TX 12 d (rr 12 d) (qa d) (qb d) (qc d)=({d with st:=rr 12 d},-5) by simp only[primR];rw[if_pos h0],fix_n (by decide)]
   exact apB1 12 (by unfold P52;omega) d fl h.st hu _ (by omega) k
  ·have k:=bk12n d fl (tC d (mx d)) h.st ht h.bk h0
   rw[eC,show putF {d with bk:=d.bk++[qc d]} 1 []=_ from put_e (p:=12) h rfl]at k
   rw[show primR TX 12 d (rr 12 d) (qa d) (qb d) (qc d)=({d with st:=rr 12 d,bk:=d.bk++[qc d]},0) by simp only[primR];rw[if_neg h0],fix_0]
   exact apB1 12 (by unfold P52;omega) d fl h.st hu _ (by omega) (by rw[eC];exact k)
 ·rw[prim_r hu hb]
  have ht:0≤d.st.length:=Nat.le_of_not_lt hu
  rw[bk13 h]
  by_cases h0:d.st.length=32
  ·rw[if_pos h0]
   exact apB1 13 (by unfold P52;omega) d fl h.st hu _ (by omega) (bk13z d fl (tC d (mx d)) h.st h.bk hf (by have:backN 13=1:=rfl;omega) h0)
  ·rw[if_neg h0]
   exact apB1 13 (by unfold P52;omega) d fl h.st hu _ (by omega) (bk13n d fl (tC d (mx d)) h.st h.bk hf (by have:backN 13=1:=rfl;omega) h0)
 ·rw[prim_r hu hb]
  have ht:0≤d.st.length:=Nat.le_of_not_lt hu
  have k:=bk14 d fl (tC d (mx d)) h.st h.bk hf (by have:backN 14=1:=rfl;omega)
  have e:putF d 0 [d.bk.getD (d.bk.length-1) 0]=fixF d (primR TX 14 d (rr 14 d) (qa d) (qb d) (qc d)):=(put_p h hu _).symm
  rw[e]at k
  exact apB1 14 (by unfold P52;omega) d fl h.st hu _ (by omega) k
 ·rw[prim_r hu hb]
  have ht:2≤d.st.length:=Nat.le_of_not_lt hu
  have eB:=tB_e ht
  have eC:=tC_e (Nat.le_of_succ_le ht)
  have k:=sm15 d (tB d (mx d)) (tC d (mx d)) h.st ht tb tc
  have e:putF d 2 [(twoV 1 (tB d (mx d)) (tC d (mx d))).1]=fixF d (primR TX 15 d (rr 15 d) (qa d) (qb d) (qc d)):=by rw[eB,eC];exact(put_p h hu _).symm
  rw[e]at k
  exact apS 15 (by unfold P52;omega) d fl h.st hu _ (by omega) k
 ·rw[prim_r hu hb]
  have ht:2≤d.st.length:=Nat.le_of_not_lt hu
  have eB:=tB_e ht
  have eC:=tC_e (Nat.le_of_succ_le ht)
  have k:=sm16 d (tB d (mx d)) (tC d (mx d)) h.st ht tb tc
  have e:putF d 2 [(twoV 2 (tB d (mx d)) (tC d (mx d))).1]=fixF d (primR TX 16 d (rr 16 d) (qa d) (qb d) (qc d)):=by rw[eB,eC];exact(put_p h hu _).symm
  rw[e]at k
  exact apS 16 (by unfold P52;omega) d fl h.st hu _ (by omega) k
 ·rw[prim_r hu hb]
  have ht:2≤d.st.length:=Nat.le_of_not_lt hu
  have eB:=tB_e ht
  have eC:=tC_e (Nat.le_of_succ_le ht)
  have k:=sm17 d (tB d (mx d)) (tC d (mx d)) h.st ht tb tc
  have e:putF d 2 [(twoV 3 (tB d (mx d)) (tC d (mx d))).1]=fixF d (primR TX 17 d (rr 17 d) (qa d) (qb d) (qc d)):=by rw[eB,eC];exact(put_p h hu _).symm
  rw[e]at k
  exact apS 17 (by unfold P52;omega) d fl h.st hu _ (by omega) k
 ·rw[prim_r hu hb]
  have ht:2≤d.st.length:=Nat.le_of_not_lt hu
  have eB:=tB_e ht
  have eC:=tC_e (Nat.le_of_succ_le ht)
  by_cases h0:qc d=0
  ·have k:=sm18z d (tB d (mx d)) (tC d (mx d)) h.st ht tb tc (by rw[eC];exact h0)
   rw[show primR TX 18 d (rr 18 d) (qa d) (qb d) (qc d)=({d with st:=rr 18 d},-10) by show(match twoF 4 (qb d) (qc d)with|none=>_|some v=>_)=_;rw[show twoF 4 (qb d) (qc d)=none from if_pos h0],fix_n (by decide)]
   exact apS 18 (by unfold P52;omega) d fl h.st hu _ (by omega) k
  ·have k:=sm18n d (tB d (mx d)) (tC d (mx d)) h.st ht tb tc (by rw[eC];exact h0)
   have e:putF d 2 [wc (floorQ (tB d (mx d)) (tC d (mx d)))]=fixF d (primR TX 18 d (rr 18 d) (qa d) (qb d) (qc d)):=by
    rw[eB,eC,show primR TX 18 d (rr 18 d) (qa d) (qb d) (qc d)=putR d (rr 18 d) [wc (floorQ (qb d) (qc d))] by show(match twoF 4 (qb d) (qc d)with|none=>_|some v=>_)=_;rw[show twoF 4 (qb d) (qc d)=some (wc (floorQ (qb d) (qc d)))from if_neg h0]]
    exact(put_p h hu _).symm
   rw[e]at k
   exact apS 18 (by unfold P52;omega) d fl h.st hu _ (by omega) k
 ·rw[prim_r hu hb]
  have ht:2≤d.st.length:=Nat.le_of_not_lt hu
  have eB:=tB_e ht
  have eC:=tC_e (Nat.le_of_succ_le ht)
  by_cases h0:qc d=0
  ·have k:=sm19z d (tB d (mx d)) (tC d (mx d)) h.st ht tb tc (by rw[eC];exact h0)
   rw[show primR TX 19 d (rr 19 d) (qa d) (qb d) (qc d)=({d with st:=rr 19 d},-10) by show(match twoF 5 (qb d) (qc d)with|none=>_|some v=>_)=_;rw[show twoF 5 (qb d) (qc d)=none from if_pos h0],fix_n (by decide)]
   exact apS 19 (by unfold P52;omega) d fl h.st hu _ (by omega) k
  ·have k:=sm19n d (tB d (mx d)) (tC d (mx d)) h.st ht tb tc (by rw[eC];exact h0)
   have e:putF d 2 [tB d (mx d)-floorQ (tB d (mx d)) (tC d (mx d))*tC d (mx d)]=fixF d (primR TX 19 d (rr 19 d) (qa d) (qb d) (qc d)):=by
    rw[eB,eC,show primR TX 19 d (rr 19 d) (qa d) (qb d) (qc d)=putR d (rr 19 d) [qb d-floorQ (qb d) (qc d)*qc d] by show(match twoF 5 (qb d) (qc d)with|none=>_|some v=>_)=_;rw[show twoF 5 (qb d) (qc d)=some (qb d-floorQ (qb d) (qc d)*qc d)from if_neg h0]]
    exact(put_p h hu _).symm
   rw[e]at k
   exact apS 19 (by unfold P52;omega) d fl h.st hu _ (by omega) k
 ·rw[prim_r hu hb]
  have ht:2≤d.st.length:=Nat.le_of_not_lt hu
  have eB:=tB_e ht
  have eC:=tC_e (Nat.le_of_succ_le ht)
  have k:=sm20 d (tB d (mx d)) (tC d (mx d)) h.st ht tb tc
  have e:putF d 2 [(twoV 6 (tB d (mx d)) (tC d (mx d))).1]=fixF d (primR TX 20 d (rr 20 d) (qa d) (qb d) (qc d)):=by rw[eB,eC];exact(put_p h hu _).symm
  rw[e]at k
  exact apS 20 (by unfold P52;omega) d fl h.st hu _ (by omega) k
 ·rw[prim_r hu hb]
  have ht:2≤d.st.length:=Nat.le_of_not_lt hu
  have eB:=tB_e ht
  have eC:=tC_e (Nat.le_of_succ_le ht)
  have k:=sm21 d (tB d (mx d)) (tC d (mx d)) h.st ht tb tc
  have e:putF d 2 [(twoV 7 (tB d (mx d)) (tC d (mx d))).1]=fixF d (primR TX 21 d (rr 21 d) (qa d) (qb d) (qc d)):=by rw[eB,eC];exact(put_p h hu _).symm
  rw[e]at k
  exact apS 21 (by unfold P52;omega) d fl h.st hu _ (by omega) k
 ·rw[prim_r hu hb]
  have ht:2≤d.st.length:=Nat.le_of_not_lt hu
  have eB:=tB_e ht
  have eC:=tC_e (Nat.le_of_succ_le ht)
  have k:=sm22 d (tB d (mx d)) (tC d (mx d)) h.st ht tb tc
  have e:putF d 2 [(twoV 8 (tB d (mx d)) (tC d (mx d))).1]=fixF d (primR TX 22 d (rr 22 d) (qa d) (qb d) (qc d)):=by rw[eB,eC];exact(put_p h hu _).symm
  rw[e]at k
  exact apS 22 (by unfold P52;omega) d fl h.st hu _ (by omega) k
 ·rw[prim_r hu hb]
  have ht:2≤d.st.length:=Nat.le_of_not_lt hu
  have eB:=tB_e ht
  have eC:=tC_e (Nat.le_of_succ_le ht)
  have k:=sm23 d (tB d (mx d)) (tC d (mx d)) h.st ht tb tc
  have e:putF d 2 [(twoV 9 (tB d (mx d)) (tC d (mx d))).1]=fixF d (primR TX 23 d (rr 23 d) (qa d) (qb d) (qc d)):=by rw[eB,eC];exact(put_p h hu _).symm
  rw[e]at k
  exact apS 23 (by unfold P52;omega) d fl h.st hu _ (by omega) k
 ·rw[prim_r hu hb]
  have ht:2≤d.st.length:=Nat.le_of_not_lt hu
  have eB:=tB_e ht
  have eC:=tC_e (Nat.le_of_succ_le ht)
  have k:=sm24 d (tB d (mx d)) (tC d (mx d)) h.st ht tb tc
  have e:putF d 2 [(twoV 10 (tB d (mx d)) (tC d (mx d))).1]=fixF d (primR TX 24 d (rr 24 d) (qa d) (qb d) (qc d)):=by rw[eB,eC];exact(put_p h hu _).symm
  rw[e]at k
  exact apS 24 (by unfold P52;omega) d fl h.st hu _ (by omega) k
 ·rw[prim_r hu hb]
  have ht:1≤d.st.length:=Nat.le_of_not_lt hu
  have eC:=tC_e ht
  have k:=sm25 d (tB d (mx d)) (tC d (mx d)) h.st ht tb tc
  have e:putF d 1 [compF1 25 (tB d (mx d)) (tC d (mx d))]=fixF d (primR TX 25 d (rr 25 d) (qa d) (qb d) (qc d)):=by rw[eC];exact(put_p h hu _).symm
  rw[e]at k
  exact apS 25 (by unfold P52;omega) d fl h.st hu _ (by omega) k
 ·rw[prim_r hu hb]
  have ht:1≤d.st.length:=Nat.le_of_not_lt hu
  have eC:=tC_e ht
  have k:=sm26 d (tB d (mx d)) (tC d (mx d)) h.st ht tb tc
  have e:putF d 1 [compF1 26 (tB d (mx d)) (tC d (mx d))]=fixF d (primR TX 26 d (rr 26 d) (qa d) (qb d) (qc d)):=by rw[eC];exact(put_p h hu _).symm
  rw[e]at k
  exact apS 26 (by unfold P52;omega) d fl h.st hu _ (by omega) k
 ·rw[prim_r hu hb]
  have ht:1≤d.st.length:=Nat.le_of_not_lt hu
  have eC:=tC_e ht
  have k:=sm27 d (tB d (mx d)) (tC d (mx d)) h.st ht tb tc
  have e:putF d 1 [compF1 27 (tB d (mx d)) (tC d (mx d))]=fixF d (primR TX 27 d (rr 27 d) (qa d) (qb d) (qc d)):=by rw[eC];exact(put_p h hu _).symm
  rw[e]at k
  exact apS 27 (by unfold P52;omega) d fl h.st hu _ (by omega) k
 ·rw[prim_r hu hb]
  have ht:1≤d.st.length:=Nat.le_of_not_lt hu
  have eC:=tC_e ht
  have k:=sm28 d (tB d (mx d)) (tC d (mx d)) h.st ht tb tc
  have e:putF d 1 [compF1 28 (tB d (mx d)) (tC d (mx d))]=fixF d (primR TX 28 d (rr 28 d) (qa d) (qb d) (qc d)):=by rw[eC];exact(put_p h hu _).symm
  rw[e]at k
  exact apS 28 (by unfold P52;omega) d fl h.st hu _ (by omega) k
 ·rw[prim_r hu hb]
  have ht:1≤d.st.length:=Nat.le_of_not_lt hu
  have eC:=tC_e ht
  have k:=sm29 d (tB d (mx d)) (tC d (mx d)) h.st ht tb tc
  have e:putF d 1 [compF1 29 (tB d (mx d)) (tC d (mx d))]=fixF d (primR TX 29 d (rr 29 d) (qa d) (qb d) (qc d)):=by rw[eC];exact(put_p h hu _).symm
  rw[e]at k
  exact apS 29 (by unfold P52;omega) d fl h.st hu _ (by omega) k
 ·rw[prim_r hu hb]
  have ht:2≤d.st.length:=Nat.le_of_not_lt hu
  have eB:=tB_e ht
  have eC:=tC_e (Nat.le_of_succ_le ht)
  have k:=sm30 d (tB d (mx d)) (tC d (mx d)) h.st ht tb tc
  have e:putF d 2 [compF1 30 (tB d (mx d)) (tC d (mx d))]=fixF d (primR TX 30 d (rr 30 d) (qa d) (qb d) (qc d)):=by rw[eB,eC];exact(put_p h hu _).symm
  rw[e]at k
  exact apS 30 (by unfold P52;omega) d fl h.st hu _ (by omega) k
 ·rw[prim_r hu hb]
  have ht:2≤d.st.length:=Nat.le_of_not_lt hu
  have eB:=tB_e ht
  have eC:=tC_e (Nat.le_of_succ_le ht)
  have k:=sm31 d (tB d (mx d)) (tC d (mx d)) h.st ht tb tc
  have e:putF d 2 [compF1 31 (tB d (mx d)) (tC d (mx d))]=fixF d (primR TX 31 d (rr 31 d) (qa d) (qb d) (qc d)):=by rw[eB,eC];exact(put_p h hu _).symm
  rw[e]at k
  exact apS 31 (by unfold P52;omega) d fl h.st hu _ (by omega) k
 ·rw[prim_r hu hb]
  have ht:2≤d.st.length:=Nat.le_of_not_lt hu
  have eB:=tB_e ht
  have eC:=tC_e (Nat.le_of_succ_le ht)
  have k:=sm32 d (tB d (mx d)) (tC d (mx d)) h.st ht tb tc
  have e:putF d 2 [compF1 32 (tB d (mx d)) (tC d (mx d))]=fixF d (primR TX 32 d (rr 32 d) (qa d) (qb d) (qc d)):=by rw[eB,eC];exact(put_p h hu _).symm
  rw[e]at k
  exact apS 32 (by unfold P52;omega) d fl h.st hu _ (by omega) k
 ·rw[prim_r hu hb]
  have ht:2≤d.st.length:=Nat.le_of_not_lt hu
  have eB:=tB_e ht
  have eC:=tC_e (Nat.le_of_succ_le ht)
  have k:=sm33 d (tB d (mx d)) (tC d (mx d)) h.st ht tb tc
  have e:putF d 2 [compF1 33 (tB d (mx d)) (tC d (mx d))]=fixF d (primR TX 33 d (rr 33 d) (qa d) (qb d) (qc d)):=by rw[eB,eC];exact(put_p h hu _).symm
  rw[e]at k
  exact apS 33 (by unfold P52;omega) d fl h.st hu _ (by omega) k
 ·rw[prim_r hu hb]
  have ht:2≤d.st.length:=Nat.le_of_not_lt hu
  have eB:=tB_e ht
  have eC:=tC_e (Nat.le_of_succ_le ht)
  have k:=sm34 d (tB d (mx d)) (tC d (mx d)) h.st ht tb tc
  have e:putF d 2 [compF1 34 (tB d (mx d)) (tC d (mx d))]=fixF d (primR TX 34 d (rr 34 d) (qa d) (qb d) (qc d)):=by rw[eB,eC];exact(put_p h hu _).symm
  rw[e]at k
  exact apS 34 (by unfold P52;omega) d fl h.st hu _ (by omega) k
 ·rw[prim_r hu hb]
  have ht:2≤d.st.length:=Nat.le_of_not_lt hu
  have eB:=tB_e ht
  have eC:=tC_e (Nat.le_of_succ_le ht)
  have k:=sm35 d (tB d (mx d)) (tC d (mx d)) h.st ht tb tc
  have e:putF d 2 [compF1 35 (tB d (mx d)) (tC d (mx d))]=fixF d (primR TX 35 d (rr 35 d) (qa d) (qb d) (qc d)):=by rw[eB,eC];exact(put_p h hu _).symm
  rw[e]at k
  exact apS 35 (by unfold P52;omega) d fl h.st hu _ (by omega) k
 ·rw[prim_r hu hb]
  have ht:2≤d.st.length:=Nat.le_of_not_lt hu
  have eB:=tB_e ht
  have eC:=tC_e (Nat.le_of_succ_le ht)
  have k:=sm36 d (tB d (mx d)) (tC d (mx d)) h.st ht tb tc
  have e:putF d 2 [compF1 36 (tB d (mx d)) (tC d (mx d))]=fixF d (primR TX 36 d (rr 36 d) (qa d) (qb d) (qc d)):=by rw[eB,eC];exact(put_p h hu _).symm
  rw[e]at k
  exact apS 36 (by unfold P52;omega) d fl h.st hu _ (by omega) k
 ·rw[prim_r hu hb]
  have ht:1≤d.st.length:=Nat.le_of_not_lt hu
  have eC:=tC_e ht
  have k:=sm37 d (tB d (mx d)) (tC d (mx d)) h.st ht tb tc
  have e:putF d 1 [compF1 37 (tB d (mx d)) (tC d (mx d))]=fixF d (primR TX 37 d (rr 37 d) (qa d) (qb d) (qc d)):=by rw[eC];exact(put_p h hu _).symm
  rw[e]at k
  exact apS 37 (by unfold P52;omega) d fl h.st hu _ (by omega) k
 ·rw[prim_r hu hb]
  have ht:1≤d.st.length:=Nat.le_of_not_lt hu
  have eC:=tC_e ht
  have k:=sm38 d (tB d (mx d)) (tC d (mx d)) h.st ht tb tc
  have e:putF d 1 [compF1 38 (tB d (mx d)) (tC d (mx d))]=fixF d (primR TX 38 d (rr 38 d) (qa d) (qb d) (qc d)):=by rw[eC];exact(put_p h hu _).symm
  rw[e]at k
  exact apS 38 (by unfold P52;omega) d fl h.st hu _ (by omega) k
 ·rw[prim_r hu hb]
  have ht:1≤d.st.length:=Nat.le_of_not_lt hu
  have eC:=tC_e ht
  rw[me39 h hu]
  rw[←eC]
  cases hk:cellAt d (tC d (mx d))with
  |none=>exact apC 39 (by unfold P52;omega) d fl h.st hu _ (by omega) (md_n 39 (by omega) d _ _ (dk_of h) tc hk)
  |some k=>exact apC 39 (by unfold P52;omega) d fl h.st hu _ (by omega) (md39 d _ _ (dk_of h) ht tc k hk)
 ·rw[prim_r hu hb]
  have ht:2≤d.st.length:=Nat.le_of_not_lt hu
  have eB:=tB_e ht
  have eC:=tC_e (Nat.le_of_succ_le ht)
  rw[me40 h]
  rw[←eB,←eC]
  cases hk:cellAt d (tC d (mx d))with
  |none=>exact apC 40 (by unfold P52;omega) d fl h.st hu _ (by omega) (md_n 40 (by omega) d _ _ (dk_of h) tc hk)
  |some k=>exact apC 40 (by unfold P52;omega) d fl h.st hu _ (by omega) (md40 d _ _ (dk_of h) ht tb tc k hk)
 ·rw[prim_r hu hb]
  have ht:2≤d.st.length:=Nat.le_of_not_lt hu
  have eB:=tB_e ht
  have eC:=tC_e (Nat.le_of_succ_le ht)
  rw[me41 h]
  rw[←eB,←eC]
  cases hk:cellAt d (tC d (mx d))with
  |none=>exact apC 41 (by unfold P52;omega) d fl h.st hu _ (by omega) (md_n 41 (by omega) d _ _ (dk_of h) tc hk)
  |some k=>exact apC 41 (by unfold P52;omega) d fl h.st hu _ (by omega) (md41 d _ _ (dk_of h) ht tb tc k hk)
 ·rw[prim_r hu hb]
  have ht:0≤d.st.length:=Nat.le_of_not_lt hu
  have k:=md42 d (tB d (mx d)) (tC d (mx d)) (dk_of h)
  have e:putF d 0 [4096+4*d.he]=fixF d (primR TX 42 d (rr 42 d) (qa d) (qb d) (qc d)):=(put_p h hu _).symm
  rw[e]at k
  exact apC 42 (by unfold P52;omega) d fl h.st hu _ (by omega) k
 ·rw[prim_r hu hb]
  have ht:1≤d.st.length:=Nat.le_of_not_lt hu
  have eC:=tC_e ht
  rw[me43 h,←eC]
  exact apC 43 (by unfold P52;omega) d fl h.st hu _ (by omega) (md43 d _ _ (dk_of h) ht tc)
 ·rw[prim_r hu hb]
  have ht:1≤d.st.length:=Nat.le_of_not_lt hu
  have eC:=tC_e ht
  rw[me44b h,←eC]
  exact apC 44 (by unfold P52;omega) d fl h.st hu _ (by omega) (md44 d _ _ (dk_of h) ht tc)
 ·rw[prim_r hu hb]
  have ht:1≤d.st.length:=Nat.le_of_not_lt hu
  have eC:=tC_e ht
  rw[sa45 (by omega) h,←eC]
  exact apY 45 (by unfold P52;omega) d fl h.st hu _ (by omega) (sy 45 (by omega) d _ (dk_of h) (Nat.le_of_not_lt hu) tc)
 ·rw[prim_r hu hb]
  have ht:1≤d.st.length:=Nat.le_of_not_lt hu
  have eC:=tC_e ht
  rw[sa45 (by omega) h,←eC]
  exact apY 46 (by unfold P52;omega) d fl h.st hu _ (by omega) (sy 46 (by omega) d _ (dk_of h) (Nat.le_of_not_lt hu) tc)
 ·rw[prim_r hu hb]
  have ht:0≤d.st.length:=Nat.le_of_not_lt hu
  rw[sa45 (by omega) h,show sayR 47 d (qc d)=sayR 47 d (tC d (mx d))from rfl]
  exact apY 47 (by unfold P52;omega) d fl h.st hu _ (by omega) (sy 47 (by omega) d _ (dk_of h) (Nat.le_of_not_lt hu) tc)
 ·rw[prim_r hu hb]
  have ht:0≤d.st.length:=Nat.le_of_not_lt hu
  rw[sa45 (by omega) h,show sayR 48 d (qc d)=sayR 48 d (tC d (mx d))from rfl]
  exact apY 48 (by unfold P52;omega) d fl h.st hu _ (by omega) (sy 48 (by omega) d _ (dk_of h) (Nat.le_of_not_lt hu) tc)
 ·rw[prim_r hu hb]
  have ht:0≤d.st.length:=Nat.le_of_not_lt hu
  have k:=sy49 d (tC d (mx d))
  have e:(({d with ba:=10},0):Dat × Int)=fixF d (primR TX 49 d (rr 49 d) (qa d) (qb d) (qc d)):=by
   show _=fixF d ({d with st:=rr 49 d,ba:=10},0)
   rw[rr_0 rfl,fix_0]
  rw[e]at k
  exact apY 49 (by unfold P52;omega) d fl h.st hu _ (by omega) k
 ·rw[prim_r hu hb]
  have ht:0≤d.st.length:=Nat.le_of_not_lt hu
  have k:=sy50 d (tC d (mx d))
  have e:(({d with ba:=16},0):Dat × Int)=fixF d (primR TX 50 d (rr 50 d) (qa d) (qb d) (qc d)):=by
   show _=fixF d ({d with st:=rr 50 d,ba:=16},0)
   rw[rr_0 rfl,fix_0]
  rw[e]at k
  exact apY 50 (by unfold P52;omega) d fl h.st hu _ (by omega) k
 ·rw[prim_r hu hb]
  have ht:0≤d.st.length:=Nat.le_of_not_lt hu
  have k:=bk51 d fl (tC d (mx d)) h.st h.bk hf (by have:backN 51=1:=rfl;omega)
  have e:putF d 0 [d.bk.getD (d.bk.length-1) 0]=fixF d (primR TX 51 d (rr 51 d) (qa d) (qb d) (qc d)):=(put_p h hu _).symm
  rw[e]at k
  exact apB2 51 (by unfold P52;omega) d fl h.st hu _ (by omega) k
 ·rw[prim_r hu hb]
  have ht:0≤d.st.length:=Nat.le_of_not_lt hu
  have k:=bk52 d fl (tC d (mx d)) h.st h.bk hf (by have:backN 52=2:=rfl;omega)
  have e:(({d with bk:=d.bk.take (d.bk.length-2)},0):Dat × Int)=fixF d (primR TX 52 d (rr 52 d) (qa d) (qb d) (qc d)):=by
   show _=fixF d ({d with st:=rr 52 d,bk:=d.bk.take (d.bk.length-2)},0)
   rw[rr_0 rfl,fix_0]
  rw[e]at k
  exact apB2 52 (by unfold P52;omega) d fl h.st hu _ (by omega) k
end P19

/- A prim leaves valid data; plain. -/
open Go Go.Abs Go.Proofs V1 H1 F1 F2 T1 T2 T3 P1 P2 P3 P4 P5 P6 P7 P8 P9 P10 P11 P12 P13 P14 P15 P16 P17 P18 P19
namespace P20
def Ce(n:Int):Prop:= -2147483648≤n∧n≤2147483647
theorem cell_ce{n:Int}:cell n=true↔Ce n:=by simp[cell,inR,Ce]
theorem cok_iff{l:List Int}:cellsOK l=true↔ ∀n∈l,Ce n:=by
 unfold cellsOK
 rw[List.all_eq_true]
 exact⟨fun h n hn=>cell_ce.1 (h n hn),fun h n hn=>cell_ce.2 (h n hn)⟩
theorem cok_app{l m:List Int}(h:cellsOK l=true)(k:cellsOK m=true):cellsOK (l++m)=true:=by simp[cellsOK]at*;exact⟨h,k⟩
theorem cok_take{l:List Int}{n:Nat}(h:cellsOK l=true):cellsOK (l.take n)=true:=cok_iff.2 fun x hx=>cok_iff.1 h x (List.mem_of_mem_take hx)
theorem cok_drop{l:List Int}{n:Nat}(h:cellsOK l=true):cellsOK (l.drop n)=true:=cok_iff.2 fun x hx=>cok_iff.1 h x (List.mem_of_mem_drop hx)
theorem cok_set{l:List Int}{n:Nat}{v:Int}(h:cellsOK l=true)(hv:Ce v):cellsOK (l.set n v)=true:=cok_iff.2 fun x hx=>(List.mem_or_eq_of_mem_set hx).elim (cok_iff.1 h x) (fun e=>e▸hv)
theorem cok_get{l:List Int}{n:Nat}(h:cellsOK l=true):Ce (l.getD n 0):=cells_get h n
theorem cok1{a:Int}(h:Ce a):cellsOK [a]=true:=cok_iff.2 fun x hx=>by simp at hx;exact hx▸h
theorem cok_cons{a:Int}{l:List Int}(h:Ce a)(k:cellsOK l=true):cellsOK (a::l)=true:=cok_app (cok1 h) k
theorem wc_ce(n:Int):Ce (wc n):=wc_cell n
theorem wrap_toInt(x:BitVec 64):IntKind.i64.wrap (x.toNat:Int)=x.toInt:=by
 have e:IntKind.i64.wrap (x.toNat:Int)=if(true&&decide ((x.toNat:Int)%2 ^ 64≥2 ^ (64-1)))=true then(x.toNat:Int)%2 ^ 64-2 ^ 64 else(x.toNat:Int)%2 ^ 64:=rfl
 have h:=x.isLt
 rw[e,BitVec.toInt_eq_toNat_cond]
 have e1:(2:Int) ^ 64=18446744073709551616:=by decide
 have e2:(2:Int) ^ (64-1)=9223372036854775808:=by decide
 have e3:(2:Nat) ^ 64=18446744073709551616:=by decide
 simp only[e1,e2,e3,Bool.true_and,decide_eq_true_eq]at*
 split<;>split<;>omega
theorem of_sx{a:Int}(h:Ce a):BitVec.ofInt 64 a=(BitVec.ofInt 32 a).signExtend 64:=by
 apply BitVec.eq_of_toInt_eq
 rw[BitVec.toInt_signExtend_of_le (by omega),BitVec.toInt_ofInt,BitVec.toInt_ofInt]
 unfold Ce at h
 rw[Int.bmod_eq_of_le (by omega) (by omega),Int.bmod_eq_of_le (by omega) (by omega)]
theorem sx_ce(x:BitVec 32):Ce (IntKind.i64.wrap ((x.signExtend 64).toNat:Int)):=by
 rw[wrap_toInt,BitVec.toInt_signExtend_of_le (by omega)]
 have h1:=BitVec.le_two_mul_toInt (x:=x)
 have h2:=BitVec.two_mul_toInt_lt (x:=x)
 have e3:(2:Int) ^ 32=4294967296:=by decide
 rw[e3]at h1 h2
 unfold Ce
 omega
theorem and_ce{a b:Int}(h:Ce a)(k:Ce b):Ce (bitw (· &&& ·) a b):=by
 unfold bitw;rw[of_sx h,of_sx k]
 show Ce (IntKind.i64.wrap (((BitVec.signExtend 64 _&&&BitVec.signExtend 64 _).toNat:Nat):Int))
 rw[←BitVec.signExtend_and];exact sx_ce _
theorem or_ce{a b:Int}(h:Ce a)(k:Ce b):Ce (bitw (· ||| ·) a b):=by
 unfold bitw;rw[of_sx h,of_sx k]
 show Ce (IntKind.i64.wrap (((BitVec.signExtend 64 _|||BitVec.signExtend 64 _).toNat:Nat):Int))
 rw[←BitVec.signExtend_or];exact sx_ce _
theorem xor_ce{a b:Int}(h:Ce a)(k:Ce b):Ce (bitw (· ^^^ ·) a b):=by
 unfold bitw;rw[of_sx h,of_sx k]
 show Ce (IntKind.i64.wrap (((BitVec.signExtend 64 _^^^BitVec.signExtend 64 _).toNat:Nat):Int))
 rw[←BitVec.signExtend_xor];exact sx_ce _
theorem rem_ce{a b:Int}(h:Ce a)(k:Ce b)(h0: ¬b=0):Ce (a-floorQ a b*b):=by
 have hs:=tmod_sign (a:=a) (b:=b)
 have hl:(a.tmod b).natAbs<b.natAbs:=by rw[Int.natAbs_tmod];exact Nat.mod_lt _ (by omega)
 unfold Ce at*
 by_cases hc:a.tmod b≠0∧((a<0)≠(b<0))
 ·rw[←floor_r hc]
  have hne: ¬((a<0)↔(b<0)):=fun e=>hc.2 (propext e)
  omega
 ·rw[←floor_r0 hc]
  omega
theorem two_ce{k:Nat}{a b v:Int}(h:Ce a)(hk:Ce b)(e:twoF k a b=some v):Ce v:=by
 unfold twoF at e
 split at e
 ·injection e with e;exact e▸wc_ce _
 ·injection e with e;exact e▸wc_ce _
 ·injection e with e;exact e▸wc_ce _
 ·split at e
  ·cases e
  ·injection e with e;exact e▸wc_ce _
 ·split at e
  ·cases e
  ·injection e with e;exact e▸rem_ce h hk (by assumption)
 ·injection e with e;exact e▸and_ce h hk
 ·injection e with e;exact e▸or_ce h hk
 ·injection e with e;exact e▸xor_ce h hk
 ·injection e with e
  subst e
  split
  ·exact wc_ce _
  ·simp[Ce]
 ·injection e with e
  subst e
  split
  ·exact wc_ce _
  ·simp[Ce]
theorem flag_ce(b:Bool):Ce (flagF b):=by cases b<;>simp[flagF,Ce]
theorem comp_ce{p:Nat}{b c:Int}(h:Ce b)(k:Ce c):Ce (compF1 p b c):=by
 unfold compF1
 split
 ·exact wc_ce _
 ·exact wc_ce _
 ·unfold Ce at*;omega
 ·exact wc_ce _
 ·exact wc_ce _
 ·unfold Ce at*;omega
 ·unfold Ce at*;omega
 all_goals exact flag_ce _
theorem wst{d:Dat}{r:List Int}(h:DataOk d)(hr:r.length≤32)(k:cellsOK r=true):DataOk {d with st:=r}:=⟨hr,h.bk,h.ce,k,h.cbk,h.cce,h.he,h.ba,h.ou⟩
theorem wbk{d:Dat}{r:List Int}(h:DataOk d)(hr:r.length≤32)(k:cellsOK r=true):DataOk {d with bk:=r}:=⟨h.st,hr,h.ce,h.cst,k,h.cce,h.he,h.ba,h.ou⟩
theorem wce{d:Dat}{r:List Int}(h:DataOk d)(hr:r.length=32)(k:cellsOK r=true):DataOk {d with ce:=r}:=⟨h.st,h.bk,hr,h.cst,h.cbk,k,h.he,h.ba,h.ou⟩
theorem put_ok{d:Dat}{r l:List Int}(h:DataOk d)(hr:r.length≤32)(k:cellsOK r=true)(hl:cellsOK l=true):DataOk (putR d r l).1:=by
 unfold putR
 by_cases h0:32<r.length+l.length
 ·rw[if_pos h0];exact wst h hr k
 ·rw[if_neg h0];exact wst h (by simp;omega) (cok_app k hl)
theorem allot_ok{d:Dat}{n:Int}(h:DataOk d):DataOk (allotF d n).1:=by
 by_cases h0:n.tmod 4=0∧inR (d.he+n.tdiv 4) 0 32=true
 ·rw[allot_s h0.1 h0.2]
  have h2:=inR_t h0.2
  have hh:=h.he
  have hl:(zeros d.ce d.he (d.he+n.tdiv 4)).length=32:=by
   rw[zeros_zr hh.1 h2.1,zr_len]
   ·exact h.ce
   ·have:=h.ce;omega
  refine⟨h.st,h.bk,hl,h.cst,h.cbk,?_,h2,h.ba,h.ou⟩
  unfold zeros
  refine cok_app (cok_app (cok_take h.cce) (cok_iff.2 fun x hx=> ?_)) (cok_drop h.cce)
  rw[(List.mem_replicate.1 hx).2];simp[Ce]
 ·rw[allot_n (if h1:n.tmod 4=0 then .inr (by simpa[h1]using h0)else .inl h1)]
  exact h
theorem store_ok{d:Dat}{a n:Int}(h:DataOk d)(hn:Ce n):DataOk (storeF d a n).1:=by
 unfold storeF
 split
 ·exact h
 ·exact wce h (by simp[h.ce]) (cok_set h.cce hn)
theorem say_ok{d:Dat}{t:List UInt8}(h:DataOk d):DataOk (sayF d t).1:=by
 unfold sayF
 by_cases h0:300<d.ou.length+t.length
 ·rw[if_pos h0];exact h
 ·rw[if_neg h0];exact⟨h.st,h.bk,h.ce,h.cst,h.cbk,h.cce,h.he,h.ba,by simp;omega⟩
theorem primR_ok{txt:Int→Int→List UInt8}{p:Nat}{d:Dat}{r:List Int}{a b c:Int}(h:DataOk d)(hr:r.length≤32)(k:cellsOK r=true)(ha:Ce a)(hb:Ce b)(hc:Ce c):DataOk (primR txt p d r a b c).1:=by
 have hn:cellsOK []=true:=rfl
 have hw:=wst h hr k
 have hl:Ce (r.length:Int):=by unfold Ce;omega
 have hq:Ce (4096+4*d.he):=by have:=h.he;unfold Ce;omega
 unfold primR
 split
 ·exact put_ok h hr k (cok_cons hc (cok1 hc))
 ·exact hw
 ·exact put_ok h hr k (cok_cons hc (cok1 hb))
 ·exact put_ok h hr k (cok_cons hb (cok_cons hc (cok1 hb)))
 ·exact put_ok h hr k (cok_cons hb (cok_cons hc (cok1 ha)))
 ·exact put_ok h hr k (cok1 hc)
 ·exact put_ok h hr k (cok_cons hc (cok_cons hb (cok1 hc)))
 ·split
  ·exact put_ok h hr k (cok1 (by simp[Ce]))
  ·exact put_ok h hr k (cok_cons hc (cok1 hc))
 ·exact put_ok h hr k (cok_cons hb (cok_cons hc (cok_cons hb (cok1 hc))))
 ·exact hw
 ·exact put_ok h hr k (cok1 hl)
 ·split
  ·exact hw
  ·exact wbk hw (by have:=h.bk;simp;omega) (cok_app h.cbk (cok1 hc))
 ·exact put_ok (wbk h (by have:=h.bk;simp;omega) (cok_take h.cbk)) hr k (cok1 (cok_get h.cbk))
 ·exact put_ok h hr k (cok1 (cok_get h.cbk))
 ·split
  ·exact hw
  ·exact put_ok h hr k (cok1 (cok_get h.cce))
 ·exact store_ok hw hb
 ·split
  ·exact hw
  ·exact wce hw (by simp[h.ce]) (cok_set h.cce (wc_ce _))
 ·exact put_ok h hr k (cok1 hq)
 ·exact allot_ok hw
 ·have h4:=allot_ok (n:=4) hw
  generalize allotF {d with st:=r} 4=x at h4
  obtain⟨x,th⟩:=x
  show DataOk (if th≠0 then(x,th)else storeF x (4096+4*d.he) c).1
  split
  ·exact h4
  ·exact store_ok h4 hc
 ·exact say_ok hw
 ·exact say_ok hw
 ·exact say_ok hw
 ·exact say_ok hw
 ·exact⟨hr,h.bk,h.ce,k,h.cbk,h.cce,h.he,by simp,h.ou⟩
 ·exact⟨hr,h.bk,h.ce,k,h.cbk,h.cce,h.he,by simp,h.ou⟩
 ·exact put_ok h hr k (cok1 (cok_get h.cbk))
 ·exact wbk hw (by have:=h.bk;simp;omega) (cok_take h.cbk)
 ·split
  ·split
   ·exact hw
   ·exact put_ok h hr k (cok1 (two_ce hb hc (by assumption)))
  ·exact put_ok h hr k (cok1 (comp_ce hb hc))
theorem prim_ok{txt:Int→Int→List UInt8}{p:Nat}{fl:Int}{d:Dat}(h:DataOk d):DataOk (primF txt p fl d).1:=by
 have hI:DataOk (primI txt p fl d).1:=by
  unfold primI
  by_cases h1:d.st.length<takesN p
  ·rw[if_pos h1];exact h
  ·rw[if_neg h1]
   by_cases h2:(d.bk.length:Int)-fl<backN p
   ·rw[if_pos h2];exact h
   ·rw[if_neg h2]
    exact primR_ok h (by have:=h.st;simp;omega) (cok_take h.cst) (cok_get h.cst) (cok_get h.cst) (cok_get h.cst)
 unfold primF
 by_cases h0:(primI txt p fl d).2=0
 ·rw[if_pos h0];exact hI
 ·rw[if_neg h0];exact h
end P20

/- ApplyPrim: the reference's contract, and the law. -/
open Go Go.Abs Go.Proofs V1 H1 F1 F2 T1 T2 T3 P1 P2 P3 P4 P5 P6 P7 P8 P9 P10 P11 P12 P13 P14 P15 P16 P17 P18 P19 P20
namespace P21
theorem c8(d:Dat)(p fl:Int):Con Tryz.prog 8 [datV d,.int .i64 p,.int .i64 fl] (undefs [datV d,.int .i64 p,.int .i64 fl]) (apV (applyF d p fl)):=by
 by_cases h1:dataOK d=true
 rotate_left
 ·rw[Bool.not_eq_true]at h1
  have k1:=c28 d
  rw[h1]at k1
  rw[applyF,if_pos h1]
  refine Con.ev 36 T_ok mix Tryz.func8 rfl rfl rfl rfl [.cell 6 26,.tmp 7,.tmp 8] rfl ?_
  conv=>whnf
  iterate 23 ((first|apply rq_s rfl|apply rows_s rfl|apply br_t rfl|apply lend_s|refine call_s (k1 ..) ?_);conv=>whnf)
  rotate_left
  exact⟨sh_dat0 _ _⟩
 have k1:=c28 d
 rw[h1]at k1
 have hd:=(dataOK_iff d).1 h1
 by_cases h2:inR p 1 52=true
 rotate_left
 ·rw[Bool.not_eq_true]at h2
  have g2:(!inR p 1 52)=true:=by rw[h2];rfl
  rw[applyF,if_neg (by simp[h1]),if_pos h2]
  refine Con.ev 36 T_ok mix Tryz.func8 rfl rfl rfl rfl [.cell 6 26,.tmp 7,.tmp 8] rfl ?_
  conv=>whnf
  iterate 27 ((first|apply rq_s rfl|apply rows_s rfl|apply br_f rfl|refine br_t (by assumption) ?_|apply lend_s|refine call_s (k1 ..) ?_|refine call_s (c29 ..) ?_);conv=>whnf)
  rotate_left
  exact⟨sh_dat0 _ _⟩
 have g2:(!inR p 1 52)=false:=by rw[h2];rfl
 have i2:=inR_t h2
 by_cases h3:inR fl 0 d.bk.length=true
 rotate_left
 ·rw[Bool.not_eq_true]at h3
  have g3:(!inR fl 0 ((d.bk.map intR).length:Nat))=true:=by rw[List.length_map,h3];rfl
  rw[applyF,if_neg (by simp[h1]),if_neg (by simp[h2]),if_pos h3]
  refine Con.ev 36 T_ok mix Tryz.func8 rfl rfl rfl rfl [.cell 6 26,.tmp 7,.tmp 8] rfl ?_
  conv=>whnf
  iterate 34 ((first|apply rq_s rfl|apply rows_s rfl|apply br_f rfl|refine br_t (by assumption) ?_|refine br_f (by assumption) ?_|apply lend_s|refine call_s (k1 ..) ?_|refine call_s (c29 ..) ?_|refine call_s (c30 ..) ?_);conv=>whnf)
  rotate_left
  exact⟨sh_dat0 _ _⟩
 have g3:(!inR fl 0 ((d.bk.map intR).length:Nat))=false:=by rw[List.length_map,h3];rfl
 have k2:=c31 p.toNat (by unfold P52;omega) d fl hd (inR_t h3)
 rw[Int.toNat_of_nonneg (by omega)]at k2
 have k3:=c32 (primF TX p.toNat fl d).1 (small_ok (prim_ok hd))
 rw[applyF,if_neg (by simp[h1]),if_neg (by simp[h2]),if_neg (by simp[h3])]
 generalize primF TX p.toNat fl d=x at k2 k3
 refine Con.ev 36 T_ok mix Tryz.func8 rfl rfl rfl rfl [.cell 6 26,.tmp 7,.tmp 8] rfl ?_
 conv=>whnf
 (iterate 67 ((first|refine rq_s (by solve|simp only[lms,mkData,ownI]|fail) ?_|apply rq_s rfl|apply rows_s rfl|refine fac_s (fun hf=> ?_)|apply br_f rfl|refine br_f (by assumption) ?_|apply lend_s|refine call_s (k1 ..) ?_|refine call_s (c29 ..) ?_|refine call_s (c30 ..) ?_|refine call_s (k2 ..) ?_|refine call_s (k3 ..) ?_);conv=>whnf));iterate 3 (refine rows_s (by((refine sub_all ?_;simp[lms,mkData,ownI];done))) ?_;conv=>whnf)
 rotate_left
 exact sh_s rfl
end P21

/- ApplyAll by the program; contracts. -/
open Go Go.Abs Go.Proofs V1 H1 F1 F2 T1 T2 T3 P1 P2 P3 P4 P5 P6 P7 P8 P9 P10 P11 P12 P13 P14 P15 P16 P17 P18 P19 P20 P21
namespace P23
def longI(rs:List Int):Bool:=decide (4096<rs.length)
theorem c66(rs:List Int):Con Tryz.prog 66 [roI rs] (undefs [roI rs]) (.bool (longI rs)):=by
 refine Con.ev 6 T_ok mix Tryz.func66 rfl rfl rfl rfl [.tmp 2] rfl ?_
 conv=>whnf
 (apply rq_s rfl;conv=>whnf);(refine sh_s ?_;((simp[longI];omega)))
def rrI(rs:List Int):List AV:=[roI rs]
def roRRI(rss:List (List Int)):AV:=.ro [.emp] (rss.map rrI)
theorem c96(rss:List (List Int)):Con Tryz.prog 96 [roRRI rss,.fn 66 []] (undefs [roRRI rss,.fn 66 []]) (.int .i64 (findI longI rss)):=by
 refine Con.evF 19 T_ok mix Tryz.func96 rfl rfl rfl rfl [.tmp 4] rfl fun⟨hx,_⟩=> ?_
 have hx:=facts_len hx
 conv=>whnf
 rotate_left
 refine LoopG.rounds (α:=Nat) T_ok mix [0,1,7,8] [] (fun i=>[(0,roRRI rss),(1,.fn 66 []),(7,.int .i64 rss.length),(8,.int .i64 i)]) (fun _=>[]) (fun i=>i≤rss.length∧ ∀j,j<i→longI (rss.getD j default)=false) (fun i=>rss.length-i) ?_ ?_
 ·conv=>whnf
  exact head_s 0 ⟨by simp,fun j hj=>by omega⟩ (by simp[roRRI]) rfl
 ·rintro i ⟨h1,h2⟩- -
  conv=>whnf
  (iterate 3 (first|(apply rq_s rfl;conv=>whnf)|(refine rq_s (by refine and_s rfl ?_;simp only[lnm];omega) ?_;conv=>whnf)|(refine br_s ?_ ?_<;>intro hb<;>(try simp only[cln]at hb)<;>conv=>whnf)));(refine row_s (by((try simp only[Int.toNat_natCast]);exact row_map rrI _ _ _ default (by first|omega|(simp;omega)))) ?_;conv=>whnf);iterate 6 (first|(apply rq_s rfl;conv=>whnf)|(apply rows_s rfl;conv=>whnf)|(refine br_s ?_ ?_<;>intro hb<;>(try simp only[cln]at hb)<;>conv=>whnf)|(apply lend_s;conv=>whnf)|(refine call_s (c66 ..) ?_;conv=>whnf))
  iterate 2 (rotate_left)
  (apply rq_s rfl;conv=>whnf)
  rotate_left
  ·refine sh_s ?_
   rw[findI_hit default (by assumption) hb h2]
  ·refine head_s (i+1) ⟨⟨by omega,fun j hj=> ?_⟩,by omega⟩ (by rw[wrap64 (by omega) (by omega)];rfl) rfl
   by_cases hji:j=i
   ·subst hji;exact hb
   ·exact h2 j (by omega)
  ·refine sh_s ?_
   rw[findI_none default fun j hj=>h2 j (by omega)]
theorem c65(rss:List (List Int)):Con Tryz.prog 65 [roRRI rss,.fn 66 []] (undefs [roRRI rss,.fn 66 []]) (.bool (rss.any longI)):=by
 refine Con.ev 9 T_ok mix Tryz.func65 rfl rfl rfl rfl [.tmp 4] rfl ?_
 conv=>whnf
 (iterate 7 ((first|apply rq_s rfl|apply rows_s rfl|refine fac_s (fun hf=> ?_)|apply lend_s|refine call_s (c96 ..) ?_);conv=>whnf));(refine sh_s ?_;((rw[←findI_any])))
theorem c38(rs:List Int):Con Tryz.prog 38 [.ro [.emp] [[roI rs]]] (undefs [.ro [.emp] [[roI rs]]]) (.bool (decide (4096<rs.length))):=by
 have e:(.bool (decide (4096<rs.length)):AV)=.bool ([rs].any longI):=by simp[longI]
 rw[e]
 show Con Tryz.prog 38 [roRRI [rs]] (undefs [roRRI [rs]]) _
 refine Con.ev 5 T_ok mix Tryz.func38 rfl rfl rfl rfl [.tmp 2] rfl ?_
 conv=>whnf
 (iterate 6 ((first|apply rq_s rfl|apply rows_s rfl|apply lend_s|refine call_s (c65 ..) ?_);conv=>whnf));(refine sh_s ?_;(rfl))
def badPrim(n:Int):Bool:= !inR n 1 52
theorem c40(n:Int):Con Tryz.prog 40 [.int .i64 n] (undefs [.int .i64 n]) (.bool (badPrim n)):=by
 refine Con.ev 6 T_ok mix Tryz.func40 rfl rfl rfl rfl [.tmp 2] rfl ?_
 conv=>whnf
 (iterate 6 ((first|apply rq_s rfl|apply lend_s|refine call_s (c33 ..) ?_);conv=>whnf));(refine sh_s ?_;(rfl))
theorem c67(rs:List (Int)):Con Tryz.prog 67 [roI rs,.fn 40 []] (undefs [roI rs,.fn 40 []]) (.int .i64 (findI badPrim rs)):=by
 refine Con.evF 19 T_ok mix Tryz.func67 rfl rfl rfl rfl [.tmp 4] rfl fun⟨hx,_⟩=> ?_
 have hx:=facts_len hx
 conv=>whnf
 rotate_left
 refine LoopG.rounds (α:=Nat) T_ok mix [0,1,7,8] [] (fun i=>[(0,roI rs),(1,.fn 40 []),(7,.int .i64 rs.length),(8,.int .i64 i)]) (fun _=>[]) (fun i=>i≤rs.length∧ ∀j,j<i→badPrim (rs.getD j default)=false) (fun i=>rs.length-i) ?_ ?_
 ·conv=>whnf
  exact head_s 0 ⟨by simp,fun j hj=>by omega⟩ (by simp[roI]) rfl
 ·rintro i ⟨h1,h2⟩- -
  conv=>whnf
  (iterate 3 (first|(apply rq_s rfl;conv=>whnf)|(refine rq_s (by refine and_s rfl ?_;simp only[lnm];omega) ?_;conv=>whnf)|(refine br_s ?_ ?_<;>intro hb<;>(try simp only[cln]at hb)<;>conv=>whnf)));(refine row_s (by((try simp only[Int.toNat_natCast]);exact row_map intR _ _ _ default (by first|omega|(simp;omega)))) ?_;conv=>whnf);iterate 5 (first|(apply rq_s rfl;conv=>whnf)|(refine br_s ?_ ?_<;>intro hb<;>(try simp only[cln]at hb)<;>conv=>whnf)|(apply lend_s;conv=>whnf)|(refine call_s (c40 ..) ?_;conv=>whnf))
  iterate 2 (rotate_left)
  (apply rq_s rfl;conv=>whnf)
  rotate_left
  ·refine sh_s ?_
   rw[findI_hit default (by assumption) hb h2]
  ·refine head_s (i+1) ⟨⟨by omega,fun j hj=> ?_⟩,by omega⟩ (by rw[wrap64 (by omega) (by omega)];rfl) rfl
   by_cases hji:j=i
   ·subst hji;exact hb
   ·exact h2 j (by omega)
  ·refine sh_s ?_
   rw[findI_none default fun j hj=>h2 j (by omega)]
theorem c39(rs:List (Int)):Con Tryz.prog 39 [roI rs,.fn 40 []] (undefs [roI rs,.fn 40 []]) (.bool (rs.any badPrim)):=by
 refine Con.ev 9 T_ok mix Tryz.func39 rfl rfl rfl rfl [.tmp 4] rfl ?_
 conv=>whnf
 (iterate 7 ((first|apply rq_s rfl|apply rows_s rfl|refine fac_s (fun hf=> ?_)|apply lend_s|refine call_s (c67 ..) ?_);conv=>whnf));(refine sh_s ?_;((rw[←findI_any])))
theorem c42(p:Nat)(hp:P52 p)(d:Dat)(h:DataOk d):Con Tryz.prog 42 [.obj (datC d),.rp [.int .i64 p] 0] [.obj (datC (primI TX p 0 d).1),.undef] (.int .i64 (primI TX p 0 d).2):=by
 have k1:=c36 p hp d 0 h ⟨by omega,by omega⟩
 generalize primI TX p 0 d=x at k1
 refine Con.evP 7 [500000] rfl T_ok mix Tryz.func42 rfl rfl rfl rfl [.tmp 3] rfl ?_
 conv=>whnf
 (iterate 5 ((first|apply rq_s rfl|refine row_s (by(rfl)) ?_|refine handp_s 36 [some 6,none,none] ?_);conv=>whnf));(focus (apply callpe_s (f:=36);(· repeat' (first|(refine sub_all ?_;simp[lms,ownI];done)|exact sub_map _ _ _ _|apply cons_eq|apply obj_eq|apply agg_eq|apply own_eq|apply ro_eq|apply rp_eq|apply fnc_eq|rfl));refine callp_s (f:=36) rfl (k1 ..) ?_;conv=>whnf));(iterate 3 ((first|apply rq_s rfl|refine fac_s (fun hf=> ?_)|refine aftp_s (by rfl) ?_);conv=>whnf));(iterate 3 (refine rows_s (by((refine sub_all ?_;simp[lms,ownI];done))) ?_;conv=>whnf));(refine aftp_s (by rfl) ?_;conv=>whnf)
 exact True.intro
 all_goals skip
theorem changed2(p:Nat)(hp:P52 p)(d:Dat)(h:DataOk d):Con Tryz.prog 34 [datV d,.fn 42 [.rp [.int .i64 p] 0]] (undefs [datV d,.fn 42 [.rp [.int .i64 p] 0]]) (.tup [datO (primF TX p 0 d).1,.int .i64 (primF TX p 0 d).2]):=by
 have k1:=c42 p hp d h
 have k2:=c41 d (small_ok h)
 unfold primF
 generalize primI TX p 0 d=x at k1
 by_cases h0:x.2=0
 ·rw[if_pos h0]
  have g0:(x.2 != 0)=false:=by rw[h0];rfl
  refine Con.ev 18 T_ok mix Tryz.func34 rfl rfl rfl rfl [.cell 4 26,.tmp 5] rfl ?_
  conv=>whnf
  (iterate 21 ((first|apply rq_s rfl|apply rows_s rfl|refine fac_s (fun hf=> ?_)|refine handp_s 42 [some 6,none] ?_|apply lend_s|refine call_s (k2 ..) ?_);conv=>whnf));(focus (apply callpe_s (f:=42);(· repeat' (first|(refine sub_all ?_;simp[lms,ownI];done)|exact sub_map _ _ _ _|apply cons_eq|apply obj_eq|apply agg_eq|apply own_eq|apply ro_eq|apply rp_eq|apply fnc_eq|rfl));refine callp_s (f:=42) rfl (k1 ..) ?_;conv=>whnf));(iterate 13 ((first|refine rq_s (by solve|simp only[lms,ownI]|fail) ?_|apply rq_s rfl|refine fac_s (fun hf=> ?_)|refine br_f (by assumption) ?_);conv=>whnf));iterate 3 (refine rows_s (by((refine sub_all ?_;simp[lms,ownI];done))) ?_;conv=>whnf)
  rotate_left
  exact sh_s (by rw[h0];rfl)
 ·rw[if_neg h0]
  have g0:(x.2 != 0)=true:=bne_iff_ne.2 h0
  refine Con.ev 18 T_ok mix Tryz.func34 rfl rfl rfl rfl [.cell 4 26,.tmp 5] rfl ?_
  conv=>whnf
  (iterate 21 ((first|apply rq_s rfl|apply rows_s rfl|refine fac_s (fun hf=> ?_)|refine handp_s 42 [some 6,none] ?_|apply lend_s|refine call_s (k2 ..) ?_);conv=>whnf));(focus (apply callpe_s (f:=42);(· repeat' (first|(refine sub_all ?_;simp[lms,ownI];done)|exact sub_map _ _ _ _|apply cons_eq|apply obj_eq|apply agg_eq|apply own_eq|apply ro_eq|apply rp_eq|apply fnc_eq|rfl));refine callp_s (f:=42) rfl (k1 ..) ?_;conv=>whnf));(iterate 30 ((first|refine rq_s (by solve|simp only[lms,ownI]|fail) ?_|apply rq_s rfl|apply rows_s rfl|refine fac_s (fun hf=> ?_)|refine br_t (by assumption) ?_|apply lend_s|refine call_s (k2 ..) ?_);conv=>whnf));iterate 3 (refine rows_s (by((refine sub_all ?_;simp[lms,ownI];done))) ?_;conv=>whnf)
  rotate_left
  exact sh_s rfl
def runF:List Int→Nat→Dat→Dat × Nat × Int
 |[],k,d=>(d,k,0)
 |p::ps,k,d=>if(primF TX p.toNat 0 d).2≠0 then(d,k,(primF TX p.toNat 0 d).2)else runF ps (k+1) (primF TX p.toNat 0 d).1
theorem run_end(k:Nat)(d:Dat):runF [] k d=(d,k,0):=rfl
theorem run_stop{p:Int}{ps:List Int}{k:Nat}{d:Dat}(h:(primF TX p.toNat 0 d).2≠0):runF (p::ps) k d=(d,k,(primF TX p.toNat 0 d).2):=by rw[runF,if_pos h]
theorem run_on{p:Int}{ps:List Int}{k:Nat}{d:Dat}(h: ¬(primF TX p.toNat 0 d).2≠0):runF (p::ps) k d=runF ps (k+1) (primF TX p.toNat 0 d).1:=by rw[runF,if_neg h]
def allF(d:Dat)(ps:List Int):Dat × Int × Int × Int:=
 if 4096<ps.length then(dat0,0,0,2)else if dataOK d=false then(dat0,0,0,1)else if ps.any badPrim then(dat0,0,0,9)else((runF ps 0 d).1,(runF ps 0 d).2.1,(runF ps 0 d).2.2,0)
def alV(x:Dat × Int × Int × Int):AV:=.tup [datO x.1,.int .i64 x.2.1,.int .i64 x.2.2.1,.int .i64 x.2.2.2]
theorem sh_dat3(a b c:Int):Sh (.tup [.agg [.emp,.emp,.emp,.int .i64 0,.int .i64 0,.str []],.int .i64 a,.int .i64 b,.int .i64 c]) (.tup [datO dat0,.int .i64 a,.int .i64 b,.int .i64 c]):=by
 refine Sh.tup ⟨Sh.agg ⟨Sh.emp_own _ _,Sh.emp_own _ _,Sh.emp_own _ _,Sh.refl _,Sh.refl _,Sh.refl _,trivial⟩,Sh.refl _,Sh.refl _,Sh.refl _,trivial⟩
structure St2 where
 d:Dat
 i:Nat
def inv(ps:List Int)(d0:Dat)(s:St2):Prop:=s.i≤ps.length∧DataOk s.d∧runF (ps.drop s.i) s.i s.d=runF ps 0 d0
theorem c16(d:Dat)(ps:List Int):Con Tryz.prog 16 [datV d,roI ps] (undefs [datV d,roI ps]) (alV (allF d ps)):=by
 by_cases h1:4096<ps.length
 ·have kl:=c38 ps
  rw[show decide (4096<ps.length)=true from decide_eq_true h1]at kl
  rw[allF,if_pos h1]
  refine Con.ev 51 T_ok mix Tryz.func16 rfl rfl rfl rfl [.cell 4 26,.tmp 5,.tmp 6,.tmp 7] rfl ?_
  conv=>whnf
  (iterate 5 ((first|refine rq_s (by solve|simp only[lms,ownI]|fail) ?_|apply rq_s rfl|apply lend_s);conv=>whnf));(refine rows_s (by((refine sub_all ?_;simp[lms,ownI];done))) ?_;conv=>whnf);iterate 13 ((first|apply rq_s rfl|apply br_t rfl|refine call_s (kl ..) ?_);conv=>whnf)
  rotate_left
  exact⟨sh_dat3 _ _ _⟩
 have kl:=c38 ps
 rw[show decide (4096<ps.length)=false from decide_eq_false h1]at kl
 by_cases h2:dataOK d=true
 rotate_left
 ·rw[Bool.not_eq_true]at h2
  have k1:=c23 d
  rw[h2]at k1
  rw[allF,if_neg h1,if_pos h2]
  refine Con.ev 51 T_ok mix Tryz.func16 rfl rfl rfl rfl [.cell 4 26,.tmp 5,.tmp 6,.tmp 7] rfl ?_
  conv=>whnf
  (iterate 5 ((first|refine rq_s (by solve|simp only[lms,ownI]|fail) ?_|apply rq_s rfl|apply lend_s);conv=>whnf));(refine rows_s (by((refine sub_all ?_;simp[lms,ownI];done))) ?_;conv=>whnf);iterate 25 ((first|apply rq_s rfl|apply rows_s rfl|apply br_t rfl|apply br_f rfl|apply lend_s|refine call_s (kl ..) ?_|refine call_s (k1 ..) ?_);conv=>whnf)
  rotate_left
  exact⟨sh_dat3 _ _ _⟩
 have k1:=c23 d
 rw[h2]at k1
 have hd:=(dataOK_iff d).1 h2
 have k3:=c39 ps
 by_cases h3:ps.any badPrim=true
 ·rw[h3]at k3
  rw[allF,if_neg h1,if_neg (by simp[h2]),if_pos h3]
  refine Con.ev 51 T_ok mix Tryz.func16 rfl rfl rfl rfl [.cell 4 26,.tmp 5,.tmp 6,.tmp 7] rfl ?_
  conv=>whnf
  (iterate 5 ((first|refine rq_s (by solve|simp only[lms,ownI]|fail) ?_|apply rq_s rfl|apply lend_s);conv=>whnf));(refine rows_s (by((refine sub_all ?_;simp[lms,ownI];done))) ?_;conv=>whnf);iterate 31 ((first|apply rq_s rfl|apply rows_s rfl|apply br_t rfl|apply br_f rfl|apply lend_s|refine call_s (kl ..) ?_|refine call_s (k1 ..) ?_|refine call_s (k3 ..) ?_);conv=>whnf)
  rotate_left
  exact⟨sh_dat3 _ _ _⟩
 rw[allF,if_neg h1,if_neg (by simp[h2]),if_neg h3]
 rw[Bool.not_eq_true]at h3
 rw[h3]at k3
 have hps: ∀i,i<ps.length→P52 (ps.getD i 0).toNat∧((ps.getD i 0).toNat:Int)=ps.getD i 0:=by
  intro i hi
  have:=List.any_eq_false.1 h3 (ps.getD i 0) (by simp[hi])
  simp only[badPrim,Bool.not_eq_true,Bool.not_eq_false']at this
  have:=inR_t this
  unfold P52
  omega
 have k4:=c41 d (small_ok hd)
 refine Con.ev 51 T_ok mix Tryz.func16 rfl rfl rfl rfl [.cell 4 26,.tmp 5,.tmp 6,.tmp 7] rfl ?_
 conv=>whnf
 (iterate 5 ((first|refine rq_s (by solve|simp only[lms,ownI]|fail) ?_|apply rq_s rfl|apply lend_s);conv=>whnf));(refine rows_s (by((refine sub_all ?_;simp[lms,ownI];done))) ?_;conv=>whnf);iterate 37 ((first|apply rq_s rfl|apply rows_s rfl|refine fac_s (fun hf=> ?_)|apply br_f rfl|apply lend_s|refine call_s (kl ..) ?_|refine call_s (k1 ..) ?_|refine call_s (k3 ..) ?_|refine call_s (k4 ..) ?_);conv=>whnf)
 rotate_left
 refine LoopG.auto (α:=St2) T_ok mix [1,2,4,28,29,30] (fun s=>[(1,roI ps),(2,.ptr 1 0 0),(4,.ptr 5 0 0),(28,roI ps),(29,.int .i64 (ps.map intR).length),(30,.int .i64 s.i)]) (fun s=>[(1,.live ⟨false,0,[roI d.st,roI d.bk,roI d.ce,.int .i64 d.he,.int .i64 d.ba,.str d.ou],[[.ref 2 0 s.d.st.length,.ref 3 0 s.d.bk.length,.ref 4 0 s.d.ce.length,.int .i64 s.d.he,.int .i64 s.d.ba,.str s.d.ou]]⟩),(2,.live ⟨true,0,zI,s.d.st.map intR⟩),(3,.live ⟨true,0,zI,s.d.bk.map intR⟩),(4,.live ⟨true,0,zI,s.d.ce.map intR⟩),(5,.live ⟨false,0,[.emp,.emp,.emp,.int .i64 0,.int .i64 0,.str []],[[.emp,.emp,.emp,.int .i64 0,.int .i64 0,.str []]]⟩)]) (inv ps d) (fun s=>ps.length-s.i) ?_ ?_
 ·conv=>whnf
  (apply ChkS.mk (by kernel_rfl);conv=>whnf)
  rotate_left
  exact head_s ⟨d,0⟩ ⟨by simp,hd,rfl⟩ (by simp[roI,zI]) (by simp[roI,zI])
 ·rintro ⟨x,i⟩ ⟨hi,hx,hr⟩- -
  simp only at hi hx hr
  by_cases hlt:i<ps.length
  ·have gd:decide ((i:Int)<(((ps.map intR).length:Nat):Int))=true:=by rw[List.length_map];exact decide_eq_true (by omega)
   obtain⟨hp,ep⟩:=hps i hlt
   have kc:=changed2 (ps.getD i 0).toNat hp x hx
   rw[ep]at kc
   have hok:=prim_ok (txt:=TX) (p:=(ps.getD i 0).toNat) (fl:=0) hx
   have hdr:ps.drop i=ps.getD i 0::ps.drop (i+1):=by rw[List.drop_eq_getElem_cons hlt];simp[hlt]
   rw[hdr]at hr
   by_cases h0:(primF TX (ps.getD i 0).toNat 0 x).2=0
   ·rw[run_on (fun k=>k h0)]at hr
    have g0:((primF TX (ps.getD i 0).toNat 0 x).2 != 0)=false:=by rw[h0];rfl
    generalize primF TX (ps.getD i 0).toNat 0 x=y at kc hok hr g0
    conv=>whnf
    (iterate 3 ((first|apply rq_s rfl|refine rq_s (by refine and_s rfl ?_;simp only[lnm];omega) ?_|refine br_t (by assumption) ?_);conv=>whnf));(refine row_s (by((try simp only[Int.toNat_natCast]);exact row_map intR _ _ _ 0 (by first|omega|(simp;omega)))) ?_;conv=>whnf);(iterate 12 ((first|refine rq_s (by solve|simp only[lms,ownI]|fail) ?_|apply rq_s rfl|refine handp_s 34 [none,none] ?_);conv=>whnf));(focus (apply callpe_s (f:=34);(· repeat' (first|(refine sub_all ?_;simp[lms,ownI];done)|exact sub_map _ _ _ _|apply cons_eq|apply obj_eq|apply agg_eq|apply own_eq|apply ro_eq|apply rp_eq|apply fnc_eq|rfl));refine callp_s (f:=34) rfl (kc ..) ?_;conv=>whnf));iterate 3 ((first|refine fac_s (fun hf=> ?_)|refine ChkS.mk (by kernel_rfl) ?_|refine br_f (by assumption) ?_);conv=>whnf)
    rotate_left
    refine head_s ⟨y.1,i+1⟩ ⟨⟨by simp only;omega,hok,hr⟩,by simp only;omega⟩ (by rw[wrap64 (by simp only;omega) (by simp only;omega)];rfl) ?_
    simp only[List.length_map]
    rfl
   ·rw[run_stop h0]at hr
    have g0:((primF TX (ps.getD i 0).toNat 0 x).2 != 0)=true:=bne_iff_ne.2 h0
    generalize primF TX (ps.getD i 0).toNat 0 x=y at kc hok hr g0
    conv=>whnf
    (iterate 3 ((first|apply rq_s rfl|refine rq_s (by refine and_s rfl ?_;simp only[lnm];omega) ?_|refine br_t (by assumption) ?_);conv=>whnf));(refine row_s (by((try simp only[Int.toNat_natCast]);exact row_map intR _ _ _ 0 (by first|omega|(simp;omega)))) ?_;conv=>whnf);(iterate 12 ((first|refine rq_s (by solve|simp only[lms,ownI]|fail) ?_|apply rq_s rfl|refine handp_s 34 [none,none] ?_);conv=>whnf));(focus (apply callpe_s (f:=34);(· repeat' (first|(refine sub_all ?_;simp[lms,ownI];done)|exact sub_map _ _ _ _|apply cons_eq|apply obj_eq|apply agg_eq|apply own_eq|apply ro_eq|apply rp_eq|apply fnc_eq|rfl));refine callp_s (f:=34) rfl (kc ..) ?_;conv=>whnf));(iterate 15 ((first|refine rq_s (by solve|simp only[lms,ownI]|fail) ?_|apply rq_s rfl|refine fac_s (fun hf=> ?_)|refine br_t (by assumption) ?_);conv=>whnf));iterate 3 (refine rows_s (by((refine sub_all ?_;simp[lms,ownI];done))) ?_;conv=>whnf)
    rotate_left
    rw[←hr]
    exact sh_s rfl
  ·have gd:decide ((i:Int)<(((ps.map intR).length:Nat):Int))=false:=by rw[List.length_map];exact decide_eq_false (by omega)
   conv=>whnf
   (iterate 14 ((first|refine rq_s (by solve|simp only[lms,ownI]|fail) ?_|apply rq_s rfl|refine br_f (by assumption) ?_);conv=>whnf));iterate 3 (refine rows_s (by((refine sub_all ?_;simp[lms,ownI];done))) ?_;conv=>whnf)
   rotate_left
   obtain rfl:i=ps.length:=by omega
   rw[List.drop_length,run_end]at hr
   rw[←hr]
   exact sh_s (by rw[List.length_map];rfl)
end P23

/- ApplyAll: the reference's contract, and the law. -/
open Go Go.Abs Go.Proofs V1 H1 F1 F2 T1 T2 T3 P1 P2 P3 P4 P5 P6 P7 P8 P9 P10 P11 P12 P13 P14 P15 P16 P17 P18 P19 P20 P21 P23
namespace P24
theorem c14(d:Dat)(ps:List Int):Con Tryz.prog 14 [datV d,roI ps] (undefs [datV d,roI ps]) (alV (allF d ps)):=by
 by_cases h1:4096<ps.length
 ·have g1:decide ((((ps.map intR).length:Nat):Int)>4096)=true:=by rw[List.length_map];exact decide_eq_true (by omega)
  rw[allF,if_pos h1]
  refine Con.ev 59 T_ok mix Tryz.func14 rfl rfl rfl rfl [.cell 4 26,.tmp 5,.tmp 6,.tmp 7] rfl ?_
  conv=>whnf
  iterate 13 ((first|apply rq_s rfl|refine br_t (by assumption) ?_);conv=>whnf)
  rotate_left
  exact⟨sh_dat3 _ _ _⟩
 have g1:decide ((((ps.map intR).length:Nat):Int)>4096)=false:=by rw[List.length_map];exact decide_eq_false (by omega)
 by_cases h2:dataOK d=true
 rotate_left
 ·rw[Bool.not_eq_true]at h2
  have k1:=c28 d
  rw[h2]at k1
  rw[allF,if_neg h1,if_pos h2]
  refine Con.ev 59 T_ok mix Tryz.func14 rfl rfl rfl rfl [.cell 4 26,.tmp 5,.tmp 6,.tmp 7] rfl ?_
  conv=>whnf
  iterate 25 ((first|apply rq_s rfl|apply rows_s rfl|apply br_t rfl|refine br_f (by assumption) ?_|apply lend_s|refine call_s (k1 ..) ?_);conv=>whnf)
  rotate_left
  exact⟨sh_dat3 _ _ _⟩
 have k1:=c28 d
 rw[h2]at k1
 have hd:=(dataOK_iff d).1 h2
 rw[allF,if_neg h1,if_neg (by simp[h2])]
 refine Con.ev 59 T_ok mix Tryz.func14 rfl rfl rfl rfl [.cell 4 26,.tmp 5,.tmp 6,.tmp 7] rfl ?_
 conv=>whnf
 iterate 14 ((first|apply rq_s rfl|apply rows_s rfl|apply br_f rfl|refine br_f (by assumption) ?_|apply lend_s|refine call_s (k1 ..) ?_);conv=>whnf)
 rotate_left
 refine LoopG.auto (α:=Nat) T_ok mix [1,2,4,8] (fun i=>[(1,roI ps),(2,.ptr 1 0 0),(4,.ptr 2 0 0),(8,.int .i64 i)]) (fun i=>[(1,.live ⟨false,0,[roI d.st,roI d.bk,roI d.ce,.int .i64 d.he,.int .i64 d.ba,.str d.ou],[[roI d.st,roI d.bk,roI d.ce,.int .i64 d.he,.int .i64 d.ba,.str d.ou]]⟩),(2,.live ⟨false,0,[.emp,.emp,.emp,.int .i64 0,.int .i64 0,.str []],[[.emp,.emp,.emp,.int .i64 0,.int .i64 0,.str []]]⟩)]) (fun i=>i≤ps.length∧ ∀j,j<i→badPrim (ps.getD j 0)=false) (fun i=>ps.length-i) ?_ ?_
 ·conv=>whnf
  (apply ChkS.mk (by kernel_rfl);conv=>whnf)
  rotate_left
  exact head_s 0 ⟨by simp,fun j hj=>by omega⟩ (by simp[roI,zI]) (by simp[roI,zI])
 ·rintro i ⟨hi,hj⟩- -
  by_cases hlt:i<ps.length
  ·have gd:decide ((i:Int)<(((ps.map intR).length:Nat):Int))=true:=by rw[List.length_map];exact decide_eq_true (by omega)
   by_cases h3:badPrim (ps.getD i 0)=true
   ·have g3:(!inR (ps.getD i 0) 1 52)=true:=h3
    have h4:ps.any badPrim=true:=List.any_eq_true.2 ⟨ps.getD i 0,by simp[hlt],h3⟩
    rw[if_pos h4]
    conv=>whnf
    (iterate 3 ((first|apply rq_s rfl|refine rq_s (by refine and_s rfl ?_;simp only[lnm];omega) ?_|refine br_t (by assumption) ?_);conv=>whnf));(refine row_s (by((try simp only[Int.toNat_natCast]);exact row_map intR _ _ _ 0 (by first|omega|(simp;omega)))) ?_;conv=>whnf);iterate 15 ((first|apply rq_s rfl|refine br_t (by assumption) ?_|apply lend_s|refine call_s (c29 ..) ?_);conv=>whnf)
    rotate_left
    exact⟨sh_dat3 _ _ _⟩
   ·rw[Bool.not_eq_true]at h3
    have g3:(!inR (ps.getD i 0) 1 52)=false:=h3
    conv=>whnf
    (iterate 3 ((first|apply rq_s rfl|refine rq_s (by refine and_s rfl ?_;simp only[lnm];omega) ?_|refine br_t (by assumption) ?_);conv=>whnf));(refine row_s (by((try simp only[Int.toNat_natCast]);exact row_map intR _ _ _ 0 (by first|omega|(simp;omega)))) ?_;conv=>whnf);iterate 5 ((first|apply rq_s rfl|refine ChkS.mk (by kernel_rfl) ?_|refine br_f (by assumption) ?_|apply lend_s|refine call_s (c29 ..) ?_);conv=>whnf)
    rotate_left
    refine head_s (i+1) ⟨⟨by omega,fun j h=> ?_⟩,by omega⟩ (by rw[wrap64 (by omega) (by omega)];rfl) rfl
    by_cases hji:j=i
    ·subst hji;exact h3
    ·exact hj j (by omega)
  ·have gd:decide ((i:Int)<(((ps.map intR).length:Nat):Int))=false:=by rw[List.length_map];exact decide_eq_false (by omega)
   obtain rfl:i=ps.length:=by omega
   have h4:ps.any badPrim=false:=List.any_eq_false.2 fun p hp=>by
    obtain⟨j,hj2,rfl⟩:=List.mem_iff_getElem.1 hp
    have:=hj j hj2
    simpa[hj2]using this
   rw[h4,if_neg (by simp)]
   have hps: ∀i,i<ps.length→P52 (ps.getD i 0).toNat∧((ps.getD i 0).toNat:Int)=ps.getD i 0:=by
    intro i hi
    have:=hj i hi
    simp only[badPrim,Bool.not_eq_false']at this
    have:=inR_t this
    unfold P52
    omega
   conv=>whnf
   (focus (apply br_f (by(simp;done));conv=>whnf))
   rotate_left
   refine LoopG.auto (α:=St2) T_ok mix [1,2,4,9] (fun s=>[(1,roI ps),(2,.ptr 1 0 0),(4,.ptr 2 0 0),(9,.int .i64 s.i)]) (fun s=>[(1,.live ⟨false,0,[roI d.st,roI d.bk,roI d.ce,.int .i64 d.he,.int .i64 d.ba,.str d.ou],[[roI s.d.st,roI s.d.bk,roI s.d.ce,.int .i64 s.d.he,.int .i64 s.d.ba,.str s.d.ou]]⟩),(2,.live ⟨false,0,[.emp,.emp,.emp,.int .i64 0,.int .i64 0,.str []],[[.emp,.emp,.emp,.int .i64 0,.int .i64 0,.str []]]⟩)]) (inv ps d) (fun s=>ps.length-s.i) ?_ ?_
   ·conv=>whnf
    (apply ChkS.mk (by kernel_rfl);conv=>whnf)
    rotate_left
    exact head_s ⟨d,0⟩ ⟨by simp,hd,rfl⟩ rfl rfl
   ·rintro ⟨x,i⟩ ⟨hi,hx,hr⟩- -
    simp only at hi hx hr
    by_cases hlt:i<ps.length
    ·have gd:decide ((i:Int)<(((ps.map intR).length:Nat):Int))=true:=by rw[List.length_map];exact decide_eq_true (by omega)
     obtain⟨hp,ep⟩:=hps i hlt
     have kc:=c31 (ps.getD i 0).toNat hp x 0 hx ⟨by omega,by omega⟩
     rw[ep]at kc
     have kx:=c32 x (small_ok hx)
     have hok:=prim_ok (txt:=TX) (p:=(ps.getD i 0).toNat) (fl:=0) hx
     have hdr:ps.drop i=ps.getD i 0::ps.drop (i+1):=by rw[List.drop_eq_getElem_cons hlt];simp[hlt]
     rw[hdr]at hr
     by_cases h0:(primF TX (ps.getD i 0).toNat 0 x).2=0
     ·rw[run_on (fun k=>k h0)]at hr
      have g0:((primF TX (ps.getD i 0).toNat 0 x).2 != 0)=false:=by rw[h0];rfl
      generalize primF TX (ps.getD i 0).toNat 0 x=y at kc hok hr g0
      conv=>whnf
      (iterate 8 ((first|apply rq_s rfl|refine rq_s (by refine and_s rfl ?_;simp only[lnm];omega) ?_|refine ChkS.mk (by kernel_rfl) ?_|refine br_t (by assumption) ?_);conv=>whnf));(refine row_s (by((try simp only[Int.toNat_natCast]);exact row_map intR _ _ _ 0 (by first|omega|(simp;omega)))) ?_;conv=>whnf);iterate 23 ((first|apply rq_s rfl|apply rows_s rfl|refine fac_s (fun hf=> ?_)|refine ChkS.mk (by kernel_rfl) ?_|refine br_f (by assumption) ?_|refine call_s (kc ..) ?_);conv=>whnf)
      rotate_left
      refine head_s ⟨y.1,i+1⟩ ⟨⟨by simp only;omega,hok,hr⟩,by simp only;omega⟩ (by rw[wrap64 (by simp only;omega) (by simp only;omega)];rfl) ?_
      rfl
     ·rw[run_stop h0]at hr
      have g0:((primF TX (ps.getD i 0).toNat 0 x).2 != 0)=true:=bne_iff_ne.2 h0
      generalize primF TX (ps.getD i 0).toNat 0 x=y at kc hok hr g0
      conv=>whnf
      (iterate 8 ((first|apply rq_s rfl|refine rq_s (by refine and_s rfl ?_;simp only[lnm];omega) ?_|refine ChkS.mk (by kernel_rfl) ?_|refine br_t (by assumption) ?_);conv=>whnf));(refine row_s (by((try simp only[Int.toNat_natCast]);exact row_map intR _ _ _ 0 (by first|omega|(simp;omega)))) ?_;conv=>whnf);(iterate 52 ((first|refine rq_s (by solve|simp only[lms,mkData,ownI]|fail) ?_|apply rq_s rfl|apply rows_s rfl|refine fac_s (fun hf=> ?_)|refine ChkS.mk (by kernel_rfl) ?_|refine br_t (by assumption) ?_|apply lend_s|refine call_s (kc ..) ?_|refine call_s (kx ..) ?_);conv=>whnf));iterate 3 (refine rows_s (by((refine sub_all ?_;simp[lms,mkData,ownI];done))) ?_;conv=>whnf)
      rotate_left
      rw[←hr]
      exact sh_s rfl
    ·have gd:decide ((i:Int)<(((ps.map intR).length:Nat):Int))=false:=by rw[List.length_map];exact decide_eq_false (by omega)
     have kx:=c32 x (small_ok hx)
     conv=>whnf
     (iterate 31 ((first|refine rq_s (by solve|simp only[lms,mkData,ownI]|fail) ?_|apply rq_s rfl|apply rows_s rfl|refine fac_s (fun hf=> ?_)|refine br_f (by assumption) ?_|apply lend_s|refine call_s (kx ..) ?_);conv=>whnf));iterate 3 (refine rows_s (by((refine sub_all ?_;simp[lms,mkData,ownI];done))) ?_;conv=>whnf)
     rotate_left
     obtain rfl:i=ps.length:=by omega
     rw[List.drop_length,run_end]at hr
     rw[←hr]
     exact sh_s (by rw[List.length_map];rfl)
end P24
