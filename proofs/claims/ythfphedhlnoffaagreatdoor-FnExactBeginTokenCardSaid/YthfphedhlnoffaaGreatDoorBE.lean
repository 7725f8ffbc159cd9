import Derived.Test.YthfphedhlnoffaaGreatDoorBD
import Derived.Test.YthfphedhlnoffaaGreatDoorLK
/- Which prim, by the reference; contracts. -/
set_option linter.unusedVariables false
set_option maxHeartbeats 4000000
set_option linter.unusedSimpArgs false
set_option maxRecDepth 100000
open Go Go.Abs Go.Proofs V1 H1 F1 F2 T1 T2 T3 P1 P2 P3 P4 P5 P6 P7 P8 P9 P10 P11 P12 P13 P14 P15 P16
namespace P17
def tA(d:Dat)(i:Nat):Int:=if 2<i then d.st.getD (d.st.length-3) 0 else 0
def tB(d:Dat)(i:Nat):Int:=if 1<i then d.st.getD (d.st.length-2) 0 else 0
def tC(d:Dat)(i:Nat):Int:=if 0<i then d.st.getD (d.st.length-1) 0 else 0
def mx(d:Dat):Nat:=min 3 d.st.length
theorem KY(p:Nat)(hp:cp p)(d:Dat)(fl:Int)(hu:d.st.length<bE p):Con Tryz.prog 101 [az d,.int .i64 p,.int .i64 fl] (aa [az d,.int .i64 p,.int .i64 fl]) (tV (d,-4)):=by
 have g0:decide ((((d.st.map aj).length:Nat):Int)<((bE p:Nat):Int))=true:=by rw[List.length_map];exact decide_eq_true (by omega)
 refine rn 110 Tryz.func101 [.cell 6 35,.tmp 7] (g:= ?_)
 conv=>whnf
 repeat' (first|(refine ah (c135 p hp ..) ?_;conv=>whnf)|(focus (refine aA ?_;(rfl)))|refine aP ?_)
theorem ru(p:Nat)(hp:cp p)(d:Dat)(fl:Int)(h:d.st.length≤32)(hu: ¬d.st.length<bE p)(res:Dat × Int)(hk:((p≤11)∧Con Tryz.prog 136 [az d,.int .i64 p,.int .i64 (tA d (mx d)),.int .i64 (tB d (mx d)),.int .i64 (tC d (mx d))] (aa [az d,.int .i64 p,.int .i64 (tA d (mx d)),.int .i64 (tB d (mx d)),.int .i64 (tC d (mx d))]) (tV res))∨((11<p∧p≤14)∧Con Tryz.prog 137 [az d,.int .i64 p,.int .i64 fl,.int .i64 (tC d (mx d))] (aa [az d,.int .i64 p,.int .i64 fl,.int .i64 (tC d (mx d))]) (tV res))∨((51≤p)∧Con Tryz.prog 137 [az d,.int .i64 p,.int .i64 fl,.int .i64 (tC d (mx d))] (aa [az d,.int .i64 p,.int .i64 fl,.int .i64 (tC d (mx d))]) (tV res))∨((14<p∧p≤38)∧Con Tryz.prog 138 [az d,.int .i64 p,.int .i64 (tB d (mx d)),.int .i64 (tC d (mx d))] (aa [az d,.int .i64 p,.int .i64 (tB d (mx d)),.int .i64 (tC d (mx d))]) (tV res))∨((38<p∧p≤44)∧Con Tryz.prog 139 [az d,.int .i64 p,.int .i64 (tB d (mx d)),.int .i64 (tC d (mx d))] (aa [az d,.int .i64 p,.int .i64 (tB d (mx d)),.int .i64 (tC d (mx d))]) (tV res))∨((44<p∧p<51)∧Con Tryz.prog 140 [az d,.int .i64 p,.int .i64 (tC d (mx d))] (aa [az d,.int .i64 p,.int .i64 (tC d (mx d))]) (tV res))):Con Tryz.prog 101 [az d,.int .i64 p,.int .i64 fl] (aa [az d,.int .i64 p,.int .i64 fl]) (tV res):=by
 have g0:decide ((((d.st.map aj).length:Nat):Int)<((bE p:Nat):Int))=false:=by rw[List.length_map];exact decide_eq_false (by omega)
 refine rn 110 Tryz.func101 [.cell 6 35,.tmp 7] (g:= ?_)
 conv=>whnf
 iterate 8 ((first|apply ac rfl|refine aG (fun hf=> ?_)|refine aK (by assumption) ?_|apply aH|refine ah (c135 p hp ..) ?_);conv=>whnf)
 rotate_left
 refine LoopG.auto (α:=Nat) bI dN [1,2,3,6,8,9,10] (fun i=>[(1,.int .i64 p),(2,.int .i64 fl),(3,.ptr 1 0 0),(6,.ptr 2 0 0),(8,.int .i64 (d.st.map aj).length),(9,.ref 3 0 3),(10,.int .i64 i)]) (fun i=>[(1,.live ⟨false,0,[dE d.st,dE d.bk,dE d.ce,.int .i64 d.he,.int .i64 d.ba,.str d.ou],[[dE d.st,dE d.bk,dE d.ce,.int .i64 d.he,.int .i64 d.ba,.str d.ou]]⟩),(2,.live ⟨false,0,[.emp,.emp,.emp,.int .i64 0,.int .i64 0,.str []],[[.emp,.emp,.emp,.int .i64 0,.int .i64 0,.str []]]⟩),(3,.live ⟨true,0,zI,[[.int .i64 (tA d i)],[.int .i64 (tB d i)],[.int .i64 (tC d i)]]⟩)]) (fun i=>i≤mx d) (fun i=>mx d-i) ?_ ?_
 ·conv=>whnf
  (apply ChkS.mk (by kernel_rfl);conv=>whnf)
  rotate_left
  exact aE 0 (by omega) (by simp) (by simp[tA,tB,tC,zI,dE])
 ·rintro i hi- -
  by_cases hlt:i<mx d
  ·have h3:i<3:=by unfold mx at hlt;omega
   have hn:i<d.st.length:=by unfold mx at hlt;omega
   have gd:decide ((i:Int)<3)=true:=decide_eq_true (by omega)
   have ge:decide ((i:Int)<(((d.st.map aj).length:Nat):Int))=true:=by rw[List.length_map];exact decide_eq_true (by omega)
   have wj:IntKind.i64.wrap (2-(i:Int))=((2-i:Nat):Int):=by rw[ai (by omega) (by omega)];omega
   have wn:IntKind.i64.wrap ((((d.st.map aj).length:Nat):Int)-1)=(((d.st.map aj).length:Nat):Int)-1:=by rw[List.length_map];exact ai (by omega) (by omega)
   have wi2:IntKind.i64.wrap (IntKind.i64.wrap ((((d.st.map aj).length:Nat):Int)-1)-(i:Int))=((d.st.length-(i+1):Nat):Int):=by rw[wn,List.length_map,ai (by omega) (by omega)];omega
   have wi:(IntKind.i64.wrap (IntKind.i64.wrap ((((d.st.map aj).length:Nat):Int)-1)-(i:Int))).toNat=d.st.length-(i+1):=by rw[wi2];omega
   conv=>whnf
   iterate 13 ((first|refine ac (by solve|simp only[bc]|fail) ?_|apply ac rfl|refine ac (by refine aO rfl ?_;simp only[cR];omega) ?_|refine ac (by simp only[Bool.and_eq_true,decide_eq_true_eq,List.length_map];omega) ?_|refine ac (by((first|(refine aO ?_ ?_<;>(first|(rw[wj];exact decide_eq_true (by omega))|(rw[wi2];exact decide_eq_true (by omega))|(rw[wi2,List.length_map];exact decide_eq_true (by omega))))|(rw[wj];exact decide_eq_true (by omega))|(rw[wi2];exact decide_eq_true (by omega))|(rw[wi2,List.length_map];exact decide_eq_true (by omega))|(simp[wj];omega)))) ?_|refine aD (by((rewrite[wi];exact aF aj _ _ _ 0 (by omega)))) ?_|apply ag rfl|refine ChkS.mk (by kernel_rfl) ?_|apply bH rfl|refine bH (by assumption) ?_);conv=>whnf)
   rotate_left
   refine aE (i+1) ⟨by omega,by omega⟩ (by rw[ai (by omega) (by omega)];rfl) ?_
   rw[wj]
   rcases(by omega:i=0∨i=1∨i=2)with rfl|rfl|rfl<;>rfl
  ·obtain rfl:i=mx d:=by omega
   have wi:(0:Nat)=0:=rfl
   by_cases h3:d.st.length<3
   ·have em:mx d=d.st.length:=by unfold mx;omega
    have gd:decide (((mx d:Nat):Int)<3)=true:=decide_eq_true (by omega)
    have ge:decide (((mx d:Nat):Int)<(((d.st.map aj).length:Nat):Int))=false:=by rw[List.length_map];exact decide_eq_false (by omega)
    rcases hk with⟨hq,k⟩|⟨hq,k⟩|⟨hq,k⟩|⟨hq,k⟩|⟨hq,k⟩|⟨hq,k⟩
    ·have q1:decide ((p:Int)≤11)=true:=decide_eq_true (by omega)
     conv=>whnf
     exact go
    ·have q1:decide ((p:Int)≤11)=false:=decide_eq_false (by omega)
     have q2:decide ((p:Int)≤14)=true:=decide_eq_true (by omega)
     conv=>whnf
     exact go
    ·have q1:decide ((p:Int)≤11)=false:=decide_eq_false (by omega)
     have q2:decide ((p:Int)≤14)=false:=decide_eq_false (by omega)
     have q3:decide ((p:Int)≥51)=true:=decide_eq_true (by omega)
     conv=>whnf
     exact go
    ·have q1:decide ((p:Int)≤11)=false:=decide_eq_false (by omega)
     have q2:decide ((p:Int)≤14)=false:=decide_eq_false (by omega)
     have q3:decide ((p:Int)≥51)=false:=decide_eq_false (by omega)
     have q4:decide ((p:Int)≤38)=true:=decide_eq_true (by omega)
     conv=>whnf
     exact go
    ·have q1:decide ((p:Int)≤11)=false:=decide_eq_false (by omega)
     have q2:decide ((p:Int)≤14)=false:=decide_eq_false (by omega)
     have q3:decide ((p:Int)≥51)=false:=decide_eq_false (by omega)
     have q4:decide ((p:Int)≤38)=false:=decide_eq_false (by omega)
     have q5:decide ((p:Int)≤44)=true:=decide_eq_true (by omega)
     conv=>whnf
     exact go
    ·have q1:decide ((p:Int)≤11)=false:=decide_eq_false (by omega)
     have q2:decide ((p:Int)≤14)=false:=decide_eq_false (by omega)
     have q3:decide ((p:Int)≥51)=false:=decide_eq_false (by omega)
     have q4:decide ((p:Int)≤38)=false:=decide_eq_false (by omega)
     have q5:decide ((p:Int)≤44)=false:=decide_eq_false (by omega)
     conv=>whnf
     exact go
   ·have em:mx d=3:=by unfold mx;omega
    have gd:decide (((mx d:Nat):Int)<3)=false:=decide_eq_false (by omega)
    rcases hk with⟨hq,k⟩|⟨hq,k⟩|⟨hq,k⟩|⟨hq,k⟩|⟨hq,k⟩|⟨hq,k⟩
    ·have q1:decide ((p:Int)≤11)=true:=decide_eq_true (by omega)
     conv=>whnf
     exact go
    ·have q1:decide ((p:Int)≤11)=false:=decide_eq_false (by omega)
     have q2:decide ((p:Int)≤14)=true:=decide_eq_true (by omega)
     conv=>whnf
     exact go
    ·have q1:decide ((p:Int)≤11)=false:=decide_eq_false (by omega)
     have q2:decide ((p:Int)≤14)=false:=decide_eq_false (by omega)
     have q3:decide ((p:Int)≥51)=true:=decide_eq_true (by omega)
     conv=>whnf
     exact go
    ·have q1:decide ((p:Int)≤11)=false:=decide_eq_false (by omega)
     have q2:decide ((p:Int)≤14)=false:=decide_eq_false (by omega)
     have q3:decide ((p:Int)≥51)=false:=decide_eq_false (by omega)
     have q4:decide ((p:Int)≤38)=true:=decide_eq_true (by omega)
     conv=>whnf
     exact go
    ·have q1:decide ((p:Int)≤11)=false:=decide_eq_false (by omega)
     have q2:decide ((p:Int)≤14)=false:=decide_eq_false (by omega)
     have q3:decide ((p:Int)≥51)=false:=decide_eq_false (by omega)
     have q4:decide ((p:Int)≤38)=false:=decide_eq_false (by omega)
     have q5:decide ((p:Int)≤44)=true:=decide_eq_true (by omega)
     conv=>whnf
     exact go
    ·have q1:decide ((p:Int)≤11)=false:=decide_eq_false (by omega)
     have q2:decide ((p:Int)≤14)=false:=decide_eq_false (by omega)
     have q3:decide ((p:Int)≥51)=false:=decide_eq_false (by omega)
     have q4:decide ((p:Int)≤38)=false:=decide_eq_false (by omega)
     have q5:decide ((p:Int)≤44)=false:=decide_eq_false (by omega)
     conv=>whnf
     exact go
theorem zg(p:Nat)(hp:cp p)(d:Dat)(fl:Int)(h:d.st.length≤32)(hu: ¬d.st.length<bE p)(res:Dat × Int)(hq:p≤11)(k:Con Tryz.prog 136 [az d,.int .i64 p,.int .i64 (tA d (mx d)),.int .i64 (tB d (mx d)),.int .i64 (tC d (mx d))] (aa [az d,.int .i64 p,.int .i64 (tA d (mx d)),.int .i64 (tB d (mx d)),.int .i64 (tC d (mx d))]) (tV res)):Con Tryz.prog 101 [az d,.int .i64 p,.int .i64 fl] (aa [az d,.int .i64 p,.int .i64 fl]) (tV res):=ru p hp d fl h hu res (.inl ⟨hq,k⟩)
theorem vN(p:Nat)(hp:cp p)(d:Dat)(fl:Int)(h:d.st.length≤32)(hu: ¬d.st.length<bE p)(res:Dat × Int)(hq:11<p∧p≤14)(k:Con Tryz.prog 137 [az d,.int .i64 p,.int .i64 fl,.int .i64 (tC d (mx d))] (aa [az d,.int .i64 p,.int .i64 fl,.int .i64 (tC d (mx d))]) (tV res)):Con Tryz.prog 101 [az d,.int .i64 p,.int .i64 fl] (aa [az d,.int .i64 p,.int .i64 fl]) (tV res):=ru p hp d fl h hu res (.inr (.inl ⟨hq,k⟩))
theorem Ck(p:Nat)(hp:cp p)(d:Dat)(fl:Int)(h:d.st.length≤32)(hu: ¬d.st.length<bE p)(res:Dat × Int)(hq:51≤p)(k:Con Tryz.prog 137 [az d,.int .i64 p,.int .i64 fl,.int .i64 (tC d (mx d))] (aa [az d,.int .i64 p,.int .i64 fl,.int .i64 (tC d (mx d))]) (tV res)):Con Tryz.prog 101 [az d,.int .i64 p,.int .i64 fl] (aa [az d,.int .i64 p,.int .i64 fl]) (tV res):=ru p hp d fl h hu res (.inr (.inr (.inl ⟨hq,k⟩)))
theorem oB(p:Nat)(hp:cp p)(d:Dat)(fl:Int)(h:d.st.length≤32)(hu: ¬d.st.length<bE p)(res:Dat × Int)(hq:14<p∧p≤38)(k:Con Tryz.prog 138 [az d,.int .i64 p,.int .i64 (tB d (mx d)),.int .i64 (tC d (mx d))] (aa [az d,.int .i64 p,.int .i64 (tB d (mx d)),.int .i64 (tC d (mx d))]) (tV res)):Con Tryz.prog 101 [az d,.int .i64 p,.int .i64 fl] (aa [az d,.int .i64 p,.int .i64 fl]) (tV res):=ru p hp d fl h hu res (.inr (.inr (.inr (.inl ⟨hq,k⟩))))
theorem B6(p:Nat)(hp:cp p)(d:Dat)(fl:Int)(h:d.st.length≤32)(hu: ¬d.st.length<bE p)(res:Dat × Int)(hq:38<p∧p≤44)(k:Con Tryz.prog 139 [az d,.int .i64 p,.int .i64 (tB d (mx d)),.int .i64 (tC d (mx d))] (aa [az d,.int .i64 p,.int .i64 (tB d (mx d)),.int .i64 (tC d (mx d))]) (tV res)):Con Tryz.prog 101 [az d,.int .i64 p,.int .i64 fl] (aa [az d,.int .i64 p,.int .i64 fl]) (tV res):=ru p hp d fl h hu res (.inr (.inr (.inr (.inr (.inl ⟨hq,k⟩)))))
theorem F3(p:Nat)(hp:cp p)(d:Dat)(fl:Int)(h:d.st.length≤32)(hu: ¬d.st.length<bE p)(res:Dat × Int)(hq:44<p∧p<51)(k:Con Tryz.prog 140 [az d,.int .i64 p,.int .i64 (tC d (mx d))] (aa [az d,.int .i64 p,.int .i64 (tC d (mx d))]) (tV res)):Con Tryz.prog 101 [az d,.int .i64 p,.int .i64 fl] (aa [az d,.int .i64 p,.int .i64 fl]) (tV res):=ru p hp d fl h hu res (.inr (.inr (.inr (.inr (.inr (⟨hq,k⟩))))))
end P17

/- Prims: what both sides compute is the same; plain. -/
open Go Go.Abs Go.Proofs V1 H1 F1 F2 T1 T2 T3 P1 P2 P3 P4 P5 P6 P7 P8 P9 P10 P11 P12 P13 P14 P15 P16 P17
namespace P18
def rr(p:Nat)(d:Dat):List Int:=d.st.take (d.st.length-bE p)
def qa(d:Dat):Int:=d.st.getD (d.st.length-3) 0
def qb(d:Dat):Int:=d.st.getD (d.st.length-2) 0
def qc(d:Dat):Int:=d.st.getD (d.st.length-1) 0
theorem Fw{p:Nat}{fl:Int}{d:Dat}(hu:d.st.length<bE p):eo TX p fl d=(d,-4):=by
 have e:ej TX p fl d=(d,-4):=by rw[ej,if_pos hu]
 rw[eo,e];rfl
theorem FD{p:Nat}{fl:Int}{d:Dat}(hu: ¬d.st.length<bE p)(hb:(d.bk.length:Int)-fl<dU p):eo TX p fl d=(d,-6):=by
 have e:ej TX p fl d=(d,-6):=by rw[ej,if_neg hu,if_pos hb]
 rw[eo,e];rfl
theorem bv{p:Nat}{fl:Int}{d:Dat}(hu: ¬d.st.length<bE p)(hb: ¬(d.bk.length:Int)-fl<dU p):eo TX p fl d=cf d (ap TX p d (rr p d) (qa d) (qb d) (qc d)):=by
 have e:ej TX p fl d=ap TX p d (rr p d) (qa d) (qb d) (qc d):=by rw[ej,if_neg hu,if_neg hb];rfl
 rw[eo,e];rfl
theorem Fr{p:Nat}{d:Dat}:(rr p d).length=d.st.length-bE p:=by simp[rr]
theorem A5{p:Nat}{d:Dat}(h:bE p=0):rr p d=d.st:=by simp[rr,h]
theorem JI{d:Dat}(h:3≤d.st.length):tA d (mx d)=qa d:=by unfold tA mx qa;rw[if_pos (by omega)]
theorem gf{d:Dat}(h:2≤d.st.length):tB d (mx d)=qb d:=by unfold tB mx qb;rw[if_pos (by omega)]
theorem dR{d:Dat}(h:1≤d.st.length):tC d (mx d)=qc d:=by unfold tC mx qc;rw[if_pos (by omega)]
theorem IB{d:Dat}(h:DataOk d): -2147483648≤tB d (mx d)∧tB d (mx d)≤2147483647:=by
 have:=gx h.cst (d.st.length-2)
 unfold tB;split<;>omega
theorem JW{d:Dat}(h:DataOk d): -2147483648≤tC d (mx d)∧tC d (mx d)≤2147483647:=by
 have:=gx h.cst (d.st.length-1)
 unfold tC;split<;>omega
theorem cU{p:Nat}{d:Dat}(h:DataOk d)(hu: ¬d.st.length<bE p)(l:List Int):cf d (ez d (rr p d) l)=bo d (bE p) l:=(Cp d (bE p) l h.st (by omega)).symm
theorem yc{p:Nat}{d d':Dat}(h:DataOk d)(hs:d'.st=d.st):bo d' (bE p) []=({d' with st:=rr p d},0):=by
 have:=h.st
 rw[gi (by rw[hs];simp;omega),hs];simp[rr]
theorem rx{d x:Dat}:cf d (x,0)=(x,0):=rfl
theorem vd{d x:Dat}{t:Int}(h:t≠0):cf d (x,t)=(d,t):=if_neg h
theorem mv8z{d:Dat}(h:DataOk d)(hu: ¬d.st.length<bE 8)(h0:qc d=0)(a b:Int):cf d (ap TX 8 d (rr 8 d) a b (qc d))=(d,0):=by
 have h1:1≤d.st.length:=Nat.le_of_not_lt hu
 have hs:=h.st
 have e:=eK d.st h1
 have er:(rr 8 d).length=d.st.length-1:=Fr
 rw[show ap TX 8 d (rr 8 d) a b (qc d)=ez d (rr 8 d) [0] by simp only[ap];rw[if_pos h0],ez,if_neg (by simp[er];omega),rx]
 have:rr 8 d++[0]=d.st:=by
  have h0':d.st.getD (d.st.length-1) 0=0:=h0
  rw[h0']at e
  exact e.symm
 rw[this]
theorem JQ{d:Dat}(h:DataOk d)(a b c:Int):cf d (ap TX 13 d (rr 13 d) a b c)=if d.st.length=32 then(d,-3)else({d with st:=d.st++[d.bk.getD (d.bk.length-1) 0],bk:=d.bk.take (d.bk.length-1)},0):=by
 have hs:=h.st
 rw[A5 rfl]
 show cf d (ez _ _ _)=_
 unfold ez
 by_cases h0:d.st.length=32
 ·rw[if_pos (by simp;omega),if_pos h0];rfl
 ·rw[if_neg (by simp;omega),if_neg h0];rfl
theorem DY{d:Dat}{r:List Int}{n:Int}:aJ {d with st:=r} n=({(aJ d n).1 with st:=r},(aJ d n).2):=by
 unfold aJ
 by_cases h0:n.tmod 4≠0∨bh (d.he+n.tdiv 4) 0 32=false
 ·rw[if_pos h0,if_pos h0]
 ·rw[if_neg h0,if_neg h0]
theorem Hb{d:Dat}{n:Int}:(aJ d n).1.st=d.st:=by unfold aJ;split<;>rfl
theorem DE{d:Dat}{r:List Int}{a n:Int}:bT {d with st:=r} a n=({(bT d a n).1 with st:=r},(bT d a n).2):=by
 show(match bQ d a with|none=>_|some k=>_)=_
 unfold bT
 cases bQ d a<;>rfl
theorem GH{d:Dat}{a n:Int}:(bT d a n).1.st=d.st:=by unfold bT;split<;>rfl
theorem xV{d:Dat}{r:List Int}{t:List UInt8}:cy {d with st:=r} t=({(cy d t).1 with st:=r},(cy d t).2):=by
 unfold cy
 by_cases h0:300<d.ou.length+t.length
 ·rw[if_pos h0,if_pos h0]
 ·rw[if_neg h0,if_neg h0]
theorem Di{d:Dat}{t:List UInt8}:(cy d t).1.st=d.st:=by unfold cy;split<;>rfl
theorem kW{p:Nat}{d:Dat}(h:DataOk d)(x:Dat × Int)(hx:x.1.st=d.st):cf d ({x.1 with st:=rr p d},x.2)=if x.2≠0 then(d,x.2)else bo x.1 (bE p) []:=by
 by_cases h0:x.2=0
 ·rw[h0,rx,if_neg (by simp),yc h hx]
 ·rw[vd h0,if_pos h0]
theorem I1{d:Dat}(h:DataOk d)(a b c:Int):cf d (ap TX 40 d (rr 40 d) a b c)=match bQ d c with|none=>(d,-9)|some k=>bo {d with ce:=d.ce.set k b} 2 []:=by
 show cf d (bT _ c b)=_
 rw[DE,kW h _ GH]
 unfold bT
 cases bQ d c<;>rfl
theorem JX{d:Dat}(h:DataOk d)(a b c:Int):cf d (ap TX 41 d (rr 41 d) a b c)=match bQ d c with|none=>(d,-9)|some k=>bo {d with ce:=d.ce.set k (wc (d.ce.getD k 0+b))} 2 []:=by
 show cf d (match bQ d c with|none=>_|some k=>_)=_
 cases bQ d c with
 |none=>rfl
 |some k=>exact(kW (p:=41) h ({d with ce:=d.ce.set k (wc (d.ce.getD k 0+b))},0) rfl)
theorem Kj{d:Dat}(h:DataOk d)(hu: ¬d.st.length<bE 39)(a b c:Int):cf d (ap TX 39 d (rr 39 d) a b c)=match bQ d c with|none=>(d,-9)|some k=>bo d 1 [d.ce.getD k 0]:=by
 show cf d (match bQ d c with|none=>_|some k=>_)=_
 cases bQ d c with
 |none=>rfl
 |some k=>exact cU h hu _
theorem Iw{d:Dat}(h:DataOk d)(a b c:Int):cf d (ap TX 43 d (rr 43 d) a b c)=if(aJ d c).2≠0 then(d,(aJ d c).2)else bo (aJ d c).1 1 []:=by
 show cf d (aJ _ c)=_
 rw[DY,kW h _ Hb];rfl
theorem I3{d:Dat}(h:DataOk d)(a b c:Int):cf d (ap TX 44 d (rr 44 d) a b c)=if(aJ d 4).2≠0 then(d,(aJ d 4).2)else cf d ({(bT (aJ d 4).1 (4096+4*d.he) c).1 with st:=rr 44 d},(bT (aJ d 4).1 (4096+4*d.he) c).2):=by
 show cf d (match aJ {d with st:=rr 44 d} 4 with|(x,th)=>if th≠0 then(x,th)else bT x (4096+4*d.he) c)=_
 rw[DY]
 show cf d (if(aJ d 4).2≠0 then({(aJ d 4).1 with st:=rr 44 d},(aJ d 4).2)else bT {(aJ d 4).1 with st:=rr 44 d} (4096+4*d.he) c)=_
 by_cases h0:(aJ d 4).2=0
 ·rw[if_neg (fun k=>k h0),if_neg (fun k=>k h0),DE]
 ·rw[if_pos h0,if_pos h0,vd h0]
theorem KS{d:Dat}(h:DataOk d)(hn:(aJ d 4).2=0)(c:Int):(bT (aJ d 4).1 (4096+4*d.he) c).2=0:=by
 have hh:=h.he
 by_cases hi:bh (d.he+(4:Int).tdiv 4) 0 32=true
 ·have h2:=aN hi
  rw[lq rfl hi]
  have e4:(4:Int).tdiv 4=1:=rfl
  rw[e4]at h2
  have h1:bh (4096+4*d.he) 4096 (4096+4*(d.he+(4:Int).tdiv 4)-1)=true:=by rw[e4];simp[bh];omega
  have hm:(4096+4*d.he).tmod 4=0:=by rw[Int.tmod_eq_emod_of_nonneg (by omega)];omega
  rw[nC (qT (d:={d with ce:=pN d.ce d.he (d.he+(4:Int).tdiv 4),he:=d.he+(4:Int).tdiv 4}) h1 hm)]
 ·rw[iq (.inr (by simpa using hi))]at hn
  cases hn
theorem HM{d:Dat}(h:DataOk d)(a b c:Int):cf d (ap TX 44 d (rr 44 d) a b c)=if(aJ d 4).2≠0 then(d,(aJ d 4).2)else bo (bT (aJ d 4).1 (4096+4*d.he) c).1 1 []:=by
 rw[I3 h]
 by_cases h0:(aJ d 4).2=0
 ·rw[if_neg (fun k=>k h0),if_neg (fun k=>k h0),kW h _ (GH.trans Hb),if_neg (fun k=>k (KS h h0 c))];rfl
 ·rw[if_pos h0,if_pos h0]
theorem Dj{p:Nat}(hp:p=45∨p=46∨p=47∨p=48){d:Dat}(h:DataOk d)(a b c:Int):cf d (ap TX p d (rr p d) a b c)=uw p d c:=by
 unfold uw
 rcases hp with rfl|rfl|rfl|rfl
 ·show cf d (cy {d with st:=rr 45 d} (fd 45 d c))=_
  rw[xV,kW h _ Di]
 ·show cf d (cy {d with st:=rr 46 d} (fd 46 d c))=_
  rw[xV,kW h _ Di]
 ·show cf d (cy {d with st:=rr 47 d} (fd 47 d c))=_
  rw[xV,kW h _ Di]
 ·show cf d (cy {d with st:=rr 48 d} (fd 48 d c))=_
  rw[xV,kW h _ Di]
end P18

/- Every prim, ApplyPrim, by the reference; contracts. -/
open Go Go.Abs Go.Proofs V1 H1 F1 F2 T1 T2 T3 P1 P2 P3 P4 P5 P6 P7 P8 P9 P10 P11 P12 P13 P14 P15 P16 P17 P18
namespace P19
theorem c101(p:Nat)(hp:cp p)(d:Dat)(fl:Int)(h:DataOk d)(hf:0≤fl∧fl≤d.bk.length):Con Tryz.prog 101 [az d,.int .i64 p,.int .i64 fl] (aa [az d,.int .i64 p,.int .i64 fl]) (tV (eo TX p fl d)):=by
 by_cases hu:d.st.length<bE p
 ·rw[Fw hu]
  exact KY p hp d fl hu
 by_cases hb:(d.bk.length:Int)-fl<dU p
 ·rw[FD hu hb]
  have hq:p=13∨p=14∨p=51∨p=52:=by
   unfold dU at hb
   split at hb<;>first|omega|(exfalso;omega)
  have k:=K5 p d fl (tC d (mx d)) hq h.bk hf hb
  rcases hq with rfl|rfl|rfl|rfl
  ·exact vN _ hp d fl h.st hu _ (by omega) k
  ·exact vN _ hp d fl h.st hu _ (by omega) k
  ·exact Ck _ hp d fl h.st hu _ (by omega) k
  ·exact Ck _ hp d fl h.st hu _ (by omega) k
 have hst:=h.st
 have hbk:=h.bk
 have tb:=IB h
 have tc:=JW h
 rcases zi hp with rfl|rfl|rfl|rfl|rfl|rfl|rfl|rfl|rfl|rfl|rfl|rfl|rfl|rfl|rfl|rfl|rfl|rfl|rfl|rfl|rfl|rfl|rfl|rfl|rfl|rfl|rfl|rfl|rfl|rfl|rfl|rfl|rfl|rfl|rfl|rfl|rfl|rfl|rfl|rfl|rfl|rfl|rfl|rfl|rfl|rfl|rfl|rfl|rfl|rfl|rfl|rfl
 ·rw[bv hu hb]
  have ht:1≤d.st.length:=Nat.le_of_not_lt hu
  have eC:=dR ht
  have k:=KI d (tA d (mx d)) (tB d (mx d)) (tC d (mx d)) h.st ht
  have e:bo d 1 [tC d (mx d),tC d (mx d)]=cf d (ap TX 1 d (rr 1 d) (qa d) (qb d) (qc d)):=by rw[eC];exact(cU h hu _).symm
  rw[e]at k
  exact zg 1 (by unfold cp;omega) d fl h.st hu _ (by omega) k
 ·rw[bv hu hb]
  have ht:1≤d.st.length:=Nat.le_of_not_lt hu
  have eC:=dR ht
  have k:=KK d (tA d (mx d)) (tB d (mx d)) (tC d (mx d)) h.st ht
  have e:bo d 1 []=cf d (ap TX 2 d (rr 2 d) (qa d) (qb d) (qc d)):=yc (p:=2) h rfl
  rw[e]at k
  exact zg 2 (by unfold cp;omega) d fl h.st hu _ (by omega) k
 ·rw[bv hu hb]
  have ht:2≤d.st.length:=Nat.le_of_not_lt hu
  have eB:=gf ht
  have eC:=dR (Nat.le_of_succ_le ht)
  have k:=KG d (tA d (mx d)) (tB d (mx d)) (tC d (mx d)) h.st ht
  have e:bo d 2 [tC d (mx d),tB d (mx d)]=cf d (ap TX 3 d (rr 3 d) (qa d) (qb d) (qc d)):=by rw[eB,eC];exact(cU h hu _).symm
  rw[e]at k
  exact zg 3 (by unfold cp;omega) d fl h.st hu _ (by omega) k
 ·rw[bv hu hb]
  have ht:2≤d.st.length:=Nat.le_of_not_lt hu
  have eB:=gf ht
  have eC:=dR (Nat.le_of_succ_le ht)
  have k:=KP d (tA d (mx d)) (tB d (mx d)) (tC d (mx d)) h.st ht
  have e:bo d 2 [tB d (mx d),tC d (mx d),tB d (mx d)]=cf d (ap TX 4 d (rr 4 d) (qa d) (qb d) (qc d)):=by rw[eB,eC];exact(cU h hu _).symm
  rw[e]at k
  exact zg 4 (by unfold cp;omega) d fl h.st hu _ (by omega) k
 ·rw[bv hu hb]
  have ht:3≤d.st.length:=Nat.le_of_not_lt hu
  have eA:=JI ht
  have eB:=gf (Nat.le_of_succ_le ht)
  have eC:=dR (d:=d) (by omega)
  have k:=KX d (tA d (mx d)) (tB d (mx d)) (tC d (mx d)) h.st ht
  have e:bo d 3 [tB d (mx d),tC d (mx d),tA d (mx d)]=cf d (ap TX 5 d (rr 5 d) (qa d) (qb d) (qc d)):=by rw[eA,eB,eC];exact(cU h hu _).symm
  rw[e]at k
  exact zg 5 (by unfold cp;omega) d fl h.st hu _ (by omega) k
 ·rw[bv hu hb]
  have ht:2≤d.st.length:=Nat.le_of_not_lt hu
  have eB:=gf ht
  have eC:=dR (Nat.le_of_succ_le ht)
  have k:=KQ d (tA d (mx d)) (tB d (mx d)) (tC d (mx d)) h.st ht
  have e:bo d 2 [tC d (mx d)]=cf d (ap TX 6 d (rr 6 d) (qa d) (qb d) (qc d)):=by rw[eC];exact(cU h hu _).symm
  rw[e]at k
  exact zg 6 (by unfold cp;omega) d fl h.st hu _ (by omega) k
 ·rw[bv hu hb]
  have ht:2≤d.st.length:=Nat.le_of_not_lt hu
  have eB:=gf ht
  have eC:=dR (Nat.le_of_succ_le ht)
  have k:=KR d (tA d (mx d)) (tB d (mx d)) (tC d (mx d)) h.st ht
  have e:bo d 2 [tC d (mx d),tB d (mx d),tC d (mx d)]=cf d (ap TX 7 d (rr 7 d) (qa d) (qb d) (qc d)):=by rw[eB,eC];exact(cU h hu _).symm
  rw[e]at k
  exact zg 7 (by unfold cp;omega) d fl h.st hu _ (by omega) k
 ·rw[bv hu hb]
  have ht:1≤d.st.length:=Nat.le_of_not_lt hu
  have eC:=dR ht
  by_cases h0:qc d=0
  ·have k:=P11.mv8z d (tA d (mx d)) (tB d (mx d)) (tC d (mx d)) h.st ht (by rw[eC];exact h0)
   rw[←P18.mv8z h hu h0 (qa d) (qb d)]at k
   exact zg 8 (by unfold cp;omega) d fl h.st hu _ (by omega) k
  ·have k:=JD d (tA d (mx d)) (tB d (mx d)) (tC d (mx d)) h.st ht (by rw[eC];exact h0)
   have e:bo d 1 [tC d (mx d),tC d (mx d)]=cf d (ap TX 8 d (rr 8 d) (qa d) (qb d) (qc d)):=by
    rw[eC,show ap TX 8 d (rr 8 d) (qa d) (qb d) (qc d)=ez d (rr 8 d) [qc d,qc d] by simp only[ap];rw[if_neg h0]]
    exact(cU h hu _).symm
   rw[e]at k
   exact zg 8 (by unfold cp;omega) d fl h.st hu _ (by omega) k
 ·rw[bv hu hb]
  have ht:2≤d.st.length:=Nat.le_of_not_lt hu
  have eB:=gf ht
  have eC:=dR (Nat.le_of_succ_le ht)
  have k:=KU d (tA d (mx d)) (tB d (mx d)) (tC d (mx d)) h.st ht
  have e:bo d 2 [tB d (mx d),tC d (mx d),tB d (mx d),tC d (mx d)]=cf d (ap TX 9 d (rr 9 d) (qa d) (qb d) (qc d)):=by rw[eB,eC];exact(cU h hu _).symm
  rw[e]at k
  exact zg 9 (by unfold cp;omega) d fl h.st hu _ (by omega) k
 ·rw[bv hu hb]
  have ht:2≤d.st.length:=Nat.le_of_not_lt hu
  have eB:=gf ht
  have eC:=dR (Nat.le_of_succ_le ht)
  have k:=Ki d (tA d (mx d)) (tB d (mx d)) (tC d (mx d)) h.st ht
  have e:bo d 2 []=cf d (ap TX 10 d (rr 10 d) (qa d) (qb d) (qc d)):=yc (p:=10) h rfl
  rw[e]at k
  exact zg 10 (by unfold cp;omega) d fl h.st hu _ (by omega) k
 ·rw[bv hu hb]
  have ht:0≤d.st.length:=Nat.le_of_not_lt hu
  have k:=Jn d (tA d (mx d)) (tB d (mx d)) (tC d (mx d)) h.st ht
  have e:bo d 0 [(d.st.length:Int)]=cf d (ap TX 11 d (rr 11 d) (qa d) (qb d) (qc d)):=by
   have e0:((rr 11 d).length:Int)=d.st.length:=by rw[A5 rfl]
   show _=cf d (ez d (rr 11 d) [((rr 11 d).length:Int)])
   rw[e0]
   exact(cU h hu _).symm
  rw[e]at k
  exact zg 11 (by unfold cp;omega) d fl h.st hu _ (by omega) k
 ·rw[bv hu hb]
  have ht:1≤d.st.length:=Nat.le_of_not_lt hu
  have eC:=dR ht
  by_cases h0:d.bk.length=32
  ·have k:=Hd d fl (tC d (mx d)) h.st ht h.bk h0
   rw[show ap TX 12 d (rr 12 d) (qa d) (qb d) (qc d)=({d with st:=rr 12 d},-5) by simp only[ap];rw[if_pos h0],vd (by decide)]
   exact vN 12 (by unfold cp;omega) d fl h.st hu _ (by omega) k
  ·have k:=HV d fl (tC d (mx d)) h.st ht h.bk h0
   rw[eC,show bo {d with bk:=d.bk++[qc d]} 1 []=_ from yc (p:=12) h rfl]at k
   rw[show ap TX 12 d (rr 12 d) (qa d) (qb d) (qc d)=({d with st:=rr 12 d,bk:=d.bk++[qc d]},0) by simp only[ap];rw[if_neg h0],rx]
   exact vN 12 (by unfold cp;omega) d fl h.st hu _ (by omega) (by rw[eC];exact k)
 ·rw[bv hu hb]
  have ht:0≤d.st.length:=Nat.le_of_not_lt hu
  rw[JQ h]
  by_cases h0:d.st.length=32
  ·rw[if_pos h0]
   exact vN 13 (by unfold cp;omega) d fl h.st hu _ (by omega) (Ho d fl (tC d (mx d)) h.st h.bk hf (by have:dU 13=1:=rfl;omega) h0)
  ·rw[if_neg h0]
   exact vN 13 (by unfold cp;omega) d fl h.st hu _ (by omega) (HH d fl (tC d (mx d)) h.st h.bk hf (by have:dU 13=1:=rfl;omega) h0)
 ·rw[bv hu hb]
  have ht:0≤d.st.length:=Nat.le_of_not_lt hu
  have k:=JB d fl (tC d (mx d)) h.st h.bk hf (by have:dU 14=1:=rfl;omega)
  have e:bo d 0 [d.bk.getD (d.bk.length-1) 0]=cf d (ap TX 14 d (rr 14 d) (qa d) (qb d) (qc d)):=(cU h hu _).symm
  rw[e]at k
  exact vN 14 (by unfold cp;omega) d fl h.st hu _ (by omega) k
 ·rw[bv hu hb]
  have ht:2≤d.st.length:=Nat.le_of_not_lt hu
  have eB:=gf ht
  have eC:=dR (Nat.le_of_succ_le ht)
  have k:=IZ d (tB d (mx d)) (tC d (mx d)) h.st ht tb tc
  have e:bo d 2 [(bU 1 (tB d (mx d)) (tC d (mx d))).1]=cf d (ap TX 15 d (rr 15 d) (qa d) (qb d) (qc d)):=by rw[eB,eC];exact(cU h hu _).symm
  rw[e]at k
  exact oB 15 (by unfold cp;omega) d fl h.st hu _ (by omega) k
 ·rw[bv hu hb]
  have ht:2≤d.st.length:=Nat.le_of_not_lt hu
  have eB:=gf ht
  have eC:=dR (Nat.le_of_succ_le ht)
  have k:=Ka d (tB d (mx d)) (tC d (mx d)) h.st ht tb tc
  have e:bo d 2 [(bU 2 (tB d (mx d)) (tC d (mx d))).1]=cf d (ap TX 16 d (rr 16 d) (qa d) (qb d) (qc d)):=by rw[eB,eC];exact(cU h hu _).symm
  rw[e]at k
  exact oB 16 (by unfold cp;omega) d fl h.st hu _ (by omega) k
 ·rw[bv hu hb]
  have ht:2≤d.st.length:=Nat.le_of_not_lt hu
  have eB:=gf ht
  have eC:=dR (Nat.le_of_succ_le ht)
  have k:=Iu d (tB d (mx d)) (tC d (mx d)) h.st ht tb tc
  have e:bo d 2 [(bU 3 (tB d (mx d)) (tC d (mx d))).1]=cf d (ap TX 17 d (rr 17 d) (qa d) (qb d) (qc d)):=by rw[eB,eC];exact(cU h hu _).symm
  rw[e]at k
  exact oB 17 (by unfold cp;omega) d fl h.st hu _ (by omega) k
 ·rw[bv hu hb]
  have ht:2≤d.st.length:=Nat.le_of_not_lt hu
  have eB:=gf ht
  have eC:=dR (Nat.le_of_succ_le ht)
  by_cases h0:qc d=0
  ·have k:=HF d (tB d (mx d)) (tC d (mx d)) h.st ht tb tc (by rw[eC];exact h0)
   rw[show ap TX 18 d (rr 18 d) (qa d) (qb d) (qc d)=({d with st:=rr 18 d},-10) by show(match gc 4 (qb d) (qc d)with|none=>_|some v=>_)=_;rw[show gc 4 (qb d) (qc d)=none from if_pos h0],vd (by decide)]
   exact oB 18 (by unfold cp;omega) d fl h.st hu _ (by omega) k
  ·have k:=Gy d (tB d (mx d)) (tC d (mx d)) h.st ht tb tc (by rw[eC];exact h0)
   have e:bo d 2 [wc (cn (tB d (mx d)) (tC d (mx d)))]=cf d (ap TX 18 d (rr 18 d) (qa d) (qb d) (qc d)):=by
    rw[eB,eC,show ap TX 18 d (rr 18 d) (qa d) (qb d) (qc d)=ez d (rr 18 d) [wc (cn (qb d) (qc d))] by show(match gc 4 (qb d) (qc d)with|none=>_|some v=>_)=_;rw[show gc 4 (qb d) (qc d)=some (wc (cn (qb d) (qc d)))from if_neg h0]]
    exact(cU h hu _).symm
   rw[e]at k
   exact oB 18 (by unfold cp;omega) d fl h.st hu _ (by omega) k
 ·rw[bv hu hb]
  have ht:2≤d.st.length:=Nat.le_of_not_lt hu
  have eB:=gf ht
  have eC:=dR (Nat.le_of_succ_le ht)
  by_cases h0:qc d=0
  ·have k:=Gw d (tB d (mx d)) (tC d (mx d)) h.st ht tb tc (by rw[eC];exact h0)
   rw[show ap TX 19 d (rr 19 d) (qa d) (qb d) (qc d)=({d with st:=rr 19 d},-10) by show(match gc 5 (qb d) (qc d)with|none=>_|some v=>_)=_;rw[show gc 5 (qb d) (qc d)=none from if_pos h0],vd (by decide)]
   exact oB 19 (by unfold cp;omega) d fl h.st hu _ (by omega) k
  ·have k:=HN d (tB d (mx d)) (tC d (mx d)) h.st ht tb tc (by rw[eC];exact h0)
   have e:bo d 2 [tB d (mx d)-cn (tB d (mx d)) (tC d (mx d))*tC d (mx d)]=cf d (ap TX 19 d (rr 19 d) (qa d) (qb d) (qc d)):=by
    rw[eB,eC,show ap TX 19 d (rr 19 d) (qa d) (qb d) (qc d)=ez d (rr 19 d) [qb d-cn (qb d) (qc d)*qc d] by show(match gc 5 (qb d) (qc d)with|none=>_|some v=>_)=_;rw[show gc 5 (qb d) (qc d)=some (qb d-cn (qb d) (qc d)*qc d)from if_neg h0]]
    exact(cU h hu _).symm
   rw[e]at k
   exact oB 19 (by unfold cp;omega) d fl h.st hu _ (by omega) k
 ·rw[bv hu hb]
  have ht:2≤d.st.length:=Nat.le_of_not_lt hu
  have eB:=gf ht
  have eC:=dR (Nat.le_of_succ_le ht)
  have k:=JR d (tB d (mx d)) (tC d (mx d)) h.st ht tb tc
  have e:bo d 2 [(bU 6 (tB d (mx d)) (tC d (mx d))).1]=cf d (ap TX 20 d (rr 20 d) (qa d) (qb d) (qc d)):=by rw[eB,eC];exact(cU h hu _).symm
  rw[e]at k
  exact oB 20 (by unfold cp;omega) d fl h.st hu _ (by omega) k
 ·rw[bv hu hb]
  have ht:2≤d.st.length:=Nat.le_of_not_lt hu
  have eB:=gf ht
  have eC:=dR (Nat.le_of_succ_le ht)
  have k:=I6 d (tB d (mx d)) (tC d (mx d)) h.st ht tb tc
  have e:bo d 2 [(bU 7 (tB d (mx d)) (tC d (mx d))).1]=cf d (ap TX 21 d (rr 21 d) (qa d) (qb d) (qc d)):=by rw[eB,eC];exact(cU h hu _).symm
  rw[e]at k
  exact oB 21 (by unfold cp;omega) d fl h.st hu _ (by omega) k
 ·rw[bv hu hb]
  have ht:2≤d.st.length:=Nat.le_of_not_lt hu
  have eB:=gf ht
  have eC:=dR (Nat.le_of_succ_le ht)
  have k:=Kn d (tB d (mx d)) (tC d (mx d)) h.st ht tb tc
  have e:bo d 2 [(bU 8 (tB d (mx d)) (tC d (mx d))).1]=cf d (ap TX 22 d (rr 22 d) (qa d) (qb d) (qc d)):=by rw[eB,eC];exact(cU h hu _).symm
  rw[e]at k
  exact oB 22 (by unfold cp;omega) d fl h.st hu _ (by omega) k
 ·rw[bv hu hb]
  have ht:2≤d.st.length:=Nat.le_of_not_lt hu
  have eB:=gf ht
  have eC:=dR (Nat.le_of_succ_le ht)
  have k:=Kp d (tB d (mx d)) (tC d (mx d)) h.st ht tb tc
  have e:bo d 2 [(bU 9 (tB d (mx d)) (tC d (mx d))).1]=cf d (ap TX 23 d (rr 23 d) (qa d) (qb d) (qc d)):=by rw[eB,eC];exact(cU h hu _).symm
  rw[e]at k
  exact oB 23 (by unfold cp;omega) d fl h.st hu _ (by omega) k
 ·rw[bv hu hb]
  have ht:2≤d.st.length:=Nat.le_of_not_lt hu
  have eB:=gf ht
  have eC:=dR (Nat.le_of_succ_le ht)
  have k:=IW d (tB d (mx d)) (tC d (mx d)) h.st ht tb tc
  have e:bo d 2 [(bU 10 (tB d (mx d)) (tC d (mx d))).1]=cf d (ap TX 24 d (rr 24 d) (qa d) (qb d) (qc d)):=by rw[eB,eC];exact(cU h hu _).symm
  rw[e]at k
  exact oB 24 (by unfold cp;omega) d fl h.st hu _ (by omega) k
 ·rw[bv hu hb]
  have ht:1≤d.st.length:=Nat.le_of_not_lt hu
  have eC:=dR ht
  have k:=Jy d (tB d (mx d)) (tC d (mx d)) h.st ht tb tc
  have e:bo d 1 [aM 25 (tB d (mx d)) (tC d (mx d))]=cf d (ap TX 25 d (rr 25 d) (qa d) (qb d) (qc d)):=by rw[eC];exact(cU h hu _).symm
  rw[e]at k
  exact oB 25 (by unfold cp;omega) d fl h.st hu _ (by omega) k
 ·rw[bv hu hb]
  have ht:1≤d.st.length:=Nat.le_of_not_lt hu
  have eC:=dR ht
  have k:=JK d (tB d (mx d)) (tC d (mx d)) h.st ht tb tc
  have e:bo d 1 [aM 26 (tB d (mx d)) (tC d (mx d))]=cf d (ap TX 26 d (rr 26 d) (qa d) (qb d) (qc d)):=by rw[eC];exact(cU h hu _).symm
  rw[e]at k
  exact oB 26 (by unfold cp;omega) d fl h.st hu _ (by omega) k
 ·rw[bv hu hb]
  have ht:1≤d.st.length:=Nat.le_of_not_lt hu
  have eC:=dR ht
  have k:=Iy d (tB d (mx d)) (tC d (mx d)) h.st ht tb tc
  have e:bo d 1 [aM 27 (tB d (mx d)) (tC d (mx d))]=cf d (ap TX 27 d (rr 27 d) (qa d) (qb d) (qc d)):=by rw[eC];exact(cU h hu _).symm
  rw[e]at k
  exact oB 27 (by unfold cp;omega) d fl h.st hu _ (by omega) k
 ·rw[bv hu hb]
  have ht:1≤d.st.length:=Nat.le_of_not_lt hu
  have eC:=dR ht
  have k:=JF d (tB d (mx d)) (tC d (mx d)) h.st ht tb tc
  have e:bo d 1 [aM 28 (tB d (mx d)) (tC d (mx d))]=cf d (ap TX 28 d (rr 28 d) (qa d) (qb d) (qc d)):=by rw[eC];exact(cU h hu _).symm
  rw[e]at k
  exact oB 28 (by unfold cp;omega) d fl h.st hu _ (by omega) k
 ·rw[bv hu hb]
  have ht:1≤d.st.length:=Nat.le_of_not_lt hu
  have eC:=dR ht
  have k:=Ke d (tB d (mx d)) (tC d (mx d)) h.st ht tb tc
  have e:bo d 1 [aM 29 (tB d (mx d)) (tC d (mx d))]=cf d (ap TX 29 d (rr 29 d) (qa d) (qb d) (qc d)):=by rw[eC];exact(cU h hu _).symm
  rw[e]at k
  exact oB 29 (by unfold cp;omega) d fl h.st hu _ (by omega) k
 ·rw[bv hu hb]
  have ht:2≤d.st.length:=Nat.le_of_not_lt hu
  have eB:=gf ht
  have eC:=dR (Nat.le_of_succ_le ht)
  have k:=Jf d (tB d (mx d)) (tC d (mx d)) h.st ht tb tc
  have e:bo d 2 [aM 30 (tB d (mx d)) (tC d (mx d))]=cf d (ap TX 30 d (rr 30 d) (qa d) (qb d) (qc d)):=by rw[eB,eC];exact(cU h hu _).symm
  rw[e]at k
  exact oB 30 (by unfold cp;omega) d fl h.st hu _ (by omega) k
 ·rw[bv hu hb]
  have ht:2≤d.st.length:=Nat.le_of_not_lt hu
  have eB:=gf ht
  have eC:=dR (Nat.le_of_succ_le ht)
  have k:=J3 d (tB d (mx d)) (tC d (mx d)) h.st ht tb tc
  have e:bo d 2 [aM 31 (tB d (mx d)) (tC d (mx d))]=cf d (ap TX 31 d (rr 31 d) (qa d) (qb d) (qc d)):=by rw[eB,eC];exact(cU h hu _).symm
  rw[e]at k
  exact oB 31 (by unfold cp;omega) d fl h.st hu _ (by omega) k
 ·rw[bv hu hb]
  have ht:2≤d.st.length:=Nat.le_of_not_lt hu
  have eB:=gf ht
  have eC:=dR (Nat.le_of_succ_le ht)
  have k:=IG d (tB d (mx d)) (tC d (mx d)) h.st ht tb tc
  have e:bo d 2 [aM 32 (tB d (mx d)) (tC d (mx d))]=cf d (ap TX 32 d (rr 32 d) (qa d) (qb d) (qc d)):=by rw[eB,eC];exact(cU h hu _).symm
  rw[e]at k
  exact oB 32 (by unfold cp;omega) d fl h.st hu _ (by omega) k
 ·rw[bv hu hb]
  have ht:2≤d.st.length:=Nat.le_of_not_lt hu
  have eB:=gf ht
  have eC:=dR (Nat.le_of_succ_le ht)
  have k:=Je d (tB d (mx d)) (tC d (mx d)) h.st ht tb tc
  have e:bo d 2 [aM 33 (tB d (mx d)) (tC d (mx d))]=cf d (ap TX 33 d (rr 33 d) (qa d) (qb d) (qc d)):=by rw[eB,eC];exact(cU h hu _).symm
  rw[e]at k
  exact oB 33 (by unfold cp;omega) d fl h.st hu _ (by omega) k
 ·rw[bv hu hb]
  have ht:2≤d.st.length:=Nat.le_of_not_lt hu
  have eB:=gf ht
  have eC:=dR (Nat.le_of_succ_le ht)
  have k:=Jq d (tB d (mx d)) (tC d (mx d)) h.st ht tb tc
  have e:bo d 2 [aM 34 (tB d (mx d)) (tC d (mx d))]=cf d (ap TX 34 d (rr 34 d) (qa d) (qb d) (qc d)):=by rw[eB,eC];exact(cU h hu _).symm
  rw[e]at k
  exact oB 34 (by unfold cp;omega) d fl h.st hu _ (by omega) k
 ·rw[bv hu hb]
  have ht:2≤d.st.length:=Nat.le_of_not_lt hu
  have eB:=gf ht
  have eC:=dR (Nat.le_of_succ_le ht)
  have k:=J9 d (tB d (mx d)) (tC d (mx d)) h.st ht tb tc
  have e:bo d 2 [aM 35 (tB d (mx d)) (tC d (mx d))]=cf d (ap TX 35 d (rr 35 d) (qa d) (qb d) (qc d)):=by rw[eB,eC];exact(cU h hu _).symm
  rw[e]at k
  exact oB 35 (by unfold cp;omega) d fl h.st hu _ (by omega) k
 ·rw[bv hu hb]
  have ht:2≤d.st.length:=Nat.le_of_not_lt hu
  have eB:=gf ht
  have eC:=dR (Nat.le_of_succ_le ht)
  have k:=JG d (tB d (mx d)) (tC d (mx d)) h.st ht tb tc
  have e:bo d 2 [aM 36 (tB d (mx d)) (tC d (mx d))]=cf d (ap TX 36 d (rr 36 d) (qa d) (qb d) (qc d)):=by rw[eB,eC];exact(cU h hu _).symm
  rw[e]at k
  exact oB 36 (by unfold cp;omega) d fl h.st hu _ (by omega) k
 ·rw[bv hu hb]
  have ht:1≤d.st.length:=Nat.le_of_not_lt hu
  have eC:=dR ht
  have k:=Jh d (tB d (mx d)) (tC d (mx d)) h.st ht tb tc
  have e:bo d 1 [aM 37 (tB d (mx d)) (tC d (mx d))]=cf d (ap TX 37 d (rr 37 d) (qa d) (qb d) (qc d)):=by rw[eC];exact(cU h hu _).symm
  rw[e]at k
  exact oB 37 (by unfold cp;omega) d fl h.st hu _ (by omega) k
 ·rw[bv hu hb]
  have ht:1≤d.st.length:=Nat.le_of_not_lt hu
  have eC:=dR ht
  have k:=IX d (tB d (mx d)) (tC d (mx d)) h.st ht tb tc
  have e:bo d 1 [aM 38 (tB d (mx d)) (tC d (mx d))]=cf d (ap TX 38 d (rr 38 d) (qa d) (qb d) (qc d)):=by rw[eC];exact(cU h hu _).symm
  rw[e]at k
  exact oB 38 (by unfold cp;omega) d fl h.st hu _ (by omega) k
 ·rw[bv hu hb]
  have ht:1≤d.st.length:=Nat.le_of_not_lt hu
  have eC:=dR ht
  rw[Kj h hu]
  rw[←eC]
  cases hk:bQ d (tC d (mx d))with
  |none=>exact B6 39 (by unfold cp;omega) d fl h.st hu _ (by omega) (Ed 39 (by omega) d _ _ (iA h) tc hk)
  |some k=>exact B6 39 (by unfold cp;omega) d fl h.st hu _ (by omega) (IQ d _ _ (iA h) ht tc k hk)
 ·rw[bv hu hb]
  have ht:2≤d.st.length:=Nat.le_of_not_lt hu
  have eB:=gf ht
  have eC:=dR (Nat.le_of_succ_le ht)
  rw[I1 h]
  rw[←eB,←eC]
  cases hk:bQ d (tC d (mx d))with
  |none=>exact B6 40 (by unfold cp;omega) d fl h.st hu _ (by omega) (Ed 40 (by omega) d _ _ (iA h) tc hk)
  |some k=>exact B6 40 (by unfold cp;omega) d fl h.st hu _ (by omega) (IA d _ _ (iA h) ht tb tc k hk)
 ·rw[bv hu hb]
  have ht:2≤d.st.length:=Nat.le_of_not_lt hu
  have eB:=gf ht
  have eC:=dR (Nat.le_of_succ_le ht)
  rw[JX h]
  rw[←eB,←eC]
  cases hk:bQ d (tC d (mx d))with
  |none=>exact B6 41 (by unfold cp;omega) d fl h.st hu _ (by omega) (Ed 41 (by omega) d _ _ (iA h) tc hk)
  |some k=>exact B6 41 (by unfold cp;omega) d fl h.st hu _ (by omega) (Kl d _ _ (iA h) ht tb tc k hk)
 ·rw[bv hu hb]
  have ht:0≤d.st.length:=Nat.le_of_not_lt hu
  have k:=IH d (tB d (mx d)) (tC d (mx d)) (iA h)
  have e:bo d 0 [4096+4*d.he]=cf d (ap TX 42 d (rr 42 d) (qa d) (qb d) (qc d)):=(cU h hu _).symm
  rw[e]at k
  exact B6 42 (by unfold cp;omega) d fl h.st hu _ (by omega) k
 ·rw[bv hu hb]
  have ht:1≤d.st.length:=Nat.le_of_not_lt hu
  have eC:=dR ht
  rw[Iw h,←eC]
  exact B6 43 (by unfold cp;omega) d fl h.st hu _ (by omega) (JC d _ _ (iA h) ht tc)
 ·rw[bv hu hb]
  have ht:1≤d.st.length:=Nat.le_of_not_lt hu
  have eC:=dR ht
  rw[HM h,←eC]
  exact B6 44 (by unfold cp;omega) d fl h.st hu _ (by omega) (Ks d _ _ (iA h) ht tc)
 ·rw[bv hu hb]
  have ht:1≤d.st.length:=Nat.le_of_not_lt hu
  have eC:=dR ht
  rw[Dj (by omega) h,←eC]
  exact F3 45 (by unfold cp;omega) d fl h.st hu _ (by omega) (sy 45 (by omega) d _ (iA h) (Nat.le_of_not_lt hu) tc)
 ·rw[bv hu hb]
  have ht:1≤d.st.length:=Nat.le_of_not_lt hu
  have eC:=dR ht
  rw[Dj (by omega) h,←eC]
  exact F3 46 (by unfold cp;omega) d fl h.st hu _ (by omega) (sy 46 (by omega) d _ (iA h) (Nat.le_of_not_lt hu) tc)
 ·rw[bv hu hb]
  have ht:0≤d.st.length:=Nat.le_of_not_lt hu
  rw[Dj (by omega) h,show uw 47 d (qc d)=uw 47 d (tC d (mx d))from rfl]
  exact F3 47 (by unfold cp;omega) d fl h.st hu _ (by omega) (sy 47 (by omega) d _ (iA h) (Nat.le_of_not_lt hu) tc)
 ·rw[bv hu hb]
  have ht:0≤d.st.length:=Nat.le_of_not_lt hu
  rw[Dj (by omega) h,show uw 48 d (qc d)=uw 48 d (tC d (mx d))from rfl]
  exact F3 48 (by unfold cp;omega) d fl h.st hu _ (by omega) (sy 48 (by omega) d _ (iA h) (Nat.le_of_not_lt hu) tc)
 ·rw[bv hu hb]
  have ht:0≤d.st.length:=Nat.le_of_not_lt hu
  have k:=Jx d (tC d (mx d))
  have e:(({d with ba:=10},0):Dat × Int)=cf d (ap TX 49 d (rr 49 d) (qa d) (qb d) (qc d)):=by
   show _=cf d ({d with st:=rr 49 d,ba:=10},0)
   rw[A5 rfl,rx]
  rw[e]at k
  exact F3 49 (by unfold cp;omega) d fl h.st hu _ (by omega) k
 ·rw[bv hu hb]
  have ht:0≤d.st.length:=Nat.le_of_not_lt hu
  have k:=Jk d (tC d (mx d))
  have e:(({d with ba:=16},0):Dat × Int)=cf d (ap TX 50 d (rr 50 d) (qa d) (qb d) (qc d)):=by
   show _=cf d ({d with st:=rr 50 d,ba:=16},0)
   rw[A5 rfl,rx]
  rw[e]at k
  exact F3 50 (by unfold cp;omega) d fl h.st hu _ (by omega) k
 ·rw[bv hu hb]
  have ht:0≤d.st.length:=Nat.le_of_not_lt hu
  have k:=IT d fl (tC d (mx d)) h.st h.bk hf (by have:dU 51=1:=rfl;omega)
  have e:bo d 0 [d.bk.getD (d.bk.length-1) 0]=cf d (ap TX 51 d (rr 51 d) (qa d) (qb d) (qc d)):=(cU h hu _).symm
  rw[e]at k
  exact Ck 51 (by unfold cp;omega) d fl h.st hu _ (by omega) k
 ·rw[bv hu hb]
  have ht:0≤d.st.length:=Nat.le_of_not_lt hu
  have k:=Jd d fl (tC d (mx d)) h.st h.bk hf (by have:dU 52=2:=rfl;omega)
  have e:(({d with bk:=d.bk.take (d.bk.length-2)},0):Dat × Int)=cf d (ap TX 52 d (rr 52 d) (qa d) (qb d) (qc d)):=by
   show _=cf d ({d with st:=rr 52 d,bk:=d.bk.take (d.bk.length-2)},0)
   rw[A5 rfl,rx]
  rw[e]at k
  exact Ck 52 (by unfold cp;omega) d fl h.st hu _ (by omega) k
instance:CC 101:=⟨_,@c101⟩
end P19

/- A prim leaves valid data; plain. -/
open Go Go.Abs Go.Proofs V1 H1 F1 F2 T1 T2 T3 P1 P2 P3 P4 P5 P6 P7 P8 P9 P10 P11 P12 P13 P14 P15 P16 P17 P18 P19
namespace P20
def Ce(n:Int):Prop:= -2147483648≤n∧n≤2147483647
theorem wK{n:Int}:cell n=true↔Ce n:=by simp[cell,bh,Ce]
theorem iw{l:List Int}:aL l=true↔ ∀n∈l,Ce n:=by
 unfold aL
 rw[List.all_eq_true]
 exact⟨fun h n hn=>wK.1 (h n hn),fun h n hn=>wK.2 (h n hn)⟩
theorem nG{l m:List Int}(h:aL l=true)(k:aL m=true):aL (l++m)=true:=by simp[aL]at*;exact⟨h,k⟩
theorem mD{l:List Int}{n:Nat}(h:aL l=true):aL (l.take n)=true:=iw.2 fun x hx=>iw.1 h x (List.mem_of_mem_take hx)
theorem zw{l:List Int}{n:Nat}(h:aL l=true):aL (l.drop n)=true:=iw.2 fun x hx=>iw.1 h x (List.mem_of_mem_drop hx)
theorem wO{l:List Int}{n:Nat}{v:Int}(h:aL l=true)(hv:Ce v):aL (l.set n v)=true:=iw.2 fun x hx=>(List.mem_or_eq_of_mem_set hx).elim (iw.1 h x) (fun e=>e▸hv)
theorem jx{l:List Int}{n:Nat}(h:aL l=true):Ce (l.getD n 0):=gx h n
theorem jo{a:Int}(h:Ce a):aL [a]=true:=iw.2 fun x hx=>by simp at hx;exact hx▸h
theorem ed{a:Int}{l:List Int}(h:Ce a)(k:aL l=true):aL (a::l)=true:=nG (jo h) k
theorem jQ(n:Int):Ce (wc n):=xj n
theorem vx(x:BitVec 64):IntKind.i64.wrap (x.toNat:Int)=x.toInt:=by
 have e:IntKind.i64.wrap (x.toNat:Int)=if(true&&decide ((x.toNat:Int)%2 ^ 64≥2 ^ (64-1)))=true then(x.toNat:Int)%2 ^ 64-2 ^ 64 else(x.toNat:Int)%2 ^ 64:=rfl
 have h:=x.isLt
 rw[e,BitVec.toInt_eq_toNat_cond]
 have e1:(2:Int) ^ 64=18446744073709551616:=by decide
 have e2:(2:Int) ^ (64-1)=9223372036854775808:=by decide
 have e3:(2:Nat) ^ 64=18446744073709551616:=by decide
 simp only[e1,e2,e3,Bool.true_and,decide_eq_true_eq]at*
 split<;>split<;>omega
theorem rK{a:Int}(h:Ce a):BitVec.ofInt 64 a=(BitVec.ofInt 32 a).signExtend 64:=by
 apply BitVec.eq_of_toInt_eq
 rw[BitVec.toInt_signExtend_of_le (by omega),BitVec.toInt_ofInt,BitVec.toInt_ofInt]
 unfold Ce at h
 rw[Int.bmod_eq_of_le (by omega) (by omega),Int.bmod_eq_of_le (by omega) (by omega)]
theorem BO(x:BitVec 32):Ce (IntKind.i64.wrap ((x.signExtend 64).toNat:Int)):=by
 rw[vx,BitVec.toInt_signExtend_of_le (by omega)]
 have h1:=BitVec.le_two_mul_toInt (x:=x)
 have h2:=BitVec.two_mul_toInt_lt (x:=x)
 have e3:(2:Int) ^ 32=4294967296:=by decide
 rw[e3]at h1 h2
 unfold Ce
 omega
theorem Fy{a b:Int}(h:Ce a)(k:Ce b):Ce (lF (· &&& ·) a b):=by
 unfold lF;rw[rK h,rK k]
 show Ce (IntKind.i64.wrap (((BitVec.signExtend 64 _&&&BitVec.signExtend 64 _).toNat:Nat):Int))
 rw[←BitVec.signExtend_and];exact BO _
theorem GG{a b:Int}(h:Ce a)(k:Ce b):Ce (lF (· ||| ·) a b):=by
 unfold lF;rw[rK h,rK k]
 show Ce (IntKind.i64.wrap (((BitVec.signExtend 64 _|||BitVec.signExtend 64 _).toNat:Nat):Int))
 rw[←BitVec.signExtend_or];exact BO _
theorem Ev{a b:Int}(h:Ce a)(k:Ce b):Ce (lF (· ^^^ ·) a b):=by
 unfold lF;rw[rK h,rK k]
 show Ce (IntKind.i64.wrap (((BitVec.signExtend 64 _^^^BitVec.signExtend 64 _).toNat:Nat):Int))
 rw[←BitVec.signExtend_xor];exact BO _
theorem D7{a b:Int}(h:Ce a)(k:Ce b)(h0: ¬b=0):Ce (a-cn a b*b):=by
 have hs:=rJ (a:=a) (b:=b)
 have hl:(a.tmod b).natAbs<b.natAbs:=by rw[Int.natAbs_tmod];exact Nat.mod_lt _ (by omega)
 unfold Ce at*
 by_cases hc:a.tmod b≠0∧((a<0)≠(b<0))
 ·rw[←tD hc]
  have hne: ¬((a<0)↔(b<0)):=fun e=>hc.2 (propext e)
  omega
 ·rw[←nF hc]
  omega
theorem Fd{k:Nat}{a b v:Int}(h:Ce a)(hk:Ce b)(e:gc k a b=some v):Ce v:=by
 unfold gc at e
 split at e
 ·injection e with e;exact e▸jQ _
 ·injection e with e;exact e▸jQ _
 ·injection e with e;exact e▸jQ _
 ·split at e
  ·cases e
  ·injection e with e;exact e▸jQ _
 ·split at e
  ·cases e
  ·injection e with e;exact e▸D7 h hk (by assumption)
 ·injection e with e;exact e▸Fy h hk
 ·injection e with e;exact e▸GG h hk
 ·injection e with e;exact e▸Ev h hk
 ·injection e with e
  subst e
  split
  ·exact jQ _
  ·simp[Ce]
 ·injection e with e
  subst e
  split
  ·exact jQ _
  ·simp[Ce]
theorem Dh(b:Bool):Ce (jP b):=by cases b<;>simp[jP,Ce]
theorem Cm{p:Nat}{b c:Int}(h:Ce b)(k:Ce c):Ce (aM p b c):=by
 unfold aM
 split
 ·exact jQ _
 ·exact jQ _
 ·unfold Ce at*;omega
 ·exact jQ _
 ·exact jQ _
 ·unfold Ce at*;omega
 ·unfold Ce at*;omega
 all_goals exact Dh _
theorem Kk{d:Dat}{r:List Int}(h:DataOk d)(hr:r.length≤32)(k:aL r=true):DataOk {d with st:=r}:=⟨hr,h.bk,h.ce,k,h.cbk,h.cce,h.he,h.ba,h.ou⟩
theorem Jc{d:Dat}{r:List Int}(h:DataOk d)(hr:r.length≤32)(k:aL r=true):DataOk {d with bk:=r}:=⟨h.st,hr,h.ce,h.cst,k,h.cce,h.he,h.ba,h.ou⟩
theorem Kz{d:Dat}{r:List Int}(h:DataOk d)(hr:r.length=32)(k:aL r=true):DataOk {d with ce:=r}:=⟨h.st,h.bk,hr,h.cst,h.cbk,k,h.he,h.ba,h.ou⟩
theorem eF{d:Dat}{r l:List Int}(h:DataOk d)(hr:r.length≤32)(k:aL r=true)(hl:aL l=true):DataOk (ez d r l).1:=by
 unfold ez
 by_cases h0:32<r.length+l.length
 ·rw[if_pos h0];exact Kk h hr k
 ·rw[if_neg h0];exact Kk h (by simp;omega) (nG k hl)
theorem uN{d:Dat}{n:Int}(h:DataOk d):DataOk (aJ d n).1:=by
 by_cases h0:n.tmod 4=0∧bh (d.he+n.tdiv 4) 0 32=true
 ·rw[lq h0.1 h0.2]
  have h2:=aN h0.2
  have hh:=h.he
  have hl:(pN d.ce d.he (d.he+n.tdiv 4)).length=32:=by
   rw[kQ hh.1 h2.1,kR]
   ·exact h.ce
   ·have:=h.ce;omega
  refine⟨h.st,h.bk,hl,h.cst,h.cbk,?_,h2,h.ba,h.ou⟩
  unfold pN
  refine nG (nG (mD h.cce) (iw.2 fun x hx=> ?_)) (zw h.cce)
  rw[(List.mem_replicate.1 hx).2];simp[Ce]
 ·rw[iq (if h1:n.tmod 4=0 then .inr (by simpa[h1]using h0)else .inl h1)]
  exact h
theorem ve{d:Dat}{a n:Int}(h:DataOk d)(hn:Ce n):DataOk (bT d a n).1:=by
 unfold bT
 split
 ·exact h
 ·exact Kz h (by simp[h.ce]) (wO h.cce hn)
theorem sP{d:Dat}{t:List UInt8}(h:DataOk d):DataOk (cy d t).1:=by
 unfold cy
 by_cases h0:300<d.ou.length+t.length
 ·rw[if_pos h0];exact h
 ·rw[if_neg h0];exact⟨h.st,h.bk,h.ce,h.cst,h.cbk,h.cce,h.he,h.ba,by simp;omega⟩
theorem Bd{txt:Int→Int→List UInt8}{p:Nat}{d:Dat}{r:List Int}{a b c:Int}(h:DataOk d)(hr:r.length≤32)(k:aL r=true)(ha:Ce a)(hb:Ce b)(hc:Ce c):DataOk (ap txt p d r a b c).1:=by
 have hn:aL []=true:=rfl
 have hw:=Kk h hr k
 have hl:Ce (r.length:Int):=by unfold Ce;omega
 have hq:Ce (4096+4*d.he):=by have:=h.he;unfold Ce;omega
 unfold ap
 split
 ·exact eF h hr k (ed hc (jo hc))
 ·exact hw
 ·exact eF h hr k (ed hc (jo hb))
 ·exact eF h hr k (ed hb (ed hc (jo hb)))
 ·exact eF h hr k (ed hb (ed hc (jo ha)))
 ·exact eF h hr k (jo hc)
 ·exact eF h hr k (ed hc (ed hb (jo hc)))
 ·split
  ·exact eF h hr k (jo (by simp[Ce]))
  ·exact eF h hr k (ed hc (jo hc))
 ·exact eF h hr k (ed hb (ed hc (ed hb (jo hc))))
 ·exact hw
 ·exact eF h hr k (jo hl)
 ·split
  ·exact hw
  ·exact Jc hw (by have:=h.bk;simp;omega) (nG h.cbk (jo hc))
 ·exact eF (Jc h (by have:=h.bk;simp;omega) (mD h.cbk)) hr k (jo (jx h.cbk))
 ·exact eF h hr k (jo (jx h.cbk))
 ·split
  ·exact hw
  ·exact eF h hr k (jo (jx h.cce))
 ·exact ve hw hb
 ·split
  ·exact hw
  ·exact Kz hw (by simp[h.ce]) (wO h.cce (jQ _))
 ·exact eF h hr k (jo hq)
 ·exact uN hw
 ·have h4:=uN (n:=4) hw
  generalize aJ {d with st:=r} 4=x at h4
  obtain⟨x,th⟩:=x
  show DataOk (if th≠0 then(x,th)else bT x (4096+4*d.he) c).1
  split
  ·exact h4
  ·exact ve h4 hc
 ·exact sP hw
 ·exact sP hw
 ·exact sP hw
 ·exact sP hw
 ·exact⟨hr,h.bk,h.ce,k,h.cbk,h.cce,h.he,by simp,h.ou⟩
 ·exact⟨hr,h.bk,h.ce,k,h.cbk,h.cce,h.he,by simp,h.ou⟩
 ·exact eF h hr k (jo (jx h.cbk))
 ·exact Jc hw (by have:=h.bk;simp;omega) (mD h.cbk)
 ·split
  ·split
   ·exact hw
   ·exact eF h hr k (jo (Fd hb hc (by assumption)))
  ·exact eF h hr k (jo (Cm hb hc))
theorem CW{txt:Int→Int→List UInt8}{p:Nat}{fl:Int}{d:Dat}(h:DataOk d):DataOk (eo txt p fl d).1:=by
 have hI:DataOk (ej txt p fl d).1:=by
  unfold ej
  by_cases h1:d.st.length<bE p
  ·rw[if_pos h1];exact h
  ·rw[if_neg h1]
   by_cases h2:(d.bk.length:Int)-fl<dU p
   ·rw[if_pos h2];exact h
   ·rw[if_neg h2]
    exact Bd h (by have:=h.st;simp;omega) (mD h.cst) (jx h.cst) (jx h.cst) (jx h.cst)
 unfold eo
 by_cases h0:(ej txt p fl d).2=0
 ·rw[if_pos h0];exact hI
 ·rw[if_neg h0];exact h
end P20

open Go Go.Abs Go.Proofs V1 P20
namespace N1
theorem pQ(d:Dat)(r l:List Int):(ez d r l).1.bk=d.bk:=by unfold ez;split<;>rfl
theorem zu(d:Dat)(t:List UInt8):(cy d t).1.bk=d.bk:=by unfold cy;split<;>rfl
theorem pX(d:Dat)(n:Int):(aJ d n).1.bk=d.bk:=by unfold aJ;split<;>rfl
theorem rc(d:Dat)(a n:Int):(bT d a n).1.bk=d.bk:=by unfold bT;split<;>rfl
theorem A1(txt:Int→Int→List UInt8)(p:Nat)(d:Dat)(r:List Int)(a b c:Int):
  d.bk.length≤(ap txt p d r a b c).1.bk.length+dU p:=by
 unfold ap
 split
 all_goals first
  |(simp only[pQ,zu,rc,pX];omega)
  |(split<;>simp only[pQ,zu,rc,pX,List.length_append]<;>omega)
  |(simp only[pQ,dU,List.length_take];omega)
  |skip
 ·have e:=pX {d with st:=r} 4
  split
  rename_i x th he
  have e2:x.bk=d.bk:=by rw[he]at e;exact e
  split
  ·simp only[e2];omega
  ·simp only[rc,e2];omega
 ·split
  ·split<;>simp only[pQ]<;>omega
  ·simp only[pQ];omega
theorem CE{txt:Int→Int→List UInt8}{p:Nat}{fl:Int}{d:Dat}(hf:fl≤d.bk.length):fl≤((eo txt p fl d).1.bk.length:Int):=by
 unfold eo
 split
 ·unfold ej
  split
  ·exact hf
  ·split
   ·exact hf
   ·have:=A1 txt p d (d.st.take (d.st.length-bE p)) (d.st.getD (d.st.length-3) 0) (d.st.getD (d.st.length-2) 0) (d.st.getD (d.st.length-1) 0)
    omega
 ·exact hf
theorem sC(d:Dat)(r l:List Int):cell (ez d r l).2=true:=by unfold ez;split<;>rfl
theorem EE(d:Dat)(t:List UInt8):cell (cy d t).2=true:=by unfold cy;split<;>rfl
theorem uc(d:Dat)(n:Int):cell (aJ d n).2=true:=by unfold aJ;split<;>rfl
theorem tP(d:Dat)(a n:Int):cell (bT d a n).2=true:=by unfold bT;split<;>rfl
theorem AN(txt:Int→Int→List UInt8)(p:Nat)(d:Dat)(r:List Int)(a b c:Int):cell (ap txt p d r a b c).2=true:=by
 unfold ap
 split
 all_goals first
  |(simp only[sC,EE,uc,tP];done)
  |(split<;>first|(simp only[sC];done)|(show cell (-9)=true;rfl)|(show cell (-5)=true;rfl)|(show cell 0=true;rfl))
  |(show cell 0=true;rfl)
  |skip
 ·have e:=uc {d with st:=r} 4
  split
  rename_i x th he
  rw[he]at e
  split
  ·exact e
  ·exact tP ..
 ·split
  ·split
   ·rfl
   ·exact sC ..
  ·exact sC ..
theorem CA(txt:Int→Int→List UInt8)(p:Nat)(fl:Int)(d:Dat):cell (eo txt p fl d).2=true:=by
 have hI:cell (ej txt p fl d).2=true:=by
  unfold ej
  split
  ·rfl
  ·split
   ·rfl
   ·exact AN ..
 unfold eo
 split<;>exact hI
theorem C3(h:Hst)(d:Dat){c:Nat}(hc:c<4):(bA h d c).2.1.bk=d.bk∧cell (bA h d c).2.2=true:=by
 have hB:(lR h d c).2.1.bk=d.bk∧cell (lR h d c).2.2=true:=by
  have hcv:c=0∨c=1∨c=2∨c=3:=by omega
  rcases hcv with rfl|rfl|rfl|rfl<;>simp only[lR]<;>(repeat' split)<;>exact⟨rfl,rfl⟩
 have hI:(cx h d c).2.1.bk=d.bk∧cell (cx h d c).2.2=true:=by
  unfold cx
  split
  ·exact⟨rfl,rfl⟩
  ·split
   ·exact⟨rfl,rfl⟩
   ·exact hB
 unfold bA
 split
 ·exact hI
 ·exact⟨rfl,hI.2⟩
theorem C0{h:Hst}{d:Dat}{c:Nat}(hc:c<4)(hh:HostOk h)(hd:DataOk d):HostOk (bA h d c).1∧DataOk (bA h d c).2.1:=by
 by_cases hg:h.gr.getD c false=true
 ·exact⟨(uD hc hh hd hg).1.ho,(uD hc hh hd hg).1.da⟩
 ·rw[AJ (by simpa using hg)]
  exact⟨hh,hd⟩
abbrev Ok(r:Mch × Int):Prop:=MI r.1∧cell r.2=true
theorem zt{m:Mch}(h:MI m):cell (bp m.da)=true:=fe h.da.cst _
theorem yn{m:Mch}(h:MI m):cell (m.co.getD m.ip.toNat 0)=true:=fe h.cc _
theorem fU{m:Mch}(h:MI m):MI (cH m):=
 h.setD ⟨by have:=h.da.st;simp only[List.length_take];omega,h.da.bk,h.da.ce,fi h.da.cst _,h.da.cbk,h.da.cce,h.da.he,h.da.ba,h.da.ou⟩ h.floor.2
theorem jk{m:Mch}(h:MI m){n:Int}(hn:cell n=true):Ok (bi m n):=by
 unfold bi fp
 split
 ·exact⟨h,rfl⟩
 ·refine⟨h.setD ⟨?_,h.da.bk,h.da.ce,gD h.da.cst (iV hn),h.da.cbk,h.da.cce,h.da.he,h.da.ba,h.da.ou⟩ h.floor.2,rfl⟩
  have:=h.da.st
  simp only[List.length_append,List.length_singleton]
  omega
theorem td{m:Mch}(h:MI m){x:Int}(hx:cell x=true):Ok (dP m x):=by
 unfold dP
 split
 ·exact⟨h,rfl⟩
 ·refine⟨h.setIp ?_,rfl⟩
  simp[cell,bh]at hx
  omega
theorem xO{m:Mch}(h:MI m)(s:Int){x:Int}(hx:cell x=true):Ok (dg m s x):=by
 unfold dg
 split
 ·exact⟨h,rfl⟩
 ·split
  ·refine⟨h.setD ⟨h.da.st,by have:=h.da.bk;simp only[List.length_take];omega,h.da.ce,h.da.cst,fi h.da.cbk _,h.da.cce,h.da.he,h.da.ba,h.da.ou⟩ ?_,rfl⟩
   simp only[List.length_take]
   omega
  ·refine td (h.setD (d:={m.da with bk:=m.da.bk.set (m.da.bk.length-1) (wc (kD m+s))}) ⟨h.da.st,by have:=h.da.bk;simp only[List.length_set];omega,h.da.ce,h.da.cst,rA h.da.cbk (KC _) _,h.da.cce,h.da.he,h.da.ba,h.da.ou⟩ ?_) hx
   simp only[List.length_set]
   exact h.floor.2
theorem G6{m:Mch}(h:MI m):Ok (gl m):=by
 unfold gl
 split
 ·exact⟨h,rfl⟩
 ·split
  ·exact⟨h,rfl⟩
  ·have h1:=h.da.st
   have h2:=h.floor.2
   refine⟨h.setD ⟨by simp only[List.length_take];omega,by simp only[List.length_append,List.length_drop];omega,h.da.ce,fi h.da.cst _,gD h.da.cbk (qr h.da.cst _),h.da.cce,h.da.he,h.da.ba,h.da.ou⟩ ?_,rfl⟩
   simp only[List.length_append]
   omega
theorem Am{m:Mch}(h:MI m)(b:Bool)(k:Int):Ok (fR b m k):=by
 unfold fR
 split
 ·exact G6 h
 ·split
  ·exact⟨h,rfl⟩
  ·have hx:=yn h
   have hn:MI (nextM m):=h.nextM (by omega)
   unfold dl
   repeat' split
   ·exact jk hn hx
   ·exact td hn hx
   ·exact xO hn _ hx
   ·exact⟨hn,rfl⟩
   ·exact⟨h,rfl⟩
   ·exact xO (fU hn) _ hx
   ·exact⟨fU hn,rfl⟩
   ·exact td (fU hn) hx
theorem Dm{m:Mch}(h:MI m):Ok (sh m):=by
 unfold sh
 repeat' split
 all_goals first|exact⟨h,rfl⟩|exact⟨h.dropC (by assumption),rfl⟩
theorem Cw{ex:Mch→Int→Mch × Int}{m:Mch}(he: ∀(m':Mch)(n:Int),MI m'→m'.fu=m.fu→Ok (ex m' n))(h:MI m)(v:Int):Ok (gI ex m v):=by
 unfold gI
 have ht:=zt h
 repeat' split
 ·exact Dm h
 ·exact⟨h,rfl⟩
 ·exact⟨fU h,rfl⟩
 ·exact⟨h,rfl⟩
 ·exact⟨h,ht⟩
 ·exact⟨h,rfl⟩
 ·exact⟨fU h,rfl⟩
 ·rename_i h1 h2 h3 h4 h5
  refine he _ _ ((fU h).addC ?_ ⟨h.ip,⟨Int.natCast_nonneg _,Int.le_refl _⟩,?_,.inl rfl⟩ h.floor.2) rfl
  ·have:=h.cl
   show m.ca.length<16
   omega
  ·have:=h.da.st
   show(0:Int)≤(m.da.st.length:Int)-1∧(m.da.st.length:Int)-1≤31
   omega
 ·exact he _ _ (fU h) rfl
theorem Dx{txt:Int→Int→List UInt8}{b:Bool}{ex:Mch→Int→Mch × Int}{m:Mch}(he: ∀(m':Mch)(n:Int),MI m'→m'.fu=m.fu→Ok (ex m' n))(h:MI m){n:Int}{w:Wd}(hw:lI n w=true):Ok (oT txt b ex m w):=by
 unfold oT
 repeat' split
 ·exact⟨h,rfl⟩
 ·exact⟨h.setD (CW h.da) (CE h.floor.2),CA ..⟩
 ·rename_i h5 h1 h4
  have hv:1≤w.v∧w.v≤4:=by simpa[lI,h4,bh]using hw
  have hc:(w.v-1).toNat<4:=by omega
  obtain⟨k1,k2⟩:=C0 hc h.ho h.da
  obtain⟨k3,k4⟩:=C3 m.ho m.da hc
  exact⟨(h.setH k1).setD k2 (by rw[k3];exact h.floor.2),k4⟩
 ·rename_i h5 h1 h4 h7
  refine jk h ?_
  rcases h7 with h7|h7<;>simpa[lI,h7]using hw
 ·rename_i h5 h1 h4 h7 h6
  have hv:0≤w.v∧w.v≤399:=by simpa[lI,h6,bh]using hw
  unfold uy
  split
  ·exact⟨h,rfl⟩
  ·refine⟨(h.addC ?_ ⟨h.ip,⟨Int.natCast_nonneg _,Int.le_refl _⟩,⟨Int.le_refl 0,show(0:Int)≤31 by decide⟩,.inr rfl⟩ h.floor.2).setIp ⟨hv.1,by omega⟩,rfl⟩
   have:=h.cl
   omega
 ·exact Cw he h _
 ·exact Am h _ _
theorem pb(txt:Int→Int→List UInt8)(b:Bool): ∀(f:Nat)(m:Mch)(n:Int),MI m→(f:Int)≤m.fu→Ok (dX txt b f m n)
 |0,m,n,h,_=>⟨h,rfl⟩
 |f+1,m,n,h,hf=>by
  have hu:MI {m with fu:=m.fu-1}:=h.setFu (by have:=h.fu;omega)
  unfold dX pJ
  split
  ·exact⟨hu,rfl⟩
  ·rename_i hn
   exact Dx (n:=n) (fun m' n' hm' hfu=>pb txt b f m' n' hm' (by rw[hfu];show(f:Int)≤m.fu-1;omega)) hu (sq h.ws (by simpa using hn))
theorem mK(cs:List Cal): ∀n,eu cs n<n
 |0=>by simp[eu]
 |n+1=>by
  unfold eu
  split
  ·omega
  ·have:=mK cs n
   omega
theorem jh{m:Mch}(h:MI m){t:Int}(ht:cell t=true):Ok (bR m t):=by
 unfold bR
 split
 ·exact⟨⟨h.ws,h.co,h.cc,h.da,h.ho,by simp,fun c hc=>(by cases hc),List.Pairwise.nil,⟨Int.le_refl 0,show(0:Int)≤2147483647 by decide⟩,h.fu⟩,ht⟩
 ·rename_i hx
  have h1:=mK m.ca m.ca.length
  have hi:(eu m.ca m.ca.length).toNat<m.ca.length:=by omega
  have e:se m=m.ca[(eu m.ca m.ca.length).toNat]:=by
   unfold se
   rw[List.getD_eq_getElem?_getD,List.getElem?_eq_getElem hi];rfl
  have hm:se m∈m.ca:=by rw[e];exact List.getElem_mem hi
  have ha:=h.ci _ hm
  have hs:=h.da.st
  have hb:=h.da.bk
  refine⟨⟨h.ws,h.co,h.cc,⟨?_,by simp only[List.length_take];omega,h.da.ce,gD ?_ (iV ht),fi h.da.cbk _,h.da.cce,h.da.he,h.da.ba,h.da.ou⟩,h.ho,by have:=h.cl;simp only[List.length_take];omega,?_,h.pw.sublist (List.take_sublist _ _),ha.ip,h.fu⟩,rfl⟩
  ·unfold mJ
   have:=ha.dp
   simp only[List.length_append,List.length_take,List.length_replicate,List.length_singleton]
   omega
  ·unfold mJ
   refine gD (fi h.da.cst _) ?_
   simp[aL,cell,bh]
  ·intro c hc
   have hc2:=h.ci c (List.mem_of_mem_take hc)
   refine⟨hc2.ip,⟨hc2.fl.1,?_⟩,hc2.dp,hc2.ca⟩
   obtain⟨j,hj,rfl⟩:=List.mem_iff_getElem.1 hc
   simp only[List.length_take]at hj
   simp only[List.getElem_take,List.length_take]
   have:=List.pairwise_iff_getElem.1 h.pw j (eu m.ca m.ca.length).toNat (by omega) hi (by omega)
   rw[←e]at this
   have:=ha.fl
   omega
theorem lz: ∀(k:Nat)(m:Mch),MI m→Ok (cd k m)
 |0,m,h=>⟨h,rfl⟩
 |k+1,m,h=>by
  unfold cd
  split
  ·exact⟨h,rfl⟩
  ·rename_i h0
   have hp:=jk (h.dropC h0) (n:=0) rfl
   have ht:=jh hp.1 hp.2
   repeat' split
   ·exact⟨h,rfl⟩
   ·exact lz k _ hp.1
   ·exact lz k _ ht.1
   ·exact ht
theorem Dc{r:Mch × Int}(h:Ok r):Ok (fE r):=by
 have ht:=jh h.1 h.2
 unfold fE
 repeat' split
 ·exact lz _ _ h.1
 ·exact lz _ _ ht.1
 ·exact ht
theorem xD{txt:Int→Int→List UInt8}{b:Bool}{m:Mch}(h:MI m)(n:Int):Ok (fG txt b m n):=Dc (pb txt b _ m n h (by have:=h.fu;omega))
end N1

open Go Go.Abs Go.Proofs V1 P20 N1
namespace N2
section
variable{txt:Int→Int→List UInt8}{b:Bool}
theorem tn(m:Mch)(x:Int):(dP m x).1.fu=m.fu:=by unfold dP;split<;>rfl
theorem xX(m:Mch)(s x:Int):(dg m s x).1.fu=m.fu:=by
 unfold dg
 repeat' split
 all_goals first|rfl|exact tn _ _
theorem BL(m:Mch)(k:Int):(fR b m k).1.fu=m.fu:=by
 unfold fR dl gl
 repeat' split
 all_goals first|rfl|exact tn _ _|exact xX _ _ _|(rw[tn];rfl)|(rw[xX];rfl)
theorem Ct{ex:Mch→Int→Mch × Int}(he: ∀m n,(ex m n).1.fu≤m.fu)(m:Mch)(v:Int):(gI ex m v).1.fu≤m.fu:=by
 unfold gI sh
 repeat' split
 all_goals first|exact Int.le_refl _|exact he _ _
theorem xz{ex:Mch→Int→Mch × Int}(he: ∀m n,(ex m n).1.fu≤m.fu)(m:Mch)(w:Wd):(oT txt b ex m w).1.fu≤m.fu:=by
 unfold oT uy
 repeat' split
 all_goals first|exact Int.le_refl _|exact Ct he _ _|exact Int.le_of_eq (BL _ _)
theorem uZ: ∀(f:Nat)(m:Mch)(n:Int),(dX txt b f m n).1.fu≤m.fu
 |0,m,n=>Int.le_refl _
 |f+1,m,n=>by
  have h:(dX txt b (f+1) m n).1.fu≤m.fu-1:=by
   unfold dX pJ
   split
   ·exact Int.le_refl _
   ·exact xz (uZ f) {m with fu:=m.fu-1} _
  omega
theorem CN(f:Nat)(m:Mch)(n:Int):(dX txt b (f+1) m n).1.fu≤m.fu-1:=by
 unfold dX pJ
 split
 ·exact Int.le_refl _
 ·exact xz (uZ f) {m with fu:=m.fu-1} _
theorem mR(m:Mch)(t:Int):(bR m t).1.fu=m.fu:=by unfold bR;split<;>rfl
theorem ld: ∀(k:Nat)(m:Mch),(cd k m).1.fu=m.fu
 |0,m=>rfl
 |k+1,m=>by
  unfold cd
  repeat' split
  ·rfl
  ·rfl
  ·rw[ld];rfl
  ·rw[ld,mR];rfl
  ·rw[mR];rfl
theorem Cs(r:Mch × Int):(fE r).1.fu=r.1.fu:=by
 unfold fE
 repeat' split
 ·exact ld _ _
 ·rw[ld,mR]
 ·exact mR _ _
def BI(m:Mch):Nat:=if m.ca.length=0 then 0 else m.fu.toNat+1
theorem Ax{m:Mch}(h:MI m)(n:Int):BI (fG txt b m n).1≤m.fu.toNat:=by
 have e:=Cs (dX txt b m.fu.toNat m n)
 unfold BI
 by_cases h0:m.fu.toNat=0
 ·have:(fG txt b m n).1.ca=[]:=by
   have e2:fE (m,-101)=({m with ca:=[],ip:=0},-101):=by simp[fE,bR]
   unfold fG
   rw[h0,dX,e2]
  rw[this];simp
 ·split
  ·exact Nat.zero_le _
  ·obtain⟨f,hf⟩: ∃f,m.fu.toNat=f+1:=⟨m.fu.toNat-1,by omega⟩
   have:=CN (txt:=txt) (b:=b) f m n
   unfold fG
   rw[e,hf]
   omega
theorem next_w{m:Mch}(h:MI m)(h0: ¬m.ca.length=0):BI (DD txt b m).1<BI m:=by
 have e:BI m=m.fu.toNat+1:=if_neg h0
 unfold DD
 split
 ·have:=Ax (txt:=txt) (b:=b) h 0
  omega
 ·have:=Ax (txt:=txt) (b:=b) (h.nextM (by omega)) (m.co.getD m.ip.toNat 0)
  have:(nextM m).fu=m.fu:=rfl
  omega
end
end N2
