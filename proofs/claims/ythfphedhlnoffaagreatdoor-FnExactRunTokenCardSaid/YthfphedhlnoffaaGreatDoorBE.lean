import Derived.Test.YthfphedhlnoffaaGreatDoorBD
import Derived.Test.YthfphedhlnoffaaGreatDoorLK
/- Which prim, by the reference; contracts. -/
set_option linter.unusedVariables false
set_option maxHeartbeats 4000000
set_option linter.unusedSimpArgs false
set_option maxRecDepth 100000
open Go Go.Abs Go.Proofs V1 H1 F1 F2 T1 T2 T3 P1 P2 P3 P4 P5 P6 P7 P8 P9 P10 P11 P12 P13 P14 P15 P16
namespace P17
def tA(d:Dat)(i:Nat):Int:=if 2<i then d.st.getD (d.st.length-3) 0 else 0
def tB(d:Dat)(i:Nat):Int:=if 1<i then d.st.getD (d.st.length-2) 0 else 0
def tC(d:Dat)(i:Nat):Int:=if 0<i then d.st.getD (d.st.length-1) 0 else 0
def mx(d:Dat):Nat:=min 3 d.st.length
theorem LF(p:Nat)(hp:cu p)(d:Dat)(fl:Int)(hu:d.st.length<bK p):Con Tryz.prog 101 [az d,.int .i64 p,.int .i64 fl] (aa [az d,.int .i64 p,.int .i64 fl]) (tV (d,-4)):=by
 have g0:decide ((((d.st.map aj).length:Nat):Int)<((bK p:Nat):Int))=true:=by rw[List.length_map];exact decide_eq_true (by omega)
 refine rn 110 Tryz.func101 [.cell 6 35,.tmp 7] (g:= ?_)
 conv=>whnf
 repeat' (first|(refine ag (c135 p hp ..) ?_;conv=>whnf)|(focus (refine aA ?_;(rfl)))|refine aO ?_)
theorem rW(p:Nat)(hp:cu p)(d:Dat)(fl:Int)(h:d.st.length≤32)(hu: ¬d.st.length<bK p)(res:Dat × Int)(hk:((p≤11)∧Con Tryz.prog 136 [az d,.int .i64 p,.int .i64 (tA d (mx d)),.int .i64 (tB d (mx d)),.int .i64 (tC d (mx d))] (aa [az d,.int .i64 p,.int .i64 (tA d (mx d)),.int .i64 (tB d (mx d)),.int .i64 (tC d (mx d))]) (tV res))∨((11<p∧p≤14)∧Con Tryz.prog 137 [az d,.int .i64 p,.int .i64 fl,.int .i64 (tC d (mx d))] (aa [az d,.int .i64 p,.int .i64 fl,.int .i64 (tC d (mx d))]) (tV res))∨((51≤p)∧Con Tryz.prog 137 [az d,.int .i64 p,.int .i64 fl,.int .i64 (tC d (mx d))] (aa [az d,.int .i64 p,.int .i64 fl,.int .i64 (tC d (mx d))]) (tV res))∨((14<p∧p≤38)∧Con Tryz.prog 138 [az d,.int .i64 p,.int .i64 (tB d (mx d)),.int .i64 (tC d (mx d))] (aa [az d,.int .i64 p,.int .i64 (tB d (mx d)),.int .i64 (tC d (mx d))]) (tV res))∨((38<p∧p≤44)∧Con Tryz.prog 139 [az d,.int .i64 p,.int .i64 (tB d (mx d)),.int .i64 (tC d (mx d))] (aa [az d,.int .i64 p,.int .i64 (tB d (mx d)),.int .i64 (tC d (mx d))]) (tV res))∨((44<p∧p<51)∧Con Tryz.prog 140 [az d,.int .i64 p,.int .i64 (tC d (mx d))] (aa [az d,.int .i64 p,.int .i64 (tC d (mx d))]) (tV res))):Con Tryz.prog 101 [az d,.int .i64 p,.int .i64 fl] (aa [az d,.int .i64 p,.int .i64 fl]) (tV res):=by
 have g0:decide ((((d.st.map aj).length:Nat):Int)<((bK p:Nat):Int))=false:=by rw[List.length_map];exact decide_eq_false (by omega)
 refine rn 110 Tryz.func101 [.cell 6 35,.tmp 7] (g:= ?_)
 conv=>whnf
 iterate 8 ((first|apply ac rfl|refine aG (fun hf=> ?_)|refine aJ (by assumption) ?_|apply aB|refine ag (c135 p hp ..) ?_);conv=>whnf)
 rotate_left
 refine LoopG.auto (α:=Nat) bH dI [1,2,3,6,8,9,10] (fun i=>[(1,.int .i64 p),(2,.int .i64 fl),(3,.ptr 1 0 0),(6,.ptr 2 0 0),(8,.int .i64 (d.st.map aj).length),(9,.ref 3 0 3),(10,.int .i64 i)]) (fun i=>[(1,.live ⟨false,0,[dL d.st,dL d.bk,dL d.ce,.int .i64 d.he,.int .i64 d.ba,.str d.ou],[[dL d.st,dL d.bk,dL d.ce,.int .i64 d.he,.int .i64 d.ba,.str d.ou]]⟩),(2,.live ⟨false,0,[.emp,.emp,.emp,.int .i64 0,.int .i64 0,.str []],[[.emp,.emp,.emp,.int .i64 0,.int .i64 0,.str []]]⟩),(3,.live ⟨true,0,zI,[[.int .i64 (tA d i)],[.int .i64 (tB d i)],[.int .i64 (tC d i)]]⟩)]) (fun i=>i≤mx d) (fun i=>mx d-i) ?_ ?_
 ·conv=>whnf
  (apply ChkS.mk (by kernel_rfl);conv=>whnf)
  rotate_left
  exact aE 0 (by omega) (by simp) (by simp[tA,tB,tC,zI,dL])
 ·rintro i hi- -
  by_cases hlt:i<mx d
  ·have h3:i<3:=by unfold mx at hlt;omega
   have hn:i<d.st.length:=by unfold mx at hlt;omega
   have gd:decide ((i:Int)<3)=true:=decide_eq_true (by omega)
   have ge:decide ((i:Int)<(((d.st.map aj).length:Nat):Int))=true:=by rw[List.length_map];exact decide_eq_true (by omega)
   have wj:IntKind.i64.wrap (2-(i:Int))=((2-i:Nat):Int):=by rw[ai (by omega) (by omega)];omega
   have wn:IntKind.i64.wrap ((((d.st.map aj).length:Nat):Int)-1)=(((d.st.map aj).length:Nat):Int)-1:=by rw[List.length_map];exact ai (by omega) (by omega)
   have wi2:IntKind.i64.wrap (IntKind.i64.wrap ((((d.st.map aj).length:Nat):Int)-1)-(i:Int))=((d.st.length-(i+1):Nat):Int):=by rw[wn,List.length_map,ai (by omega) (by omega)];omega
   have wi:(IntKind.i64.wrap (IntKind.i64.wrap ((((d.st.map aj).length:Nat):Int)-1)-(i:Int))).toNat=d.st.length-(i+1):=by rw[wi2];omega
   conv=>whnf
   iterate 13 ((first|refine ac (by solve|simp only[bj]|fail) ?_|apply ac rfl|refine ac (by refine aU rfl ?_;simp only[cB];omega) ?_|refine ac (by simp only[Bool.and_eq_true,decide_eq_true_eq,List.length_map];omega) ?_|refine ac (by((first|(refine aU ?_ ?_<;>(first|(rw[wj];exact decide_eq_true (by omega))|(rw[wi2];exact decide_eq_true (by omega))|(rw[wi2,List.length_map];exact decide_eq_true (by omega))))|(rw[wj];exact decide_eq_true (by omega))|(rw[wi2];exact decide_eq_true (by omega))|(rw[wi2,List.length_map];exact decide_eq_true (by omega))|(simp[wj];omega)))) ?_|refine aH (by((rewrite[wi];exact aI aj _ _ _ 0 (by omega)))) ?_|apply af rfl|refine ChkS.mk (by kernel_rfl) ?_|apply bL rfl|refine bL (by assumption) ?_);conv=>whnf)
   rotate_left
   refine aE (i+1) ⟨by omega,by omega⟩ (by rw[ai (by omega) (by omega)];rfl) ?_
   rw[wj]
   rcases(by omega:i=0∨i=1∨i=2)with rfl|rfl|rfl<;>rfl
  ·obtain rfl:i=mx d:=by omega
   have wi:(0:Nat)=0:=rfl
   by_cases h3:d.st.length<3
   ·have em:mx d=d.st.length:=by unfold mx;omega
    have gd:decide (((mx d:Nat):Int)<3)=true:=decide_eq_true (by omega)
    have ge:decide (((mx d:Nat):Int)<(((d.st.map aj).length:Nat):Int))=false:=by rw[List.length_map];exact decide_eq_false (by omega)
    rcases hk with⟨hq,k⟩|⟨hq,k⟩|⟨hq,k⟩|⟨hq,k⟩|⟨hq,k⟩|⟨hq,k⟩
    ·have q1:decide ((p:Int)≤11)=true:=decide_eq_true (by omega)
     conv=>whnf
     exact go
    ·have q1:decide ((p:Int)≤11)=false:=decide_eq_false (by omega)
     have q2:decide ((p:Int)≤14)=true:=decide_eq_true (by omega)
     conv=>whnf
     exact go
    ·have q1:decide ((p:Int)≤11)=false:=decide_eq_false (by omega)
     have q2:decide ((p:Int)≤14)=false:=decide_eq_false (by omega)
     have q3:decide ((p:Int)≥51)=true:=decide_eq_true (by omega)
     conv=>whnf
     exact go
    ·have q1:decide ((p:Int)≤11)=false:=decide_eq_false (by omega)
     have q2:decide ((p:Int)≤14)=false:=decide_eq_false (by omega)
     have q3:decide ((p:Int)≥51)=false:=decide_eq_false (by omega)
     have q4:decide ((p:Int)≤38)=true:=decide_eq_true (by omega)
     conv=>whnf
     exact go
    ·have q1:decide ((p:Int)≤11)=false:=decide_eq_false (by omega)
     have q2:decide ((p:Int)≤14)=false:=decide_eq_false (by omega)
     have q3:decide ((p:Int)≥51)=false:=decide_eq_false (by omega)
     have q4:decide ((p:Int)≤38)=false:=decide_eq_false (by omega)
     have q5:decide ((p:Int)≤44)=true:=decide_eq_true (by omega)
     conv=>whnf
     exact go
    ·have q1:decide ((p:Int)≤11)=false:=decide_eq_false (by omega)
     have q2:decide ((p:Int)≤14)=false:=decide_eq_false (by omega)
     have q3:decide ((p:Int)≥51)=false:=decide_eq_false (by omega)
     have q4:decide ((p:Int)≤38)=false:=decide_eq_false (by omega)
     have q5:decide ((p:Int)≤44)=false:=decide_eq_false (by omega)
     conv=>whnf
     exact go
   ·have em:mx d=3:=by unfold mx;omega
    have gd:decide (((mx d:Nat):Int)<3)=false:=decide_eq_false (by omega)
    rcases hk with⟨hq,k⟩|⟨hq,k⟩|⟨hq,k⟩|⟨hq,k⟩|⟨hq,k⟩|⟨hq,k⟩
    ·have q1:decide ((p:Int)≤11)=true:=decide_eq_true (by omega)
     conv=>whnf
     exact go
    ·have q1:decide ((p:Int)≤11)=false:=decide_eq_false (by omega)
     have q2:decide ((p:Int)≤14)=true:=decide_eq_true (by omega)
     conv=>whnf
     exact go
    ·have q1:decide ((p:Int)≤11)=false:=decide_eq_false (by omega)
     have q2:decide ((p:Int)≤14)=false:=decide_eq_false (by omega)
     have q3:decide ((p:Int)≥51)=true:=decide_eq_true (by omega)
     conv=>whnf
     exact go
    ·have q1:decide ((p:Int)≤11)=false:=decide_eq_false (by omega)
     have q2:decide ((p:Int)≤14)=false:=decide_eq_false (by omega)
     have q3:decide ((p:Int)≥51)=false:=decide_eq_false (by omega)
     have q4:decide ((p:Int)≤38)=true:=decide_eq_true (by omega)
     conv=>whnf
     exact go
    ·have q1:decide ((p:Int)≤11)=false:=decide_eq_false (by omega)
     have q2:decide ((p:Int)≤14)=false:=decide_eq_false (by omega)
     have q3:decide ((p:Int)≥51)=false:=decide_eq_false (by omega)
     have q4:decide ((p:Int)≤38)=false:=decide_eq_false (by omega)
     have q5:decide ((p:Int)≤44)=true:=decide_eq_true (by omega)
     conv=>whnf
     exact go
    ·have q1:decide ((p:Int)≤11)=false:=decide_eq_false (by omega)
     have q2:decide ((p:Int)≤14)=false:=decide_eq_false (by omega)
     have q3:decide ((p:Int)≥51)=false:=decide_eq_false (by omega)
     have q4:decide ((p:Int)≤38)=false:=decide_eq_false (by omega)
     have q5:decide ((p:Int)≤44)=false:=decide_eq_false (by omega)
     conv=>whnf
     exact go
theorem zV(p:Nat)(hp:cu p)(d:Dat)(fl:Int)(h:d.st.length≤32)(hu: ¬d.st.length<bK p)(res:Dat × Int)(hq:p≤11)(k:Con Tryz.prog 136 [az d,.int .i64 p,.int .i64 (tA d (mx d)),.int .i64 (tB d (mx d)),.int .i64 (tC d (mx d))] (aa [az d,.int .i64 p,.int .i64 (tA d (mx d)),.int .i64 (tB d (mx d)),.int .i64 (tC d (mx d))]) (tV res)):Con Tryz.prog 101 [az d,.int .i64 p,.int .i64 fl] (aa [az d,.int .i64 p,.int .i64 fl]) (tV res):=rW p hp d fl h hu res (.inl ⟨hq,k⟩)
theorem xl(p:Nat)(hp:cu p)(d:Dat)(fl:Int)(h:d.st.length≤32)(hu: ¬d.st.length<bK p)(res:Dat × Int)(hq:11<p∧p≤14)(k:Con Tryz.prog 137 [az d,.int .i64 p,.int .i64 fl,.int .i64 (tC d (mx d))] (aa [az d,.int .i64 p,.int .i64 fl,.int .i64 (tC d (mx d))]) (tV res)):Con Tryz.prog 101 [az d,.int .i64 p,.int .i64 fl] (aa [az d,.int .i64 p,.int .i64 fl]) (tV res):=rW p hp d fl h hu res (.inr (.inl ⟨hq,k⟩))
theorem DZ(p:Nat)(hp:cu p)(d:Dat)(fl:Int)(h:d.st.length≤32)(hu: ¬d.st.length<bK p)(res:Dat × Int)(hq:51≤p)(k:Con Tryz.prog 137 [az d,.int .i64 p,.int .i64 fl,.int .i64 (tC d (mx d))] (aa [az d,.int .i64 p,.int .i64 fl,.int .i64 (tC d (mx d))]) (tV res)):Con Tryz.prog 101 [az d,.int .i64 p,.int .i64 fl] (aa [az d,.int .i64 p,.int .i64 fl]) (tV res):=rW p hp d fl h hu res (.inr (.inr (.inl ⟨hq,k⟩)))
theorem px(p:Nat)(hp:cu p)(d:Dat)(fl:Int)(h:d.st.length≤32)(hu: ¬d.st.length<bK p)(res:Dat × Int)(hq:14<p∧p≤38)(k:Con Tryz.prog 138 [az d,.int .i64 p,.int .i64 (tB d (mx d)),.int .i64 (tC d (mx d))] (aa [az d,.int .i64 p,.int .i64 (tB d (mx d)),.int .i64 (tC d (mx d))]) (tV res)):Con Tryz.prog 101 [az d,.int .i64 p,.int .i64 fl] (aa [az d,.int .i64 p,.int .i64 fl]) (tV res):=rW p hp d fl h hu res (.inr (.inr (.inr (.inl ⟨hq,k⟩))))
theorem DS(p:Nat)(hp:cu p)(d:Dat)(fl:Int)(h:d.st.length≤32)(hu: ¬d.st.length<bK p)(res:Dat × Int)(hq:38<p∧p≤44)(k:Con Tryz.prog 139 [az d,.int .i64 p,.int .i64 (tB d (mx d)),.int .i64 (tC d (mx d))] (aa [az d,.int .i64 p,.int .i64 (tB d (mx d)),.int .i64 (tC d (mx d))]) (tV res)):Con Tryz.prog 101 [az d,.int .i64 p,.int .i64 fl] (aa [az d,.int .i64 p,.int .i64 fl]) (tV res):=rW p hp d fl h hu res (.inr (.inr (.inr (.inr (.inl ⟨hq,k⟩)))))
theorem G3(p:Nat)(hp:cu p)(d:Dat)(fl:Int)(h:d.st.length≤32)(hu: ¬d.st.length<bK p)(res:Dat × Int)(hq:44<p∧p<51)(k:Con Tryz.prog 140 [az d,.int .i64 p,.int .i64 (tC d (mx d))] (aa [az d,.int .i64 p,.int .i64 (tC d (mx d))]) (tV res)):Con Tryz.prog 101 [az d,.int .i64 p,.int .i64 fl] (aa [az d,.int .i64 p,.int .i64 fl]) (tV res):=rW p hp d fl h hu res (.inr (.inr (.inr (.inr (.inr (⟨hq,k⟩))))))
end P17

/- Prims: what both sides compute is the same; plain. -/
open Go Go.Abs Go.Proofs V1 H1 F1 F2 T1 T2 T3 P1 P2 P3 P4 P5 P6 P7 P8 P9 P10 P11 P12 P13 P14 P15 P16 P17
namespace P18
def rr(p:Nat)(d:Dat):List Int:=d.st.take (d.st.length-bK p)
def qa(d:Dat):Int:=d.st.getD (d.st.length-3) 0
def qb(d:Dat):Int:=d.st.getD (d.st.length-2) 0
def qc(d:Dat):Int:=d.st.getD (d.st.length-1) 0
theorem Gs{p:Nat}{fl:Int}{d:Dat}(hu:d.st.length<bK p):eE TX p fl d=(d,-4):=by
 have e:ew TX p fl d=(d,-4):=by rw[ew,if_pos hu]
 rw[eE,e];rfl
theorem Fr{p:Nat}{fl:Int}{d:Dat}(hu: ¬d.st.length<bK p)(hb:(d.bk.length:Int)-fl<dZ p):eE TX p fl d=(d,-6):=by
 have e:ew TX p fl d=(d,-6):=by rw[ew,if_neg hu,if_pos hb]
 rw[eE,e];rfl
theorem bx{p:Nat}{fl:Int}{d:Dat}(hu: ¬d.st.length<bK p)(hb: ¬(d.bk.length:Int)-fl<dZ p):eE TX p fl d=cn d (ap TX p d (rr p d) (qa d) (qb d) (qc d)):=by
 have e:ew TX p fl d=ap TX p d (rr p d) (qa d) (qb d) (qc d):=by rw[ew,if_neg hu,if_neg hb];rfl
 rw[eE,e];rfl
theorem GU{p:Nat}{d:Dat}:(rr p d).length=d.st.length-bK p:=by simp[rr]
theorem AU{p:Nat}{d:Dat}(h:bK p=0):rr p d=d.st:=by simp[rr,h]
theorem JH{d:Dat}(h:3≤d.st.length):tA d (mx d)=qa d:=by unfold tA mx qa;rw[if_pos (by omega)]
theorem gl{d:Dat}(h:2≤d.st.length):tB d (mx d)=qb d:=by unfold tB mx qb;rw[if_pos (by omega)]
theorem dW{d:Dat}(h:1≤d.st.length):tC d (mx d)=qc d:=by unfold tC mx qc;rw[if_pos (by omega)]
theorem Kx{d:Dat}(h:DataOk d): -2147483648≤tB d (mx d)∧tB d (mx d)≤2147483647:=by
 have:=gG h.cst (d.st.length-2)
 unfold tB;split<;>omega
theorem Kp{d:Dat}(h:DataOk d): -2147483648≤tC d (mx d)∧tC d (mx d)≤2147483647:=by
 have:=gG h.cst (d.st.length-1)
 unfold tC;split<;>omega
theorem cW{p:Nat}{d:Dat}(h:DataOk d)(hu: ¬d.st.length<bK p)(l:List Int):cn d (eK d (rr p d) l)=bt d (bK p) l:=(CN d (bK p) l h.st (by omega)).symm
theorem yi{p:Nat}{d d':Dat}(h:DataOk d)(hs:d'.st=d.st):bt d' (bK p) []=({d' with st:=rr p d},0):=by
 have:=h.st
 rw[gq (by rw[hs];simp;omega),hs];simp[rr]
theorem sd{d x:Dat}:cn d (x,0)=(x,0):=rfl
theorem vK{d x:Dat}{t:Int}(h:t≠0):cn d (x,t)=(d,t):=if_neg h
theorem mv8z{d:Dat}(h:DataOk d)(hu: ¬d.st.length<bK 8)(h0:qc d=0)(a b:Int):cn d (ap TX 8 d (rr 8 d) a b (qc d))=(d,0):=by
 have h1:1≤d.st.length:=Nat.le_of_not_lt hu
 have hs:=h.st
 have e:=eW d.st h1
 have er:(rr 8 d).length=d.st.length-1:=GU
 rw[show ap TX 8 d (rr 8 d) a b (qc d)=eK d (rr 8 d) [0] by simp only[ap];rw[if_pos h0],eK,if_neg (by simp[er];omega),sd]
 have:rr 8 d++[0]=d.st:=by
  have h0':d.st.getD (d.st.length-1) 0=0:=h0
  rw[h0']at e
  exact e.symm
 rw[this]
theorem JS{d:Dat}(h:DataOk d)(a b c:Int):cn d (ap TX 13 d (rr 13 d) a b c)=if d.st.length=32 then(d,-3)else({d with st:=d.st++[d.bk.getD (d.bk.length-1) 0],bk:=d.bk.take (d.bk.length-1)},0):=by
 have hs:=h.st
 rw[AU rfl]
 show cn d (eK _ _ _)=_
 unfold eK
 by_cases h0:d.st.length=32
 ·rw[if_pos (by simp;omega),if_pos h0];rfl
 ·rw[if_neg (by simp;omega),if_neg h0];rfl
theorem EI{d:Dat}{r:List Int}{n:Int}:aM {d with st:=r} n=({(aM d n).1 with st:=r},(aM d n).2):=by
 unfold aM
 by_cases h0:n.tmod 4≠0∨bm (d.he+n.tdiv 4) 0 32=false
 ·rw[if_pos h0,if_pos h0]
 ·rw[if_neg h0,if_neg h0]
theorem Jc{d:Dat}{n:Int}:(aM d n).1.st=d.st:=by unfold aM;split<;>rfl
theorem Et{d:Dat}{r:List Int}{a n:Int}:bZ {d with st:=r} a n=({(bZ d a n).1 with st:=r},(bZ d a n).2):=by
 show(match bX d a with|none=>_|some k=>_)=_
 unfold bZ
 cases bX d a<;>rfl
theorem IG{d:Dat}{a n:Int}:(bZ d a n).1.st=d.st:=by unfold bZ;split<;>rfl
theorem xO{d:Dat}{r:List Int}{t:List UInt8}:cC {d with st:=r} t=({(cC d t).1 with st:=r},(cC d t).2):=by
 unfold cC
 by_cases h0:300<d.ou.length+t.length
 ·rw[if_pos h0,if_pos h0]
 ·rw[if_neg h0,if_neg h0]
theorem DX{d:Dat}{t:List UInt8}:(cC d t).1.st=d.st:=by unfold cC;split<;>rfl
theorem kN{p:Nat}{d:Dat}(h:DataOk d)(x:Dat × Int)(hx:x.1.st=d.st):cn d ({x.1 with st:=rr p d},x.2)=if x.2≠0 then(d,x.2)else bt x.1 (bK p) []:=by
 by_cases h0:x.2=0
 ·rw[h0,sd,if_neg (by simp),yi h hx]
 ·rw[vK h0,if_pos h0]
theorem JY{d:Dat}(h:DataOk d)(a b c:Int):cn d (ap TX 40 d (rr 40 d) a b c)=match bX d c with|none=>(d,-9)|some k=>bt {d with ce:=d.ce.set k b} 2 []:=by
 show cn d (bZ _ c b)=_
 rw[Et,kN h _ IG]
 unfold bZ
 cases bX d c<;>rfl
theorem La{d:Dat}(h:DataOk d)(a b c:Int):cn d (ap TX 41 d (rr 41 d) a b c)=match bX d c with|none=>(d,-9)|some k=>bt {d with ce:=d.ce.set k (wc (d.ce.getD k 0+b))} 2 []:=by
 show cn d (match bX d c with|none=>_|some k=>_)=_
 cases bX d c with
 |none=>rfl
 |some k=>exact(kN (p:=41) h ({d with ce:=d.ce.set k (wc (d.ce.getD k 0+b))},0) rfl)
theorem JC{d:Dat}(h:DataOk d)(hu: ¬d.st.length<bK 39)(a b c:Int):cn d (ap TX 39 d (rr 39 d) a b c)=match bX d c with|none=>(d,-9)|some k=>bt d 1 [d.ce.getD k 0]:=by
 show cn d (match bX d c with|none=>_|some k=>_)=_
 cases bX d c with
 |none=>rfl
 |some k=>exact cW h hu _
theorem KW{d:Dat}(h:DataOk d)(a b c:Int):cn d (ap TX 43 d (rr 43 d) a b c)=if(aM d c).2≠0 then(d,(aM d c).2)else bt (aM d c).1 1 []:=by
 show cn d (aM _ c)=_
 rw[EI,kN h _ Jc];rfl
theorem Kf{d:Dat}(h:DataOk d)(a b c:Int):cn d (ap TX 44 d (rr 44 d) a b c)=if(aM d 4).2≠0 then(d,(aM d 4).2)else cn d ({(bZ (aM d 4).1 (4096+4*d.he) c).1 with st:=rr 44 d},(bZ (aM d 4).1 (4096+4*d.he) c).2):=by
 show cn d (match aM {d with st:=rr 44 d} 4 with|(x,th)=>if th≠0 then(x,th)else bZ x (4096+4*d.he) c)=_
 rw[EI]
 show cn d (if(aM d 4).2≠0 then({(aM d 4).1 with st:=rr 44 d},(aM d 4).2)else bZ {(aM d 4).1 with st:=rr 44 d} (4096+4*d.he) c)=_
 by_cases h0:(aM d 4).2=0
 ·rw[if_neg (fun k=>k h0),if_neg (fun k=>k h0),Et]
 ·rw[if_pos h0,if_pos h0,vK h0]
theorem LE{d:Dat}(h:DataOk d)(hn:(aM d 4).2=0)(c:Int):(bZ (aM d 4).1 (4096+4*d.he) c).2=0:=by
 have hh:=h.he
 by_cases hi:bm (d.he+(4:Int).tdiv 4) 0 32=true
 ·have h2:=aQ hi
  rw[lE rfl hi]
  have e4:(4:Int).tdiv 4=1:=rfl
  rw[e4]at h2
  have h1:bm (4096+4*d.he) 4096 (4096+4*(d.he+(4:Int).tdiv 4)-1)=true:=by rw[e4];simp[bm];omega
  have hm:(4096+4*d.he).tmod 4=0:=by rw[Int.tmod_eq_emod_of_nonneg (by omega)];omega
  rw[nY (rt (d:={d with ce:=qX d.ce d.he (d.he+(4:Int).tdiv 4),he:=d.he+(4:Int).tdiv 4}) h1 hm)]
 ·rw[it (.inr (by simpa using hi))]at hn
  cases hn
theorem IP{d:Dat}(h:DataOk d)(a b c:Int):cn d (ap TX 44 d (rr 44 d) a b c)=if(aM d 4).2≠0 then(d,(aM d 4).2)else bt (bZ (aM d 4).1 (4096+4*d.he) c).1 1 []:=by
 rw[Kf h]
 by_cases h0:(aM d 4).2=0
 ·rw[if_neg (fun k=>k h0),if_neg (fun k=>k h0),kN h _ (IG.trans Jc),if_neg (fun k=>k (LE h h0 c))];rfl
 ·rw[if_pos h0,if_pos h0]
theorem Dw{p:Nat}(hp:p=45∨p=46∨p=47∨p=48){d:Dat}(h:DataOk d)(a b c:Int):cn d (ap TX p d (rr p d) a b c)=vv p d c:=by
 unfold vv
 rcases hp with rfl|rfl|rfl|rfl
 ·show cn d (cC {d with st:=rr 45 d} (fk 45 d c))=_
  rw[xO,kN h _ DX]
 ·show cn d (cC {d with st:=rr 46 d} (fk 46 d c))=_
  rw[xO,kN h _ DX]
 ·show cn d (cC {d with st:=rr 47 d} (fk 47 d c))=_
  rw[xO,kN h _ DX]
 ·show cn d (cC {d with st:=rr 48 d} (fk 48 d c))=_
  rw[xO,kN h _ DX]
end P18

/- Every prim, ApplyPrim, by the reference; contracts. -/
open Go Go.Abs Go.Proofs V1 H1 F1 F2 T1 T2 T3 P1 P2 P3 P4 P5 P6 P7 P8 P9 P10 P11 P12 P13 P14 P15 P16 P17 P18
namespace P19
theorem c101(p:Nat)(hp:cu p)(d:Dat)(fl:Int)(h:DataOk d)(hf:0≤fl∧fl≤d.bk.length):Con Tryz.prog 101 [az d,.int .i64 p,.int .i64 fl] (aa [az d,.int .i64 p,.int .i64 fl]) (tV (eE TX p fl d)):=by
 by_cases hu:d.st.length<bK p
 ·rw[Gs hu]
  exact LF p hp d fl hu
 by_cases hb:(d.bk.length:Int)-fl<dZ p
 ·rw[Fr hu hb]
  have hq:p=13∨p=14∨p=51∨p=52:=by
   unfold dZ at hb
   split at hb<;>first|omega|(exfalso;omega)
  have k:=Lt p d fl (tC d (mx d)) hq h.bk hf hb
  rcases hq with rfl|rfl|rfl|rfl
  ·exact xl _ hp d fl h.st hu _ (by omega) k
  ·exact xl _ hp d fl h.st hu _ (by omega) k
  ·exact DZ _ hp d fl h.st hu _ (by omega) k
  ·exact DZ _ hp d fl h.st hu _ (by omega) k
 have hst:=h.st
 have hbk:=h.bk
 have tb:=Kx h
 have tc:=Kp h
 rcases A7 hp with rfl|rfl|rfl|rfl|rfl|rfl|rfl|rfl|rfl|rfl|rfl|rfl|rfl|rfl|rfl|rfl|rfl|rfl|rfl|rfl|rfl|rfl|rfl|rfl|rfl|rfl|rfl|rfl|rfl|rfl|rfl|rfl|rfl|rfl|rfl|rfl|rfl|rfl|rfl|rfl|rfl|rfl|rfl|rfl|rfl|rfl|rfl|rfl|rfl|rfl|rfl|rfl
 ·rw[bx hu hb]
  have ht:1≤d.st.length:=Nat.le_of_not_lt hu
  have eC:=dW ht
  have k:=Ln d (tA d (mx d)) (tB d (mx d)) (tC d (mx d)) h.st ht
  have e:bt d 1 [tC d (mx d),tC d (mx d)]=cn d (ap TX 1 d (rr 1 d) (qa d) (qb d) (qc d)):=by rw[eC];exact(cW h hu _).symm
  rw[e]at k
  exact zV 1 (by unfold cu;omega) d fl h.st hu _ (by omega) k
 ·rw[bx hu hb]
  have ht:1≤d.st.length:=Nat.le_of_not_lt hu
  have eC:=dW ht
  have k:=LI d (tA d (mx d)) (tB d (mx d)) (tC d (mx d)) h.st ht
  have e:bt d 1 []=cn d (ap TX 2 d (rr 2 d) (qa d) (qb d) (qc d)):=yi (p:=2) h rfl
  rw[e]at k
  exact zV 2 (by unfold cu;omega) d fl h.st hu _ (by omega) k
 ·rw[bx hu hb]
  have ht:2≤d.st.length:=Nat.le_of_not_lt hu
  have eB:=gl ht
  have eC:=dW (Nat.le_of_succ_le ht)
  have k:=Lu d (tA d (mx d)) (tB d (mx d)) (tC d (mx d)) h.st ht
  have e:bt d 2 [tC d (mx d),tB d (mx d)]=cn d (ap TX 3 d (rr 3 d) (qa d) (qb d) (qc d)):=by rw[eB,eC];exact(cW h hu _).symm
  rw[e]at k
  exact zV 3 (by unfold cu;omega) d fl h.st hu _ (by omega) k
 ·rw[bx hu hb]
  have ht:2≤d.st.length:=Nat.le_of_not_lt hu
  have eB:=gl ht
  have eC:=dW (Nat.le_of_succ_le ht)
  have k:=Lq d (tA d (mx d)) (tB d (mx d)) (tC d (mx d)) h.st ht
  have e:bt d 2 [tB d (mx d),tC d (mx d),tB d (mx d)]=cn d (ap TX 4 d (rr 4 d) (qa d) (qb d) (qc d)):=by rw[eB,eC];exact(cW h hu _).symm
  rw[e]at k
  exact zV 4 (by unfold cu;omega) d fl h.st hu _ (by omega) k
 ·rw[bx hu hb]
  have ht:3≤d.st.length:=Nat.le_of_not_lt hu
  have eA:=JH ht
  have eB:=gl (Nat.le_of_succ_le ht)
  have eC:=dW (d:=d) (by omega)
  have k:=Ly d (tA d (mx d)) (tB d (mx d)) (tC d (mx d)) h.st ht
  have e:bt d 3 [tB d (mx d),tC d (mx d),tA d (mx d)]=cn d (ap TX 5 d (rr 5 d) (qa d) (qb d) (qc d)):=by rw[eA,eB,eC];exact(cW h hu _).symm
  rw[e]at k
  exact zV 5 (by unfold cu;omega) d fl h.st hu _ (by omega) k
 ·rw[bx hu hb]
  have ht:2≤d.st.length:=Nat.le_of_not_lt hu
  have eB:=gl ht
  have eC:=dW (Nat.le_of_succ_le ht)
  have k:=LM d (tA d (mx d)) (tB d (mx d)) (tC d (mx d)) h.st ht
  have e:bt d 2 [tC d (mx d)]=cn d (ap TX 6 d (rr 6 d) (qa d) (qb d) (qc d)):=by rw[eC];exact(cW h hu _).symm
  rw[e]at k
  exact zV 6 (by unfold cu;omega) d fl h.st hu _ (by omega) k
 ·rw[bx hu hb]
  have ht:2≤d.st.length:=Nat.le_of_not_lt hu
  have eB:=gl ht
  have eC:=dW (Nat.le_of_succ_le ht)
  have k:=LG d (tA d (mx d)) (tB d (mx d)) (tC d (mx d)) h.st ht
  have e:bt d 2 [tC d (mx d),tB d (mx d),tC d (mx d)]=cn d (ap TX 7 d (rr 7 d) (qa d) (qb d) (qc d)):=by rw[eB,eC];exact(cW h hu _).symm
  rw[e]at k
  exact zV 7 (by unfold cu;omega) d fl h.st hu _ (by omega) k
 ·rw[bx hu hb]
  have ht:1≤d.st.length:=Nat.le_of_not_lt hu
  have eC:=dW ht
  by_cases h0:qc d=0
  ·have k:=P11.mv8z d (tA d (mx d)) (tB d (mx d)) (tC d (mx d)) h.st ht (by rw[eC];exact h0)
   rw[←P18.mv8z h hu h0 (qa d) (qb d)]at k
   exact zV 8 (by unfold cu;omega) d fl h.st hu _ (by omega) k
  ·have k:=J0 d (tA d (mx d)) (tB d (mx d)) (tC d (mx d)) h.st ht (by rw[eC];exact h0)
   have e:bt d 1 [tC d (mx d),tC d (mx d)]=cn d (ap TX 8 d (rr 8 d) (qa d) (qb d) (qc d)):=by
    rw[eC,show ap TX 8 d (rr 8 d) (qa d) (qb d) (qc d)=eK d (rr 8 d) [qc d,qc d] by simp only[ap];rw[if_neg h0]]
    exact(cW h hu _).symm
   rw[e]at k
   exact zV 8 (by unfold cu;omega) d fl h.st hu _ (by omega) k
 ·rw[bx hu hb]
  have ht:2≤d.st.length:=Nat.le_of_not_lt hu
  have eB:=gl ht
  have eC:=dW (Nat.le_of_succ_le ht)
  have k:=Lo d (tA d (mx d)) (tB d (mx d)) (tC d (mx d)) h.st ht
  have e:bt d 2 [tB d (mx d),tC d (mx d),tB d (mx d),tC d (mx d)]=cn d (ap TX 9 d (rr 9 d) (qa d) (qb d) (qc d)):=by rw[eB,eC];exact(cW h hu _).symm
  rw[e]at k
  exact zV 9 (by unfold cu;omega) d fl h.st hu _ (by omega) k
 ·rw[bx hu hb]
  have ht:2≤d.st.length:=Nat.le_of_not_lt hu
  have eB:=gl ht
  have eC:=dW (Nat.le_of_succ_le ht)
  have k:=Ki d (tA d (mx d)) (tB d (mx d)) (tC d (mx d)) h.st ht
  have e:bt d 2 []=cn d (ap TX 10 d (rr 10 d) (qa d) (qb d) (qc d)):=yi (p:=10) h rfl
  rw[e]at k
  exact zV 10 (by unfold cu;omega) d fl h.st hu _ (by omega) k
 ·rw[bx hu hb]
  have ht:0≤d.st.length:=Nat.le_of_not_lt hu
  have k:=J1 d (tA d (mx d)) (tB d (mx d)) (tC d (mx d)) h.st ht
  have e:bt d 0 [(d.st.length:Int)]=cn d (ap TX 11 d (rr 11 d) (qa d) (qb d) (qc d)):=by
   have e0:((rr 11 d).length:Int)=d.st.length:=by rw[AU rfl]
   show _=cn d (eK d (rr 11 d) [((rr 11 d).length:Int)])
   rw[e0]
   exact(cW h hu _).symm
  rw[e]at k
  exact zV 11 (by unfold cu;omega) d fl h.st hu _ (by omega) k
 ·rw[bx hu hb]
  have ht:1≤d.st.length:=Nat.le_of_not_lt hu
  have eC:=dW ht
  by_cases h0:d.bk.length=32
  ·have k:=Hs d fl (tC d (mx d)) h.st ht h.bk h0
   rw[show ap TX 12 d (rr 12 d) (qa d) (qb d) (qc d)=({d with st:=rr 12 d},-5) by simp only[ap];rw[if_pos h0],vK (by decide)]
   exact xl 12 (by unfold cu;omega) d fl h.st hu _ (by omega) k
  ·have k:=HG d fl (tC d (mx d)) h.st ht h.bk h0
   rw[eC,show bt {d with bk:=d.bk++[qc d]} 1 []=_ from yi (p:=12) h rfl]at k
   rw[show ap TX 12 d (rr 12 d) (qa d) (qb d) (qc d)=({d with st:=rr 12 d,bk:=d.bk++[qc d]},0) by simp only[ap];rw[if_neg h0],sd]
   exact xl 12 (by unfold cu;omega) d fl h.st hu _ (by omega) (by rw[eC];exact k)
 ·rw[bx hu hb]
  have ht:0≤d.st.length:=Nat.le_of_not_lt hu
  rw[JS h]
  by_cases h0:d.st.length=32
  ·rw[if_pos h0]
   exact xl 13 (by unfold cu;omega) d fl h.st hu _ (by omega) (It d fl (tC d (mx d)) h.st h.bk hf (by have:dZ 13=1:=rfl;omega) h0)
  ·rw[if_neg h0]
   exact xl 13 (by unfold cu;omega) d fl h.st hu _ (by omega) (IZ d fl (tC d (mx d)) h.st h.bk hf (by have:dZ 13=1:=rfl;omega) h0)
 ·rw[bx hu hb]
  have ht:0≤d.st.length:=Nat.le_of_not_lt hu
  have k:=JT d fl (tC d (mx d)) h.st h.bk hf (by have:dZ 14=1:=rfl;omega)
  have e:bt d 0 [d.bk.getD (d.bk.length-1) 0]=cn d (ap TX 14 d (rr 14 d) (qa d) (qb d) (qc d)):=(cW h hu _).symm
  rw[e]at k
  exact xl 14 (by unfold cu;omega) d fl h.st hu _ (by omega) k
 ·rw[bx hu hb]
  have ht:2≤d.st.length:=Nat.le_of_not_lt hu
  have eB:=gl ht
  have eC:=dW (Nat.le_of_succ_le ht)
  have k:=JJ d (tB d (mx d)) (tC d (mx d)) h.st ht tb tc
  have e:bt d 2 [(cf 1 (tB d (mx d)) (tC d (mx d))).1]=cn d (ap TX 15 d (rr 15 d) (qa d) (qb d) (qc d)):=by rw[eB,eC];exact(cW h hu _).symm
  rw[e]at k
  exact px 15 (by unfold cu;omega) d fl h.st hu _ (by omega) k
 ·rw[bx hu hb]
  have ht:2≤d.st.length:=Nat.le_of_not_lt hu
  have eB:=gl ht
  have eC:=dW (Nat.le_of_succ_le ht)
  have k:=JV d (tB d (mx d)) (tC d (mx d)) h.st ht tb tc
  have e:bt d 2 [(cf 2 (tB d (mx d)) (tC d (mx d))).1]=cn d (ap TX 16 d (rr 16 d) (qa d) (qb d) (qc d)):=by rw[eB,eC];exact(cW h hu _).symm
  rw[e]at k
  exact px 16 (by unfold cu;omega) d fl h.st hu _ (by omega) k
 ·rw[bx hu hb]
  have ht:2≤d.st.length:=Nat.le_of_not_lt hu
  have eB:=gl ht
  have eC:=dW (Nat.le_of_succ_le ht)
  have k:=Kh d (tB d (mx d)) (tC d (mx d)) h.st ht tb tc
  have e:bt d 2 [(cf 3 (tB d (mx d)) (tC d (mx d))).1]=cn d (ap TX 17 d (rr 17 d) (qa d) (qb d) (qc d)):=by rw[eB,eC];exact(cW h hu _).symm
  rw[e]at k
  exact px 17 (by unfold cu;omega) d fl h.st hu _ (by omega) k
 ·rw[bx hu hb]
  have ht:2≤d.st.length:=Nat.le_of_not_lt hu
  have eB:=gl ht
  have eC:=dW (Nat.le_of_succ_le ht)
  by_cases h0:qc d=0
  ·have k:=HP d (tB d (mx d)) (tC d (mx d)) h.st ht tb tc (by rw[eC];exact h0)
   rw[show ap TX 18 d (rr 18 d) (qa d) (qb d) (qc d)=({d with st:=rr 18 d},-10) by show(match gi 4 (qb d) (qc d)with|none=>_|some v=>_)=_;rw[show gi 4 (qb d) (qc d)=none from if_pos h0],vK (by decide)]
   exact px 18 (by unfold cu;omega) d fl h.st hu _ (by omega) k
  ·have k:=HC d (tB d (mx d)) (tC d (mx d)) h.st ht tb tc (by rw[eC];exact h0)
   have e:bt d 2 [wc (ct (tB d (mx d)) (tC d (mx d)))]=cn d (ap TX 18 d (rr 18 d) (qa d) (qb d) (qc d)):=by
    rw[eB,eC,show ap TX 18 d (rr 18 d) (qa d) (qb d) (qc d)=eK d (rr 18 d) [wc (ct (qb d) (qc d))] by show(match gi 4 (qb d) (qc d)with|none=>_|some v=>_)=_;rw[show gi 4 (qb d) (qc d)=some (wc (ct (qb d) (qc d)))from if_neg h0]]
    exact(cW h hu _).symm
   rw[e]at k
   exact px 18 (by unfold cu;omega) d fl h.st hu _ (by omega) k
 ·rw[bx hu hb]
  have ht:2≤d.st.length:=Nat.le_of_not_lt hu
  have eB:=gl ht
  have eC:=dW (Nat.le_of_succ_le ht)
  by_cases h0:qc d=0
  ·have k:=I1 d (tB d (mx d)) (tC d (mx d)) h.st ht tb tc (by rw[eC];exact h0)
   rw[show ap TX 19 d (rr 19 d) (qa d) (qb d) (qc d)=({d with st:=rr 19 d},-10) by show(match gi 5 (qb d) (qc d)with|none=>_|some v=>_)=_;rw[show gi 5 (qb d) (qc d)=none from if_pos h0],vK (by decide)]
   exact px 19 (by unfold cu;omega) d fl h.st hu _ (by omega) k
  ·have k:=H7 d (tB d (mx d)) (tC d (mx d)) h.st ht tb tc (by rw[eC];exact h0)
   have e:bt d 2 [tB d (mx d)-ct (tB d (mx d)) (tC d (mx d))*tC d (mx d)]=cn d (ap TX 19 d (rr 19 d) (qa d) (qb d) (qc d)):=by
    rw[eB,eC,show ap TX 19 d (rr 19 d) (qa d) (qb d) (qc d)=eK d (rr 19 d) [qb d-ct (qb d) (qc d)*qc d] by show(match gi 5 (qb d) (qc d)with|none=>_|some v=>_)=_;rw[show gi 5 (qb d) (qc d)=some (qb d-ct (qb d) (qc d)*qc d)from if_neg h0]]
    exact(cW h hu _).symm
   rw[e]at k
   exact px 19 (by unfold cu;omega) d fl h.st hu _ (by omega) k
 ·rw[bx hu hb]
  have ht:2≤d.st.length:=Nat.le_of_not_lt hu
  have eB:=gl ht
  have eC:=dW (Nat.le_of_succ_le ht)
  have k:=Ke d (tB d (mx d)) (tC d (mx d)) h.st ht tb tc
  have e:bt d 2 [(cf 6 (tB d (mx d)) (tC d (mx d))).1]=cn d (ap TX 20 d (rr 20 d) (qa d) (qb d) (qc d)):=by rw[eB,eC];exact(cW h hu _).symm
  rw[e]at k
  exact px 20 (by unfold cu;omega) d fl h.st hu _ (by omega) k
 ·rw[bx hu hb]
  have ht:2≤d.st.length:=Nat.le_of_not_lt hu
  have eB:=gl ht
  have eC:=dW (Nat.le_of_succ_le ht)
  have k:=JG d (tB d (mx d)) (tC d (mx d)) h.st ht tb tc
  have e:bt d 2 [(cf 7 (tB d (mx d)) (tC d (mx d))).1]=cn d (ap TX 21 d (rr 21 d) (qa d) (qb d) (qc d)):=by rw[eB,eC];exact(cW h hu _).symm
  rw[e]at k
  exact px 21 (by unfold cu;omega) d fl h.st hu _ (by omega) k
 ·rw[bx hu hb]
  have ht:2≤d.st.length:=Nat.le_of_not_lt hu
  have eB:=gl ht
  have eC:=dW (Nat.le_of_succ_le ht)
  have k:=Ku d (tB d (mx d)) (tC d (mx d)) h.st ht tb tc
  have e:bt d 2 [(cf 8 (tB d (mx d)) (tC d (mx d))).1]=cn d (ap TX 22 d (rr 22 d) (qa d) (qb d) (qc d)):=by rw[eB,eC];exact(cW h hu _).symm
  rw[e]at k
  exact px 22 (by unfold cu;omega) d fl h.st hu _ (by omega) k
 ·rw[bx hu hb]
  have ht:2≤d.st.length:=Nat.le_of_not_lt hu
  have eB:=gl ht
  have eC:=dW (Nat.le_of_succ_le ht)
  have k:=J6 d (tB d (mx d)) (tC d (mx d)) h.st ht tb tc
  have e:bt d 2 [(cf 9 (tB d (mx d)) (tC d (mx d))).1]=cn d (ap TX 23 d (rr 23 d) (qa d) (qb d) (qc d)):=by rw[eB,eC];exact(cW h hu _).symm
  rw[e]at k
  exact px 23 (by unfold cu;omega) d fl h.st hu _ (by omega) k
 ·rw[bx hu hb]
  have ht:2≤d.st.length:=Nat.le_of_not_lt hu
  have eB:=gl ht
  have eC:=dW (Nat.le_of_succ_le ht)
  have k:=KI d (tB d (mx d)) (tC d (mx d)) h.st ht tb tc
  have e:bt d 2 [(cf 10 (tB d (mx d)) (tC d (mx d))).1]=cn d (ap TX 24 d (rr 24 d) (qa d) (qb d) (qc d)):=by rw[eB,eC];exact(cW h hu _).symm
  rw[e]at k
  exact px 24 (by unfold cu;omega) d fl h.st hu _ (by omega) k
 ·rw[bx hu hb]
  have ht:1≤d.st.length:=Nat.le_of_not_lt hu
  have eC:=dW ht
  have k:=Kz d (tB d (mx d)) (tC d (mx d)) h.st ht tb tc
  have e:bt d 1 [aP 25 (tB d (mx d)) (tC d (mx d))]=cn d (ap TX 25 d (rr 25 d) (qa d) (qb d) (qc d)):=by rw[eC];exact(cW h hu _).symm
  rw[e]at k
  exact px 25 (by unfold cu;omega) d fl h.st hu _ (by omega) k
 ·rw[bx hu hb]
  have ht:1≤d.st.length:=Nat.le_of_not_lt hu
  have eC:=dW ht
  have k:=K0 d (tB d (mx d)) (tC d (mx d)) h.st ht tb tc
  have e:bt d 1 [aP 26 (tB d (mx d)) (tC d (mx d))]=cn d (ap TX 26 d (rr 26 d) (qa d) (qb d) (qc d)):=by rw[eC];exact(cW h hu _).symm
  rw[e]at k
  exact px 26 (by unfold cu;omega) d fl h.st hu _ (by omega) k
 ·rw[bx hu hb]
  have ht:1≤d.st.length:=Nat.le_of_not_lt hu
  have eC:=dW ht
  have k:=KH d (tB d (mx d)) (tC d (mx d)) h.st ht tb tc
  have e:bt d 1 [aP 27 (tB d (mx d)) (tC d (mx d))]=cn d (ap TX 27 d (rr 27 d) (qa d) (qb d) (qc d)):=by rw[eC];exact(cW h hu _).symm
  rw[e]at k
  exact px 27 (by unfold cu;omega) d fl h.st hu _ (by omega) k
 ·rw[bx hu hb]
  have ht:1≤d.st.length:=Nat.le_of_not_lt hu
  have eC:=dW ht
  have k:=Jq d (tB d (mx d)) (tC d (mx d)) h.st ht tb tc
  have e:bt d 1 [aP 28 (tB d (mx d)) (tC d (mx d))]=cn d (ap TX 28 d (rr 28 d) (qa d) (qb d) (qc d)):=by rw[eC];exact(cW h hu _).symm
  rw[e]at k
  exact px 28 (by unfold cu;omega) d fl h.st hu _ (by omega) k
 ·rw[bx hu hb]
  have ht:1≤d.st.length:=Nat.le_of_not_lt hu
  have eC:=dW ht
  have k:=JB d (tB d (mx d)) (tC d (mx d)) h.st ht tb tc
  have e:bt d 1 [aP 29 (tB d (mx d)) (tC d (mx d))]=cn d (ap TX 29 d (rr 29 d) (qa d) (qb d) (qc d)):=by rw[eC];exact(cW h hu _).symm
  rw[e]at k
  exact px 29 (by unfold cu;omega) d fl h.st hu _ (by omega) k
 ·rw[bx hu hb]
  have ht:2≤d.st.length:=Nat.le_of_not_lt hu
  have eB:=gl ht
  have eC:=dW (Nat.le_of_succ_le ht)
  have k:=KY d (tB d (mx d)) (tC d (mx d)) h.st ht tb tc
  have e:bt d 2 [aP 30 (tB d (mx d)) (tC d (mx d))]=cn d (ap TX 30 d (rr 30 d) (qa d) (qb d) (qc d)):=by rw[eB,eC];exact(cW h hu _).symm
  rw[e]at k
  exact px 30 (by unfold cu;omega) d fl h.st hu _ (by omega) k
 ·rw[bx hu hb]
  have ht:2≤d.st.length:=Nat.le_of_not_lt hu
  have eB:=gl ht
  have eC:=dW (Nat.le_of_succ_le ht)
  have k:=KG d (tB d (mx d)) (tC d (mx d)) h.st ht tb tc
  have e:bt d 2 [aP 31 (tB d (mx d)) (tC d (mx d))]=cn d (ap TX 31 d (rr 31 d) (qa d) (qb d) (qc d)):=by rw[eB,eC];exact(cW h hu _).symm
  rw[e]at k
  exact px 31 (by unfold cu;omega) d fl h.st hu _ (by omega) k
 ·rw[bx hu hb]
  have ht:2≤d.st.length:=Nat.le_of_not_lt hu
  have eB:=gl ht
  have eC:=dW (Nat.le_of_succ_le ht)
  have k:=KS d (tB d (mx d)) (tC d (mx d)) h.st ht tb tc
  have e:bt d 2 [aP 32 (tB d (mx d)) (tC d (mx d))]=cn d (ap TX 32 d (rr 32 d) (qa d) (qb d) (qc d)):=by rw[eB,eC];exact(cW h hu _).symm
  rw[e]at k
  exact px 32 (by unfold cu;omega) d fl h.st hu _ (by omega) k
 ·rw[bx hu hb]
  have ht:2≤d.st.length:=Nat.le_of_not_lt hu
  have eB:=gl ht
  have eC:=dW (Nat.le_of_succ_le ht)
  have k:=J5 d (tB d (mx d)) (tC d (mx d)) h.st ht tb tc
  have e:bt d 2 [aP 33 (tB d (mx d)) (tC d (mx d))]=cn d (ap TX 33 d (rr 33 d) (qa d) (qb d) (qc d)):=by rw[eB,eC];exact(cW h hu _).symm
  rw[e]at k
  exact px 33 (by unfold cu;omega) d fl h.st hu _ (by omega) k
 ·rw[bx hu hb]
  have ht:2≤d.st.length:=Nat.le_of_not_lt hu
  have eB:=gl ht
  have eC:=dW (Nat.le_of_succ_le ht)
  have k:=KR d (tB d (mx d)) (tC d (mx d)) h.st ht tb tc
  have e:bt d 2 [aP 34 (tB d (mx d)) (tC d (mx d))]=cn d (ap TX 34 d (rr 34 d) (qa d) (qb d) (qc d)):=by rw[eB,eC];exact(cW h hu _).symm
  rw[e]at k
  exact px 34 (by unfold cu;omega) d fl h.st hu _ (by omega) k
 ·rw[bx hu hb]
  have ht:2≤d.st.length:=Nat.le_of_not_lt hu
  have eB:=gl ht
  have eC:=dW (Nat.le_of_succ_le ht)
  have k:=Ld d (tB d (mx d)) (tC d (mx d)) h.st ht tb tc
  have e:bt d 2 [aP 35 (tB d (mx d)) (tC d (mx d))]=cn d (ap TX 35 d (rr 35 d) (qa d) (qb d) (qc d)):=by rw[eB,eC];exact(cW h hu _).symm
  rw[e]at k
  exact px 35 (by unfold cu;omega) d fl h.st hu _ (by omega) k
 ·rw[bx hu hb]
  have ht:2≤d.st.length:=Nat.le_of_not_lt hu
  have eB:=gl ht
  have eC:=dW (Nat.le_of_succ_le ht)
  have k:=Kg d (tB d (mx d)) (tC d (mx d)) h.st ht tb tc
  have e:bt d 2 [aP 36 (tB d (mx d)) (tC d (mx d))]=cn d (ap TX 36 d (rr 36 d) (qa d) (qb d) (qc d)):=by rw[eB,eC];exact(cW h hu _).symm
  rw[e]at k
  exact px 36 (by unfold cu;omega) d fl h.st hu _ (by omega) k
 ·rw[bx hu hb]
  have ht:1≤d.st.length:=Nat.le_of_not_lt hu
  have eC:=dW ht
  have k:=JL d (tB d (mx d)) (tC d (mx d)) h.st ht tb tc
  have e:bt d 1 [aP 37 (tB d (mx d)) (tC d (mx d))]=cn d (ap TX 37 d (rr 37 d) (qa d) (qb d) (qc d)):=by rw[eC];exact(cW h hu _).symm
  rw[e]at k
  exact px 37 (by unfold cu;omega) d fl h.st hu _ (by omega) k
 ·rw[bx hu hb]
  have ht:1≤d.st.length:=Nat.le_of_not_lt hu
  have eC:=dW ht
  have k:=Le d (tB d (mx d)) (tC d (mx d)) h.st ht tb tc
  have e:bt d 1 [aP 38 (tB d (mx d)) (tC d (mx d))]=cn d (ap TX 38 d (rr 38 d) (qa d) (qb d) (qc d)):=by rw[eC];exact(cW h hu _).symm
  rw[e]at k
  exact px 38 (by unfold cu;omega) d fl h.st hu _ (by omega) k
 ·rw[bx hu hb]
  have ht:1≤d.st.length:=Nat.le_of_not_lt hu
  have eC:=dW ht
  rw[JC h hu]
  rw[←eC]
  cases hk:bX d (tC d (mx d))with
  |none=>exact DS 39 (by unfold cu;omega) d fl h.st hu _ (by omega) (Gy 39 (by omega) d _ _ (iJ h) tc hk)
  |some k=>exact DS 39 (by unfold cu;omega) d fl h.st hu _ (by omega) (JK d _ _ (iJ h) ht tc k hk)
 ·rw[bx hu hb]
  have ht:2≤d.st.length:=Nat.le_of_not_lt hu
  have eB:=gl ht
  have eC:=dW (Nat.le_of_succ_le ht)
  rw[JY h]
  rw[←eB,←eC]
  cases hk:bX d (tC d (mx d))with
  |none=>exact DS 40 (by unfold cu;omega) d fl h.st hu _ (by omega) (Gy 40 (by omega) d _ _ (iJ h) tc hk)
  |some k=>exact DS 40 (by unfold cu;omega) d fl h.st hu _ (by omega) (KV d _ _ (iJ h) ht tb tc k hk)
 ·rw[bx hu hb]
  have ht:2≤d.st.length:=Nat.le_of_not_lt hu
  have eB:=gl ht
  have eC:=dW (Nat.le_of_succ_le ht)
  rw[La h]
  rw[←eB,←eC]
  cases hk:bX d (tC d (mx d))with
  |none=>exact DS 41 (by unfold cu;omega) d fl h.st hu _ (by omega) (Gy 41 (by omega) d _ _ (iJ h) tc hk)
  |some k=>exact DS 41 (by unfold cu;omega) d fl h.st hu _ (by omega) (Kl d _ _ (iJ h) ht tb tc k hk)
 ·rw[bx hu hb]
  have ht:0≤d.st.length:=Nat.le_of_not_lt hu
  have k:=JW d (tB d (mx d)) (tC d (mx d)) (iJ h)
  have e:bt d 0 [4096+4*d.he]=cn d (ap TX 42 d (rr 42 d) (qa d) (qb d) (qc d)):=(cW h hu _).symm
  rw[e]at k
  exact DS 42 (by unfold cu;omega) d fl h.st hu _ (by omega) k
 ·rw[bx hu hb]
  have ht:1≤d.st.length:=Nat.le_of_not_lt hu
  have eC:=dW ht
  rw[KW h,←eC]
  exact DS 43 (by unfold cu;omega) d fl h.st hu _ (by omega) (Kd d _ _ (iJ h) ht tc)
 ·rw[bx hu hb]
  have ht:1≤d.st.length:=Nat.le_of_not_lt hu
  have eC:=dW ht
  rw[IP h,←eC]
  exact DS 44 (by unfold cu;omega) d fl h.st hu _ (by omega) (Lc d _ _ (iJ h) ht tc)
 ·rw[bx hu hb]
  have ht:1≤d.st.length:=Nat.le_of_not_lt hu
  have eC:=dW ht
  rw[Dw (by omega) h,←eC]
  exact G3 45 (by unfold cu;omega) d fl h.st hu _ (by omega) (sy 45 (by omega) d _ (iJ h) (Nat.le_of_not_lt hu) tc)
 ·rw[bx hu hb]
  have ht:1≤d.st.length:=Nat.le_of_not_lt hu
  have eC:=dW ht
  rw[Dw (by omega) h,←eC]
  exact G3 46 (by unfold cu;omega) d fl h.st hu _ (by omega) (sy 46 (by omega) d _ (iJ h) (Nat.le_of_not_lt hu) tc)
 ·rw[bx hu hb]
  have ht:0≤d.st.length:=Nat.le_of_not_lt hu
  rw[Dw (by omega) h,show vv 47 d (qc d)=vv 47 d (tC d (mx d))from rfl]
  exact G3 47 (by unfold cu;omega) d fl h.st hu _ (by omega) (sy 47 (by omega) d _ (iJ h) (Nat.le_of_not_lt hu) tc)
 ·rw[bx hu hb]
  have ht:0≤d.st.length:=Nat.le_of_not_lt hu
  rw[Dw (by omega) h,show vv 48 d (qc d)=vv 48 d (tC d (mx d))from rfl]
  exact G3 48 (by unfold cu;omega) d fl h.st hu _ (by omega) (sy 48 (by omega) d _ (iJ h) (Nat.le_of_not_lt hu) tc)
 ·rw[bx hu hb]
  have ht:0≤d.st.length:=Nat.le_of_not_lt hu
  have k:=J3 d (tC d (mx d))
  have e:(({d with ba:=10},0):Dat × Int)=cn d (ap TX 49 d (rr 49 d) (qa d) (qb d) (qc d)):=by
   show _=cn d ({d with st:=rr 49 d,ba:=10},0)
   rw[AU rfl,sd]
  rw[e]at k
  exact G3 49 (by unfold cu;omega) d fl h.st hu _ (by omega) k
 ·rw[bx hu hb]
  have ht:0≤d.st.length:=Nat.le_of_not_lt hu
  have k:=Jt d (tC d (mx d))
  have e:(({d with ba:=16},0):Dat × Int)=cn d (ap TX 50 d (rr 50 d) (qa d) (qb d) (qc d)):=by
   show _=cn d ({d with st:=rr 50 d,ba:=16},0)
   rw[AU rfl,sd]
  rw[e]at k
  exact G3 50 (by unfold cu;omega) d fl h.st hu _ (by omega) k
 ·rw[bx hu hb]
  have ht:0≤d.st.length:=Nat.le_of_not_lt hu
  have k:=Kc d fl (tC d (mx d)) h.st h.bk hf (by have:dZ 51=1:=rfl;omega)
  have e:bt d 0 [d.bk.getD (d.bk.length-1) 0]=cn d (ap TX 51 d (rr 51 d) (qa d) (qb d) (qc d)):=(cW h hu _).symm
  rw[e]at k
  exact DZ 51 (by unfold cu;omega) d fl h.st hu _ (by omega) k
 ·rw[bx hu hb]
  have ht:0≤d.st.length:=Nat.le_of_not_lt hu
  have k:=K7 d fl (tC d (mx d)) h.st h.bk hf (by have:dZ 52=2:=rfl;omega)
  have e:(({d with bk:=d.bk.take (d.bk.length-2)},0):Dat × Int)=cn d (ap TX 52 d (rr 52 d) (qa d) (qb d) (qc d)):=by
   show _=cn d ({d with st:=rr 52 d,bk:=d.bk.take (d.bk.length-2)},0)
   rw[AU rfl,sd]
  rw[e]at k
  exact DZ 52 (by unfold cu;omega) d fl h.st hu _ (by omega) k
instance:CC 101:=⟨_,@c101⟩
end P19

/- A prim leaves valid data; plain. -/
open Go Go.Abs Go.Proofs V1 H1 F1 F2 T1 T2 T3 P1 P2 P3 P4 P5 P6 P7 P8 P9 P10 P11 P12 P13 P14 P15 P16 P17 P18 P19
namespace P20
def Ce(n:Int):Prop:= -2147483648≤n∧n≤2147483647
theorem xK{n:Int}:cell n=true↔Ce n:=by simp[cell,bm,Ce]
theorem iy{l:List Int}:aN l=true↔ ∀n∈l,Ce n:=by
 unfold aN
 rw[List.all_eq_true]
 exact⟨fun h n hn=>xK.1 (h n hn),fun h n hn=>xK.2 (h n hn)⟩
theorem nH{l m:List Int}(h:aN l=true)(k:aN m=true):aN (l++m)=true:=by simp[aN]at*;exact⟨h,k⟩
theorem nB{l:List Int}{n:Nat}(h:aN l=true):aN (l.take n)=true:=iy.2 fun x hx=>iy.1 h x (List.mem_of_mem_take hx)
theorem Ao{l:List Int}{n:Nat}(h:aN l=true):aN (l.drop n)=true:=iy.2 fun x hx=>iy.1 h x (List.mem_of_mem_drop hx)
theorem xQ{l:List Int}{n:Nat}{v:Int}(h:aN l=true)(hv:Ce v):aN (l.set n v)=true:=iy.2 fun x hx=>(List.mem_or_eq_of_mem_set hx).elim (iy.1 h x) (fun e=>e▸hv)
theorem jS{l:List Int}{n:Nat}(h:aN l=true):Ce (l.getD n 0):=gG h n
theorem jz{a:Int}(h:Ce a):aN [a]=true:=iy.2 fun x hx=>by simp at hx;exact hx▸h
theorem eg{a:Int}{l:List Int}(h:Ce a)(k:aN l=true):aN (a::l)=true:=nH (jz h) k
theorem lp(n:Int):Ce (wc n):=xU n
theorem xm(x:BitVec 64):IntKind.i64.wrap (x.toNat:Int)=x.toInt:=by
 have e:IntKind.i64.wrap (x.toNat:Int)=if(true&&decide ((x.toNat:Int)%2 ^ 64≥2 ^ (64-1)))=true then(x.toNat:Int)%2 ^ 64-2 ^ 64 else(x.toNat:Int)%2 ^ 64:=rfl
 have h:=x.isLt
 rw[e,BitVec.toInt_eq_toNat_cond]
 have e1:(2:Int) ^ 64=18446744073709551616:=by decide
 have e2:(2:Int) ^ (64-1)=9223372036854775808:=by decide
 have e3:(2:Nat) ^ 64=18446744073709551616:=by decide
 simp only[e1,e2,e3,Bool.true_and,decide_eq_true_eq]at*
 split<;>split<;>omega
theorem sK{a:Int}(h:Ce a):BitVec.ofInt 64 a=(BitVec.ofInt 32 a).signExtend 64:=by
 apply BitVec.eq_of_toInt_eq
 rw[BitVec.toInt_signExtend_of_le (by omega),BitVec.toInt_ofInt,BitVec.toInt_ofInt]
 unfold Ce at h
 rw[Int.bmod_eq_of_le (by omega) (by omega),Int.bmod_eq_of_le (by omega) (by omega)]
theorem BS(x:BitVec 32):Ce (IntKind.i64.wrap ((x.signExtend 64).toNat:Int)):=by
 rw[xm,BitVec.toInt_signExtend_of_le (by omega)]
 have h1:=BitVec.le_two_mul_toInt (x:=x)
 have h2:=BitVec.two_mul_toInt_lt (x:=x)
 have e3:(2:Int) ^ 32=4294967296:=by decide
 rw[e3]at h1 h2
 unfold Ce
 omega
theorem Gl{a b:Int}(h:Ce a)(k:Ce b):Ce (me (· &&& ·) a b):=by
 unfold me;rw[sK h,sK k]
 show Ce (IntKind.i64.wrap (((BitVec.signExtend 64 _&&&BitVec.signExtend 64 _).toNat:Nat):Int))
 rw[←BitVec.signExtend_and];exact BS _
theorem H9{a b:Int}(h:Ce a)(k:Ce b):Ce (me (· ||| ·) a b):=by
 unfold me;rw[sK h,sK k]
 show Ce (IntKind.i64.wrap (((BitVec.signExtend 64 _|||BitVec.signExtend 64 _).toNat:Nat):Int))
 rw[←BitVec.signExtend_or];exact BS _
theorem F3{a b:Int}(h:Ce a)(k:Ce b):Ce (me (· ^^^ ·) a b):=by
 unfold me;rw[sK h,sK k]
 show Ce (IntKind.i64.wrap (((BitVec.signExtend 64 _^^^BitVec.signExtend 64 _).toNat:Nat):Int))
 rw[←BitVec.signExtend_xor];exact BS _
theorem Gj{a b:Int}(h:Ce a)(k:Ce b)(h0: ¬b=0):Ce (a-ct a b*b):=by
 have hs:=sF (a:=a) (b:=b)
 have hl:(a.tmod b).natAbs<b.natAbs:=by rw[Int.natAbs_tmod];exact Nat.mod_lt _ (by omega)
 unfold Ce at*
 by_cases hc:a.tmod b≠0∧((a<0)≠(b<0))
 ·rw[←tP hc]
  have hne: ¬((a<0)↔(b<0)):=fun e=>hc.2 (propext e)
  omega
 ·rw[←nb hc]
  omega
theorem FK{k:Nat}{a b v:Int}(h:Ce a)(hk:Ce b)(e:gi k a b=some v):Ce v:=by
 unfold gi at e
 split at e
 ·injection e with e;exact e▸lp _
 ·injection e with e;exact e▸lp _
 ·injection e with e;exact e▸lp _
 ·split at e
  ·cases e
  ·injection e with e;exact e▸lp _
 ·split at e
  ·cases e
  ·injection e with e;exact e▸Gj h hk (by assumption)
 ·injection e with e;exact e▸Gl h hk
 ·injection e with e;exact e▸H9 h hk
 ·injection e with e;exact e▸F3 h hk
 ·injection e with e
  subst e
  split
  ·exact lp _
  ·simp[Ce]
 ·injection e with e
  subst e
  split
  ·exact lp _
  ·simp[Ce]
theorem C1(b:Bool):Ce (ku b):=by cases b<;>simp[ku,Ce]
theorem Dc{p:Nat}{b c:Int}(h:Ce b)(k:Ce c):Ce (aP p b c):=by
 unfold aP
 split
 ·exact lp _
 ·exact lp _
 ·unfold Ce at*;omega
 ·exact lp _
 ·exact lp _
 ·unfold Ce at*;omega
 ·unfold Ce at*;omega
 all_goals exact C1 _
theorem JA{d:Dat}{r:List Int}(h:DataOk d)(hr:r.length≤32)(k:aN r=true):DataOk {d with st:=r}:=⟨hr,h.bk,h.ce,k,h.cbk,h.cce,h.he,h.ba,h.ou⟩
theorem Ju{d:Dat}{r:List Int}(h:DataOk d)(hr:r.length≤32)(k:aN r=true):DataOk {d with bk:=r}:=⟨h.st,hr,h.ce,h.cst,k,h.cce,h.he,h.ba,h.ou⟩
theorem Lj{d:Dat}{r:List Int}(h:DataOk d)(hr:r.length=32)(k:aN r=true):DataOk {d with ce:=r}:=⟨h.st,h.bk,hr,h.cst,h.cbk,k,h.he,h.ba,h.ou⟩
theorem eN{d:Dat}{r l:List Int}(h:DataOk d)(hr:r.length≤32)(k:aN r=true)(hl:aN l=true):DataOk (eK d r l).1:=by
 unfold eK
 by_cases h0:32<r.length+l.length
 ·rw[if_pos h0];exact JA h hr k
 ·rw[if_neg h0];exact JA h (by simp;omega) (nH k hl)
theorem uS{d:Dat}{n:Int}(h:DataOk d):DataOk (aM d n).1:=by
 by_cases h0:n.tmod 4=0∧bm (d.he+n.tdiv 4) 0 32=true
 ·rw[lE h0.1 h0.2]
  have h2:=aQ h0.2
  have hh:=h.he
  have hl:(qX d.ce d.he (d.he+n.tdiv 4)).length=32:=by
   rw[ll hh.1 h2.1,kw]
   ·exact h.ce
   ·have:=h.ce;omega
  refine⟨h.st,h.bk,hl,h.cst,h.cbk,?_,h2,h.ba,h.ou⟩
  unfold qX
  refine nH (nH (nB h.cce) (iy.2 fun x hx=> ?_)) (Ao h.cce)
  rw[(List.mem_replicate.1 hx).2];simp[Ce]
 ·rw[it (if h1:n.tmod 4=0 then .inr (by simpa[h1]using h0)else .inl h1)]
  exact h
theorem vM{d:Dat}{a n:Int}(h:DataOk d)(hn:Ce n):DataOk (bZ d a n).1:=by
 unfold bZ
 split
 ·exact h
 ·exact Lj h (by simp[h.ce]) (xQ h.cce hn)
theorem tw{d:Dat}{t:List UInt8}(h:DataOk d):DataOk (cC d t).1:=by
 unfold cC
 by_cases h0:300<d.ou.length+t.length
 ·rw[if_pos h0];exact h
 ·rw[if_neg h0];exact⟨h.st,h.bk,h.ce,h.cst,h.cbk,h.cce,h.he,h.ba,by simp;omega⟩
theorem Bw{txt:Int→Int→List UInt8}{p:Nat}{d:Dat}{r:List Int}{a b c:Int}(h:DataOk d)(hr:r.length≤32)(k:aN r=true)(ha:Ce a)(hb:Ce b)(hc:Ce c):DataOk (ap txt p d r a b c).1:=by
 have hn:aN []=true:=rfl
 have hw:=JA h hr k
 have hl:Ce (r.length:Int):=by unfold Ce;omega
 have hq:Ce (4096+4*d.he):=by have:=h.he;unfold Ce;omega
 unfold ap
 split
 ·exact eN h hr k (eg hc (jz hc))
 ·exact hw
 ·exact eN h hr k (eg hc (jz hb))
 ·exact eN h hr k (eg hb (eg hc (jz hb)))
 ·exact eN h hr k (eg hb (eg hc (jz ha)))
 ·exact eN h hr k (jz hc)
 ·exact eN h hr k (eg hc (eg hb (jz hc)))
 ·split
  ·exact eN h hr k (jz (by simp[Ce]))
  ·exact eN h hr k (eg hc (jz hc))
 ·exact eN h hr k (eg hb (eg hc (eg hb (jz hc))))
 ·exact hw
 ·exact eN h hr k (jz hl)
 ·split
  ·exact hw
  ·exact Ju hw (by have:=h.bk;simp;omega) (nH h.cbk (jz hc))
 ·exact eN (Ju h (by have:=h.bk;simp;omega) (nB h.cbk)) hr k (jz (jS h.cbk))
 ·exact eN h hr k (jz (jS h.cbk))
 ·split
  ·exact hw
  ·exact eN h hr k (jz (jS h.cce))
 ·exact vM hw hb
 ·split
  ·exact hw
  ·exact Lj hw (by simp[h.ce]) (xQ h.cce (lp _))
 ·exact eN h hr k (jz hq)
 ·exact uS hw
 ·have h4:=uS (n:=4) hw
  generalize aM {d with st:=r} 4=x at h4
  obtain⟨x,th⟩:=x
  show DataOk (if th≠0 then(x,th)else bZ x (4096+4*d.he) c).1
  split
  ·exact h4
  ·exact vM h4 hc
 ·exact tw hw
 ·exact tw hw
 ·exact tw hw
 ·exact tw hw
 ·exact⟨hr,h.bk,h.ce,k,h.cbk,h.cce,h.he,by simp,h.ou⟩
 ·exact⟨hr,h.bk,h.ce,k,h.cbk,h.cce,h.he,by simp,h.ou⟩
 ·exact eN h hr k (jz (jS h.cbk))
 ·exact Ju hw (by have:=h.bk;simp;omega) (nB h.cbk)
 ·split
  ·split
   ·exact hw
   ·exact eN h hr k (jz (FK hb hc (by assumption)))
  ·exact eN h hr k (jz (Dc hb hc))
theorem DR{txt:Int→Int→List UInt8}{p:Nat}{fl:Int}{d:Dat}(h:DataOk d):DataOk (eE txt p fl d).1:=by
 have hI:DataOk (ew txt p fl d).1:=by
  unfold ew
  by_cases h1:d.st.length<bK p
  ·rw[if_pos h1];exact h
  ·rw[if_neg h1]
   by_cases h2:(d.bk.length:Int)-fl<dZ p
   ·rw[if_pos h2];exact h
   ·rw[if_neg h2]
    exact Bw h (by have:=h.st;simp;omega) (nB h.cst) (jS h.cst) (jS h.cst) (jS h.cst)
 unfold eE
 by_cases h0:(ew txt p fl d).2=0
 ·rw[if_pos h0];exact hI
 ·rw[if_neg h0];exact h
end P20

open Go Go.Abs Go.Proofs V1 P20
namespace N1
theorem qY(d:Dat)(r l:List Int):(eK d r l).1.bk=d.bk:=by unfold eK;split<;>rfl
theorem AX(d:Dat)(t:List UInt8):(cC d t).1.bk=d.bk:=by unfold cC;split<;>rfl
theorem rl(d:Dat)(n:Int):(aM d n).1.bk=d.bk:=by unfold aM;split<;>rfl
theorem qz(d:Dat)(a n:Int):(bZ d a n).1.bk=d.bk:=by unfold bZ;split<;>rfl
theorem Bo(txt:Int→Int→List UInt8)(p:Nat)(d:Dat)(r:List Int)(a b c:Int):
  d.bk.length≤(ap txt p d r a b c).1.bk.length+dZ p:=by
 unfold ap
 split
 all_goals first
  |(simp only[qY,AX,qz,rl];omega)
  |(split<;>simp only[qY,AX,qz,rl,List.length_append]<;>omega)
  |(simp only[qY,dZ,List.length_take];omega)
  |skip
 ·have e:=rl {d with st:=r} 4
  split
  rename_i x th he
  have e2:x.bk=d.bk:=by rw[he]at e;exact e
  split
  ·simp only[e2];omega
  ·simp only[qz,e2];omega
 ·split
  ·split<;>simp only[qY]<;>omega
  ·simp only[qY];omega
theorem D8{txt:Int→Int→List UInt8}{p:Nat}{fl:Int}{d:Dat}(hf:fl≤d.bk.length):fl≤((eE txt p fl d).1.bk.length:Int):=by
 unfold eE
 split
 ·unfold ew
  split
  ·exact hf
  ·split
   ·exact hf
   ·have:=Bo txt p d (d.st.take (d.st.length-bK p)) (d.st.getD (d.st.length-3) 0) (d.st.getD (d.st.length-2) 0) (d.st.getD (d.st.length-1) 0)
    omega
 ·exact hf
theorem sU(d:Dat)(r l:List Int):cell (eK d r l).2=true:=by unfold eK;split<;>rfl
theorem Fd(d:Dat)(t:List UInt8):cell (cC d t).2=true:=by unfold cC;split<;>rfl
theorem uT(d:Dat)(n:Int):cell (aM d n).2=true:=by unfold aM;split<;>rfl
theorem uW(d:Dat)(a n:Int):cell (bZ d a n).2=true:=by unfold bZ;split<;>rfl
theorem Bj(txt:Int→Int→List UInt8)(p:Nat)(d:Dat)(r:List Int)(a b c:Int):cell (ap txt p d r a b c).2=true:=by
 unfold ap
 split
 all_goals first
  |(simp only[sU,Fd,uT,uW];done)
  |(split<;>first|(simp only[sU];done)|(show cell (-9)=true;rfl)|(show cell (-5)=true;rfl)|(show cell 0=true;rfl))
  |(show cell 0=true;rfl)
  |skip
 ·have e:=uT {d with st:=r} 4
  split
  rename_i x th he
  rw[he]at e
  split
  ·exact e
  ·exact uW ..
 ·split
  ·split
   ·rfl
   ·exact sU ..
  ·exact sU ..
theorem Dn(txt:Int→Int→List UInt8)(p:Nat)(fl:Int)(d:Dat):cell (eE txt p fl d).2=true:=by
 have hI:cell (ew txt p fl d).2=true:=by
  unfold ew
  split
  ·rfl
  ·split
   ·rfl
   ·exact Bj ..
 unfold eE
 split<;>exact hI
theorem CS(h:Hst)(d:Dat){c:Nat}(hc:c<4):(bC h d c).2.1.bk=d.bk∧cell (bC h d c).2.2=true:=by
 have hB:(mm h d c).2.1.bk=d.bk∧cell (mm h d c).2.2=true:=by
  have hcv:c=0∨c=1∨c=2∨c=3:=by omega
  rcases hcv with rfl|rfl|rfl|rfl<;>simp only[mm]<;>(repeat' split)<;>exact⟨rfl,rfl⟩
 have hI:(cA h d c).2.1.bk=d.bk∧cell (cA h d c).2.2=true:=by
  unfold cA
  split
  ·exact⟨rfl,rfl⟩
  ·split
   ·exact⟨rfl,rfl⟩
   ·exact hB
 unfold bC
 split
 ·exact hI
 ·exact⟨rfl,hI.2⟩
theorem Eg{h:Hst}{d:Dat}{c:Nat}(hc:c<4)(hh:HostOk h)(hd:DataOk d):HostOk (bC h d c).1∧DataOk (bC h d c).2.1:=by
 by_cases hg:h.gr.getD c false=true
 ·exact⟨(uR hc hh hd hg).1.ho,(uR hc hh hd hg).1.da⟩
 ·rw[Cw (by simpa using hg)]
  exact⟨hh,hd⟩
abbrev Ok(r:Mch × Int):Prop:=MI r.1∧cell r.2=true
theorem CH{m:Mch}(h:MI m):cell (bu m.da)=true:=fm h.da.cst _
theorem zj{m:Mch}(h:MI m):cell (m.co.getD m.ip.toNat 0)=true:=fm h.cc _
theorem fV{m:Mch}(h:MI m):MI (cP m):=
 h.setD ⟨by have:=h.da.st;simp only[List.length_take];omega,h.da.bk,h.da.ce,fp h.da.cst _,h.da.cbk,h.da.cce,h.da.he,h.da.ba,h.da.ou⟩ h.floor.2
theorem jF{m:Mch}(h:MI m){n:Int}(hn:cell n=true):Ok (bn m n):=by
 unfold bn fD
 split
 ·exact⟨h,rfl⟩
 ·refine⟨h.setD ⟨?_,h.da.bk,h.da.ce,gL h.da.cst (jg hn),h.da.cbk,h.da.cce,h.da.he,h.da.ba,h.da.ou⟩ h.floor.2,rfl⟩
  have:=h.da.st
  simp only[List.length_append,List.length_singleton]
  omega
theorem tD{m:Mch}(h:MI m){x:Int}(hx:cell x=true):Ok (dV m x):=by
 unfold dV
 split
 ·exact⟨h,rfl⟩
 ·refine⟨h.setIp ?_,rfl⟩
  simp[cell,bm]at hx
  omega
theorem yR{m:Mch}(h:MI m)(s:Int){x:Int}(hx:cell x=true):Ok (dm m s x):=by
 unfold dm
 split
 ·exact⟨h,rfl⟩
 ·split
  ·refine⟨h.setD ⟨h.da.st,by have:=h.da.bk;simp only[List.length_take];omega,h.da.ce,h.da.cst,fp h.da.cbk _,h.da.cce,h.da.he,h.da.ba,h.da.ou⟩ ?_,rfl⟩
   simp only[List.length_take]
   omega
  ·refine tD (h.setD (d:={m.da with bk:=m.da.bk.set (m.da.bk.length-1) (wc (kL m+s))}) ⟨h.da.st,by have:=h.da.bk;simp only[List.length_set];omega,h.da.ce,h.da.cst,rX h.da.cbk (Lm _) _,h.da.cce,h.da.he,h.da.ba,h.da.ou⟩ ?_) hx
   simp only[List.length_set]
   exact h.floor.2
theorem Iq{m:Mch}(h:MI m):Ok (we m):=by
 unfold we
 split
 ·exact⟨h,rfl⟩
 ·split
  ·exact⟨h,rfl⟩
  ·have h1:=h.da.st
   have h2:=h.floor.2
   refine⟨h.setD ⟨by simp only[List.length_take];omega,by simp only[List.length_append,List.length_drop];omega,h.da.ce,fp h.da.cst _,gL h.da.cbk (qy h.da.cst _),h.da.cce,h.da.he,h.da.ba,h.da.ou⟩ ?_,rfl⟩
   simp only[List.length_append]
   omega
theorem A2{m:Mch}(h:MI m)(b:Bool)(k:Int):Ok (fO b m k):=by
 unfold fO
 split
 ·exact Iq h
 ·split
  ·exact⟨h,rfl⟩
  ·have hx:=zj h
   have hn:MI (nextM m):=h.nextM (by omega)
   unfold dv
   repeat' split
   ·exact jF hn hx
   ·exact tD hn hx
   ·exact yR hn _ hx
   ·exact⟨hn,rfl⟩
   ·exact⟨h,rfl⟩
   ·exact yR (fV hn) _ hx
   ·exact⟨fV hn,rfl⟩
   ·exact tD (fV hn) hx
theorem DK{m:Mch}(h:MI m):Ok (sf m):=by
 unfold sf
 repeat' split
 all_goals first|exact⟨h,rfl⟩|exact⟨h.dropC (by assumption),rfl⟩
theorem Dh{ex:Mch→Int→Mch × Int}{m:Mch}(he: ∀(m':Mch)(n:Int),MI m'→m'.fu=m.fu→Ok (ex m' n))(h:MI m)(v:Int):Ok (hJ ex m v):=by
 unfold hJ
 have ht:=CH h
 repeat' split
 ·exact DK h
 ·exact⟨h,rfl⟩
 ·exact⟨fV h,rfl⟩
 ·exact⟨h,rfl⟩
 ·exact⟨h,ht⟩
 ·exact⟨h,rfl⟩
 ·exact⟨fV h,rfl⟩
 ·rename_i h1 h2 h3 h4 h5
  refine he _ _ ((fV h).addC ?_ ⟨h.ip,⟨Int.natCast_nonneg _,Int.le_refl _⟩,?_,.inl rfl⟩ h.floor.2) rfl
  ·have:=h.cl
   show m.ca.length<16
   omega
  ·have:=h.da.st
   show(0:Int)≤(m.da.st.length:Int)-1∧(m.da.st.length:Int)-1≤31
   omega
 ·exact he _ _ (fV h) rfl
theorem D5{txt:Int→Int→List UInt8}{b:Bool}{ex:Mch→Int→Mch × Int}{m:Mch}(he: ∀(m':Mch)(n:Int),MI m'→m'.fu=m.fu→Ok (ex m' n))(h:MI m){n:Int}{w:Wd}(hw:mf n w=true):Ok (oZ txt b ex m w):=by
 unfold oZ
 repeat' split
 ·exact⟨h,rfl⟩
 ·exact⟨h.setD (DR h.da) (D8 h.floor.2),Dn ..⟩
 ·rename_i h5 h1 h4
  have hv:1≤w.v∧w.v≤4:=by simpa[mf,h4,bm]using hw
  have hc:(w.v-1).toNat<4:=by omega
  obtain⟨k1,k2⟩:=Eg hc h.ho h.da
  obtain⟨k3,k4⟩:=CS m.ho m.da hc
  exact⟨(h.setH k1).setD k2 (by rw[k3];exact h.floor.2),k4⟩
 ·rename_i h5 h1 h4 h7
  refine jF h ?_
  rcases h7 with h7|h7<;>simpa[mf,h7]using hw
 ·rename_i h5 h1 h4 h7 h6
  have hv:0≤w.v∧w.v≤399:=by simpa[mf,h6,bm]using hw
  unfold vp
  split
  ·exact⟨h,rfl⟩
  ·refine⟨(h.addC ?_ ⟨h.ip,⟨Int.natCast_nonneg _,Int.le_refl _⟩,⟨Int.le_refl 0,show(0:Int)≤31 by decide⟩,.inr rfl⟩ h.floor.2).setIp ⟨hv.1,by omega⟩,rfl⟩
   have:=h.cl
   omega
 ·exact Dh he h _
 ·exact A2 h _ _
theorem lI(txt:Int→Int→List UInt8)(b:Bool): ∀(f:Nat)(m:Mch)(n:Int),MI m→(f:Int)≤m.fu→Ok (dU txt b f m n)
 |0,m,n,h,_=>⟨h,rfl⟩
 |f+1,m,n,h,hf=>by
  have hu:MI {m with fu:=m.fu-1}:=h.setFu (by have:=h.fu;omega)
  unfold dU rg
  split
  ·exact⟨hu,rfl⟩
  ·rename_i hn
   exact D5 (n:=n) (fun m' n' hm' hfu=>lI txt b f m' n' hm' (by rw[hfu];show(f:Int)≤m.fu-1;omega)) hu (sS h.ws (by simpa using hn))
theorem nK(cs:List Cal): ∀n,eG cs n<n
 |0=>by simp[eG]
 |n+1=>by
  unfold eG
  split
  ·omega
  ·have:=nK cs n
   omega
theorem jc{m:Mch}(h:MI m){t:Int}(ht:cell t=true):Ok (bP m t):=by
 unfold bP
 split
 ·exact⟨⟨h.ws,h.co,h.cc,h.da,h.ho,by simp,fun c hc=>(by cases hc),List.Pairwise.nil,⟨Int.le_refl 0,show(0:Int)≤2147483647 by decide⟩,h.fu⟩,ht⟩
 ·rename_i hx
  have h1:=nK m.ca m.ca.length
  have hi:(eG m.ca m.ca.length).toNat<m.ca.length:=by omega
  have e:sD m=m.ca[(eG m.ca m.ca.length).toNat]:=by
   unfold sD
   rw[List.getD_eq_getElem?_getD,List.getElem?_eq_getElem hi];rfl
  have hm:sD m∈m.ca:=by rw[e];exact List.getElem_mem hi
  have ha:=h.ci _ hm
  have hs:=h.da.st
  have hb:=h.da.bk
  refine⟨⟨h.ws,h.co,h.cc,⟨?_,by simp only[List.length_take];omega,h.da.ce,gL ?_ (jg ht),fp h.da.cbk _,h.da.cce,h.da.he,h.da.ba,h.da.ou⟩,h.ho,by have:=h.cl;simp only[List.length_take];omega,?_,h.pw.sublist (List.take_sublist _ _),ha.ip,h.fu⟩,rfl⟩
  ·unfold mU
   have:=ha.dp
   simp only[List.length_append,List.length_take,List.length_replicate,List.length_singleton]
   omega
  ·unfold mU
   refine gL (fp h.da.cst _) ?_
   simp[aN,cell,bm]
  ·intro c hc
   have hc2:=h.ci c (List.mem_of_mem_take hc)
   refine⟨hc2.ip,⟨hc2.fl.1,?_⟩,hc2.dp,hc2.ca⟩
   obtain⟨j,hj,rfl⟩:=List.mem_iff_getElem.1 hc
   simp only[List.length_take]at hj
   simp only[List.getElem_take,List.length_take]
   have:=List.pairwise_iff_getElem.1 h.pw j (eG m.ca m.ca.length).toNat (by omega) hi (by omega)
   rw[←e]at this
   have:=ha.fl
   omega
theorem lQ: ∀(k:Nat)(m:Mch),MI m→Ok (bW k m)
 |0,m,h=>⟨h,rfl⟩
 |k+1,m,h=>by
  unfold bW
  split
  ·exact⟨h,rfl⟩
  ·rename_i h0
   have hp:=jF (h.dropC h0) (n:=0) rfl
   have ht:=jc hp.1 hp.2
   repeat' split
   ·exact⟨h,rfl⟩
   ·exact lQ k _ hp.1
   ·exact lQ k _ ht.1
   ·exact ht
theorem C4{r:Mch × Int}(h:Ok r):Ok (eD r):=by
 have ht:=jc h.1 h.2
 unfold eD
 repeat' split
 ·exact lQ _ _ h.1
 ·exact lQ _ _ ht.1
 ·exact ht
theorem ix{txt:Int→Int→List UInt8}{b:Bool}{m:Mch}(h:MI m)(n:Int):Ok (dj txt b m n):=C4 (lI txt b _ m n h (by have:=h.fu;omega))
theorem jG{txt:Int→Int→List UInt8}{b:Bool}{m:Mch}(h:MI m):Ok (dS txt b m):=by
 unfold dS
 split
 ·exact ix h 0
 ·exact ix (h.nextM (by omega)) _
end N1

open Go Go.Abs Go.Proofs V1 P20 N1
namespace N2
section
variable{txt:Int→Int→List UInt8}{b:Bool}
theorem tL(m:Mch)(x:Int):(dV m x).1.fu=m.fu:=by unfold dV;split<;>rfl
theorem ya(m:Mch)(s x:Int):(dm m s x).1.fu=m.fu:=by
 unfold dm
 repeat' split
 all_goals first|rfl|exact tL _ _
theorem A3(m:Mch)(k:Int):(fO b m k).1.fu=m.fu:=by
 unfold fO dv we
 repeat' split
 all_goals first|rfl|exact tL _ _|exact ya _ _ _|(rw[tL];rfl)|(rw[ya];rfl)
theorem Dy{ex:Mch→Int→Mch × Int}(he: ∀m n,(ex m n).1.fu≤m.fu)(m:Mch)(v:Int):(hJ ex m v).1.fu≤m.fu:=by
 unfold hJ sf
 repeat' split
 all_goals first|exact Int.le_refl _|exact he _ _
theorem xS{ex:Mch→Int→Mch × Int}(he: ∀m n,(ex m n).1.fu≤m.fu)(m:Mch)(w:Wd):(oZ txt b ex m w).1.fu≤m.fu:=by
 unfold oZ vp
 repeat' split
 all_goals first|exact Int.le_refl _|exact Dy he _ _|exact Int.le_of_eq (A3 _ _)
theorem vQ: ∀(f:Nat)(m:Mch)(n:Int),(dU txt b f m n).1.fu≤m.fu
 |0,m,n=>Int.le_refl _
 |f+1,m,n=>by
  have h:(dU txt b (f+1) m n).1.fu≤m.fu-1:=by
   unfold dU rg
   split
   ·exact Int.le_refl _
   ·exact xS (vQ f) {m with fu:=m.fu-1} _
  omega
theorem DG(f:Nat)(m:Mch)(n:Int):(dU txt b (f+1) m n).1.fu≤m.fu-1:=by
 unfold dU rg
 split
 ·exact Int.le_refl _
 ·exact xS (vQ f) {m with fu:=m.fu-1} _
theorem nd(m:Mch)(t:Int):(bP m t).1.fu=m.fu:=by unfold bP;split<;>rfl
theorem lU: ∀(k:Nat)(m:Mch),(bW k m).1.fu=m.fu
 |0,m=>rfl
 |k+1,m=>by
  unfold bW
  repeat' split
  ·rfl
  ·rfl
  ·rw[lU];rfl
  ·rw[lU,nd];rfl
  ·rw[nd];rfl
theorem Em(r:Mch × Int):(eD r).1.fu=r.1.fu:=by
 unfold eD
 repeat' split
 ·exact lU _ _
 ·rw[lU,nd]
 ·exact nd _ _
theorem su(m:Mch)(t:Int):(bP m t).2=0∨(bP m t).1.ca=[]:=by
 unfold bP
 split
 ·exact .inr rfl
 ·exact .inl rfl
theorem qU: ∀(k:Nat)(m:Mch),(bW k m).2=0∨(bW k m).1.ca=[]
 |0,m=>.inl rfl
 |k+1,m=>by
  unfold bW
  repeat' split
  all_goals first|exact .inl rfl|exact qU _ _|exact su _ _
theorem AG(r:Mch × Int):(eD r).2=0∨(eD r).1.ca=[]:=by
 unfold eD
 repeat' split
 all_goals first|exact qU _ _|exact su _ _
def iR(m:Mch):Nat:=if m.ca.length=0 then 0 else m.fu.toNat+1
theorem tg{m:Mch}(h:MI m)(n:Int):iR (dj txt b m n).1≤m.fu.toNat:=by
 have e:=Em (dU txt b m.fu.toNat m n)
 unfold iR
 by_cases h0:m.fu.toNat=0
 ·have:(dj txt b m n).1.ca=[]:=by
   have e2:eD (m,-101)=({m with ca:=[],ip:=0},-101):=by simp[eD,bP]
   unfold dj
   rw[h0,dU,e2]
  rw[this];simp
 ·split
  ·exact Nat.zero_le _
  ·obtain⟨f,hf⟩: ∃f,m.fu.toNat=f+1:=⟨m.fu.toNat-1,by omega⟩
   have:=DG (txt:=txt) (b:=b) f m n
   unfold dj
   rw[e,hf]
   omega
theorem next_w{m:Mch}(h:MI m)(h0: ¬m.ca.length=0):iR (dS txt b m).1<iR m:=by
 have e:iR m=m.fu.toNat+1:=if_neg h0
 unfold dS
 split
 ·have:=tg (txt:=txt) (b:=b) h 0
  omega
 ·have:=tg (txt:=txt) (b:=b) (h.nextM (by omega)) (m.co.getD m.ip.toNat 0)
  have:(nextM m).fu=m.fu:=rfl
  omega
def iW(txt:Int→Int→List UInt8)(b:Bool):Nat→Mch→Int→Int→Mch × Int × Int
 |0,m,t,s=>(m,t,s)
 |k+1,m,t,s=>if m.ca.length=0 then(m,t,s)else iW txt b k (dS txt b m).1 (dS txt b m).2 (s+1)
theorem rZ(k:Nat){m:Mch}(t s:Int)(h:m.ca.length=0):iW txt b k m t s=(m,t,s):=by
 cases k with
 |zero=>rfl
 |succ k=>rw[iW,if_pos h]
theorem Eu: ∀(k j:Nat)(m:Mch)(t s:Int),MI m→iR m≤k→iR m≤j→iW txt b k m t s=iW txt b j m t s
 |0,j,m,t,s,_,h,_=>by
  have h0:m.ca.length=0:=by unfold iR at h;split at h;assumption;omega
  rw[rZ _ _ _ h0,rZ _ _ _ h0]
 |k+1,j,m,t,s,hm,h,h2=>by
  by_cases h0:m.ca.length=0
  ·rw[rZ _ _ _ h0,rZ _ _ _ h0]
  have hw:=next_w (txt:=txt) (b:=b) hm h0
  obtain⟨i,rfl⟩: ∃i,j=i+1:=⟨j-1,by omega⟩
  rw[iW,iW,if_neg h0,if_neg h0]
  exact Eu k i _ _ _ (jG hm).1 (by omega) (by omega)
theorem EM{m:Mch}(hm:MI m)(t s:Int)(h0: ¬m.ca.length=0):iW txt b (iR m) m t s=iW txt b (iR (dS txt b m).1) (dS txt b m).1 (dS txt b m).2 (s+1):=by
 have hw:=next_w (txt:=txt) (b:=b) hm h0
 obtain⟨i,hi⟩: ∃i,iR m=i+1:=⟨iR m-1,by omega⟩
 rw[hi,iW,if_neg h0]
 exact Eu _ _ _ _ _ (jG hm).1 (by omega) (Nat.le_refl _)
def mB(txt:Int→Int→List UInt8)(b:Bool)(m:Mch)(n:Int):Mch × Int × Int:=
 iW txt b (iR (dj txt b m n).1) (dj txt b m n).1 (dj txt b m n).2 1
end
end N2
