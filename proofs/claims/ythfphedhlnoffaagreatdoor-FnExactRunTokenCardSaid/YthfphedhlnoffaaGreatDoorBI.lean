import Derived.Test.YthfphedhlnoffaaGreatDoorBH
import Derived.Test.YthfphedhlnoffaaGreatDoorBE
/- A word runs, by the program; the contract. -/
set_option linter.unusedVariables false
set_option maxHeartbeats 4000000
set_option linter.unusedSimpArgs false
set_option maxRecDepth 100000
open Go Go.Abs Go.Proofs V1 H1 H2 H4 F1 F2 T1 T2 T3 P1 P2 P5 P9 P10 P20 N1 X1 X2 X3 X4 X5 X6
namespace X7
abbrev wF(m:Mch):Mch:={m with fu:=IntKind.i64.wrap (m.fu-1)}
theorem yU{m:Mch}(h:MI m)(h0:m.fu≠0):{m with fu:=m.fu-1}=wF m:=by
 have:=h.fu
 rw[wF,ai (by omega) (by omega)]
theorem Lv(m:Mch)(n:Int)(h0:m.fu=0):Con Tryz.prog 77 [.obj (aY m),.int .i64 n] [.obj (aY m),.undef] (.int .i64 (-101)):=by
 have g:(m.fu==0)=true:=by rw[h0];rfl
 exact rp 133 Tryz.func77 [.tmp 4] (g:=go)
section
variable{m:Mch}{n:Int}
theorem Lp(h:MI m)(h0:(m.fu==0)=false)(hn:bm n 1 m.ws.length=false):Con Tryz.prog 77 [.obj (aY m),.int .i64 n] [.obj (aY (wF m)),.undef] (.int .i64 (-24)):=by
 have k1:=c95 n 1 ((m.ws.map dl).length:Nat)
 rw[show bm n 1 ((m.ws.map dl).length:Nat)=bm n 1 m.ws.length by rw[List.length_map],hn]at k1
 exact rp 133 Tryz.func77 [.tmp 4] (g:=go)
theorem LA(h:MI m)(h0:(m.fu==0)=false)(hn:bm n 1 m.ws.length=true){nm:List UInt8}{v:Int}(hx:cT m.ws n=⟨nm,5,v⟩):Con Tryz.prog 77 [.obj (aY m),.int .i64 n] [.obj (aY (wF m)),.undef] (.int .i64 (-24)):=by
 have k1:=c95 n 1 ((m.ws.map dl).length:Nat)
 rw[show bm n 1 ((m.ws.map dl).length:Nat)=bm n 1 m.ws.length by rw[List.length_map],hn]at k1
 have hw:=(bv h.ws).2.2
 have i1:=aQ hn
 have w1:IntKind.i64.wrap (n-1)=n-1:=ai (by omega) (by omega)
 have ra:=cF hw hn
 rw[hx]at ra
 exact rp 133 Tryz.func77 [.tmp 4] (g:=go)
theorem JM(h:MI m)(h0:(m.fu==0)=false)(hn:bm n 1 m.ws.length=true){nm:List UInt8}{v:Nat}(hx:cT m.ws n=⟨nm,1,v⟩)(hv:cu v):Con Tryz.prog 77 [.obj (aY m),.int .i64 n] [.obj (aY (sj TX (wF m) v).1),.undef] (.int .i64 (sj TX (wF m) v).2):=by
 have k1:=c95 n 1 ((m.ws.map dl).length:Nat)
 rw[show bm n 1 ((m.ws.map dl).length:Nat)=bm n 1 m.ws.length by rw[List.length_map],hn]at k1
 have hw:=(bv h.ws).2.2
 have i1:=aQ hn
 have w1:IntKind.i64.wrap (n-1)=n-1:=ai (by omega) (by omega)
 have ra:=cF hw hn
 rw[hx]at ra
 have kf:=c112 (wF m) h.cl
 have kc:=AJ v hv nm m.da (bJ (wF m)) h.da h.floor
 have e:sj TX (wF m) v=({wF m with da:=(eE TX v (bJ (wF m)) m.da).1},(eE TX v (bJ (wF m)) m.da).2):=rfl
 rw[e]
 generalize eE TX v (bJ (wF m)) m.da=x at kc
 refine rp 133 Tryz.func77 [.tmp 4] (g:= ?_)
 conv=>whnf
 repeat' (first|(refine ax 112 [some 16] ?_;conv=>whnf)|(refine eo (kf ..) ?_;conv=>whnf)|(refine ax 113 [none,none] ?_;conv=>whnf)|(refine eo (kc ..) ?_;conv=>whnf)|(focus (refine aq (by rfl) ?_;conv=>whnf))|exact True.intro|refine aO ?_)
theorem LK(h:MI m)(h0:(m.fu==0)=false)(hn:bm n 1 m.ws.length=true){nm:List UInt8}{v:Int}(hx:cT m.ws n=⟨nm,4,v⟩)(hv:1≤v∧v≤4):Con Tryz.prog 77 [.obj (aY m),.int .i64 n] [.obj (aY (sn (wF m) v).1),.undef] (.int .i64 (sn (wF m) v).2):=by
 have k1:=c95 n 1 ((m.ws.map dl).length:Nat)
 rw[show bm n 1 ((m.ws.map dl).length:Nat)=bm n 1 m.ws.length by rw[List.length_map],hn]at k1
 have hw:=(bv h.ws).2.2
 have i1:=aQ hn
 have w1:IntKind.i64.wrap (n-1)=n-1:=ai (by omega) (by omega)
 have w2:IntKind.i64.wrap (v-1)=v-1:=ai (by omega) (by omega)
 have ra:=cF hw hn
 rw[hx]at ra
 have kc:=FM m.ho m.da (IntKind.i64.wrap (v-1)) ((gZ _).2 h.ho) ((gQ _).2 h.da) (by rw[w2];simp[bm];omega)
 have e:sn (wF m) v=({wF m with ho:=(bC m.ho m.da (IntKind.i64.wrap (v-1)).toNat).1,da:=(bC m.ho m.da (IntKind.i64.wrap (v-1)).toNat).2.1},(bC m.ho m.da (IntKind.i64.wrap (v-1)).toNat).2.2):=by rw[w2];rfl
 rw[e]
 generalize bC m.ho m.da (IntKind.i64.wrap (v-1)).toNat=x at kc
 exact rp 133 Tryz.func77 [.tmp 4] (g:=go)
theorem Lw(h:MI m)(h0:(m.fu==0)=false)(hn:bm n 1 m.ws.length=true){nm:List UInt8}{v:Int}(hx:cT m.ws n=⟨nm,7,v⟩):Con Tryz.prog 77 [.obj (aY m),.int .i64 n] [.obj (aY (bn (wF m) v).1),.undef] (.int .i64 (bn (wF m) v).2):=by
 have k1:=c95 n 1 ((m.ws.map dl).length:Nat)
 rw[show bm n 1 ((m.ws.map dl).length:Nat)=bm n 1 m.ws.length by rw[List.length_map],hn]at k1
 have hw:=(bv h.ws).2.2
 have i1:=aQ hn
 have w1:IntKind.i64.wrap (n-1)=n-1:=ai (by omega) (by omega)
 have ra:=cF hw hn
 rw[hx]at ra
 have kp:=c80 m.da v (by have:=h.da.st;omega)
 refine rp 133 Tryz.func77 [.tmp 4] (g:= ?_)
 conv=>whnf
 repeat' (first|(refine ax 80 [some 6,none] ?_;conv=>whnf)|(refine eo (kp ..) ?_;conv=>whnf)|(focus (refine aq (by rfl) ?_;conv=>whnf))|exact True.intro|refine aO ?_)
theorem Lx(h:MI m)(h0:(m.fu==0)=false)(hn:bm n 1 m.ws.length=true){nm:List UInt8}{v:Int}(hx:cT m.ws n=⟨nm,8,v⟩):Con Tryz.prog 77 [.obj (aY m),.int .i64 n] [.obj (aY (bn (wF m) v).1),.undef] (.int .i64 (bn (wF m) v).2):=by
 have k1:=c95 n 1 ((m.ws.map dl).length:Nat)
 rw[show bm n 1 ((m.ws.map dl).length:Nat)=bm n 1 m.ws.length by rw[List.length_map],hn]at k1
 have hw:=(bv h.ws).2.2
 have i1:=aQ hn
 have w1:IntKind.i64.wrap (n-1)=n-1:=ai (by omega) (by omega)
 have ra:=cF hw hn
 rw[hx]at ra
 have kp:=c80 m.da v (by have:=h.da.st;omega)
 refine rp 133 Tryz.func77 [.tmp 4] (g:= ?_)
 conv=>whnf
 repeat' (first|(refine ax 80 [some 6,none] ?_;conv=>whnf)|(refine eo (kp ..) ?_;conv=>whnf)|(focus (refine aq (by rfl) ?_;conv=>whnf))|exact True.intro|refine aO ?_)
abbrev rP(m:Mch):Cal:=⟨m.ip,((m.da.bk.map aj).length:Nat),0,false⟩
theorem Jr(h:MI m)(h0:(m.fu==0)=false)(hn:bm n 1 m.ws.length=true){nm:List UInt8}{v:Int}(hx:cT m.ws n=⟨nm,6,v⟩)(hc:m.ca.length=16):Con Tryz.prog 77 [.obj (aY m),.int .i64 n] [.obj (aY (wF m)),.undef] (.int .i64 (-50)):=by
 have k1:=c95 n 1 ((m.ws.map dl).length:Nat)
 rw[show bm n 1 ((m.ws.map dl).length:Nat)=bm n 1 m.ws.length by rw[List.length_map],hn]at k1
 have hw:=(bv h.ws).2.2
 have i1:=aQ hn
 have w1:IntKind.i64.wrap (n-1)=n-1:=ai (by omega) (by omega)
 have ra:=cF hw hn
 rw[hx]at ra
 have ka:=c117 (wF m) (rP m) h.cl
 rw[rS (show(wF m).ca.length=16 from hc)]at ka
 refine rp 133 Tryz.func77 [.tmp 4] (g:= ?_)
 conv=>whnf
 repeat' (first|(refine ax 117 [some 16,none] ?_;conv=>whnf)|(refine eo (ka ..) ?_;conv=>whnf)|(focus (refine aq (by rfl) ?_;conv=>whnf))|exact True.intro|refine aO ?_)
theorem Jw(h:MI m)(h0:(m.fu==0)=false)(hn:bm n 1 m.ws.length=true){nm:List UInt8}{v:Int}(hx:cT m.ws n=⟨nm,6,v⟩)(hc: ¬m.ca.length=16):Con Tryz.prog 77 [.obj (aY m),.int .i64 n] [.obj (aY {wF m with ca:=m.ca++[rP m],ip:=v}),.undef] (.int .i64 0):=by
 have k1:=c95 n 1 ((m.ws.map dl).length:Nat)
 rw[show bm n 1 ((m.ws.map dl).length:Nat)=bm n 1 m.ws.length by rw[List.length_map],hn]at k1
 have hw:=(bv h.ws).2.2
 have i1:=aQ hn
 have w1:IntKind.i64.wrap (n-1)=n-1:=ai (by omega) (by omega)
 have ra:=cF hw hn
 rw[hx]at ra
 have ka:=c117 (wF m) (rP m) h.cl
 rw[sw (show ¬(wF m).ca.length=16 from hc)]at ka
 refine rp 133 Tryz.func77 [.tmp 4] (g:= ?_)
 conv=>whnf
 repeat' (first|(refine ax 117 [some 16,none] ?_;conv=>whnf)|(refine eo (ka ..) ?_;conv=>whnf)|(focus (refine aq (by rfl) ?_;conv=>whnf))|exact True.intro|refine aO ?_)
theorem LC(h:MI m)(h0:(m.fu==0)=false)(hn:bm n 1 m.ws.length=true){nm:List UInt8}{v:Int}(hx:cT m.ws n=⟨nm,2,v⟩)(r:Mch × Int)(kf:Con Tryz.prog 118 [.obj (aY (wF m)),.int .i64 n] [.obj (aY r.1),.undef] (.int .i64 r.2)):Con Tryz.prog 77 [.obj (aY m),.int .i64 n] [.obj (aY r.1),.undef] (.int .i64 r.2):=by
 have k1:=c95 n 1 ((m.ws.map dl).length:Nat)
 rw[show bm n 1 ((m.ws.map dl).length:Nat)=bm n 1 m.ws.length by rw[List.length_map],hn]at k1
 have hw:=(bv h.ws).2.2
 have i1:=aQ hn
 have w1:IntKind.i64.wrap (n-1)=n-1:=ai (by omega) (by omega)
 have ra:=cF hw hn
 rw[hx]at ra
 refine rp 133 Tryz.func77 [.tmp 4] (g:= ?_)
 conv=>whnf
 repeat' (first|(refine ax 118 [some 16,none] ?_;conv=>whnf)|(refine eo (kf ..) ?_;conv=>whnf)|(focus (refine aq (by rfl) ?_;conv=>whnf))|exact True.intro|refine aO ?_)
theorem LH(h:MI m)(h0:(m.fu==0)=false)(hn:bm n 1 m.ws.length=true){nm:List UInt8}{v:Int}(hx:cT m.ws n=⟨nm,3,v⟩)(r:Mch × Int)(kf:Con Tryz.prog 119 [.obj (aY (wF m)),.int .i64 n] [.obj (aY r.1),.undef] (.int .i64 r.2)):Con Tryz.prog 77 [.obj (aY m),.int .i64 n] [.obj (aY r.1),.undef] (.int .i64 r.2):=by
 have k1:=c95 n 1 ((m.ws.map dl).length:Nat)
 rw[show bm n 1 ((m.ws.map dl).length:Nat)=bm n 1 m.ws.length by rw[List.length_map],hn]at k1
 have hw:=(bv h.ws).2.2
 have i1:=aQ hn
 have w1:IntKind.i64.wrap (n-1)=n-1:=ai (by omega) (by omega)
 have ra:=cF hw hn
 rw[hx]at ra
 refine rp 133 Tryz.func77 [.tmp 4] (g:= ?_)
 conv=>whnf
 repeat' (first|(refine ax 119 [some 16,none] ?_;conv=>whnf)|(refine eo (kf ..) ?_;conv=>whnf)|(focus (refine aq (by rfl) ?_;conv=>whnf))|exact True.intro|refine aO ?_)
end
theorem I9: ∀(f:Nat)(m:Mch)(n:Int),MI m→m.fu.toNat=f→Con Tryz.prog 77 [.obj (aY m),.int .i64 n] [.obj (aY (dU TX true f m n).1),.undef] (.int .i64 (dU TX true f m n).2)
 |0,m,n,h,hf=>Lv m n (by have:=h.fu;omega)
 |f+1,m,n,h,hf=>by
  have h00:m.fu≠0:=by omega
  have h0:(m.fu==0)=false:=by simpa using h00
  have hM:MI (wF m):=by rw[←yU h h00];exact h.setFu (by have:=h.fu;omega)
  unfold dU rg
  rw[yU h h00]
  by_cases hn:bm n 1 m.ws.length=false
  ·rw[if_pos hn];exact Lp h h0 hn
  rw[if_neg hn]
  rw[Bool.not_eq_false]at hn
  have hw:=sS h.ws hn
  generalize hx:cT (wF m).ws n=x at hw⊢
  obtain⟨nm,k,v⟩:=x
  have hx:cT m.ws n=⟨nm,k,v⟩:=hx
  have hfu:(wF m).fu.toNat=f:=by rw[←yU h h00];show(m.fu-1).toNat=f;omega
  have he: ∀m' n',MI m'→m'.fu=(wF m).fu→Con Tryz.prog 77 [.obj (aY m'),.int .i64 n'] [.obj (aY (dU TX true f m' n').1),.undef] (.int .i64 (dU TX true f m' n').2):=fun m' n' hm' e=>I9 f m' n' hm' (by rw[e];exact hfu)
  unfold oZ
  by_cases k5:k=5
  ·subst k5;exact LA h h0 hn hx
  rw[if_neg (show ¬(⟨nm,k,v⟩:Wd).k=5 from k5)]
  by_cases k1:k=1
  ·subst k1
   have hv:(1≤v∧v≤52)∧n=v:=by simpa[mf,bm]using hw
   obtain⟨p,rfl⟩: ∃p:Nat,v=p:=⟨v.toNat,by omega⟩
   rw[if_pos (show(⟨nm,1,p⟩:Wd).k=1 from rfl)]
   exact JM h h0 hn hx (by unfold cu;omega)
  rw[if_neg (show ¬(⟨nm,k,v⟩:Wd).k=1 from k1)]
  by_cases k4:k=4
  ·subst k4
   have hv:1≤v∧v≤4:=by simpa[mf,bm]using hw
   exact LK h h0 hn hx hv
  rw[if_neg (show ¬(⟨nm,k,v⟩:Wd).k=4 from k4)]
  by_cases k7:k=7
  ·subst k7;exact Lw h h0 hn hx
  by_cases k8:k=8
  ·subst k8;exact Lx h h0 hn hx
  rw[if_neg (show ¬((⟨nm,k,v⟩:Wd).k=7∨(⟨nm,k,v⟩:Wd).k=8)from fun e=>e.elim k7 k8)]
  by_cases k6:k=6
  ·subst k6
   rw[if_pos (show(⟨nm,6,v⟩:Wd).k=6 from rfl)]
   unfold vp
   by_cases hc:m.ca.length=16
   ·rw[if_pos (show(wF m).ca.length=16 from hc)];exact Jr h h0 hn hx hc
   ·rw[if_neg (show ¬(wF m).ca.length=16 from hc)]
    have e:rP m=⟨(wF m).ip,(wF m).da.bk.length,0,false⟩:=by simp[rP]
    have k:=Jw h h0 hn hx hc
    rw[e]at k
    exact k
  rw[if_neg (show ¬(⟨nm,k,v⟩:Wd).k=6 from k6)]
  by_cases k2:k=2
  ·subst k2
   have hv:(1≤v∧v≤4)∧n=v+52:=by simpa[mf,bm]using hw
   have kf:=KC (wF m) hM (dU TX true f) he v hv.1
   rw[←hv.2]at kf
   exact LC h h0 hn hx _ kf
  rw[if_neg (show ¬(⟨nm,k,v⟩:Wd).k=2 from k2)]
  have hv:k=3∧(1≤v∧v≤6)∧n=v+56:=by
   simp only[mf,bm,k5,k1,k4,k7,k8,k6,k2]at hw
   simpa[and_assoc]using hw
  obtain⟨rfl,hv,e⟩:=hv
  have kf:=Hk (wF m) hM v hv
  rw[←e]at kf
  exact LH h h0 hn hx _ kf
end X7

/- Throws, by the program; the contract. -/
open Go Go.Abs Go.Proofs V1 H1 H2 H4 F1 F2 T1 T2 T3 P1 P2 P5 P9 P10 P20 N1 X1 X2 X3 X4 X5 X6 X7
namespace X8
abbrev zU:List AV:=[.undef,.undef,.undef,.undef,.undef,.undef,.undef,.undef,.undef,.undef,.undef,.undef,.undef,.undef,.undef,.undef]
def JU(m:Mch):Ms:=[(500000,.live ⟨false,0,zU,[[.ref 500001 0 (m.ws.map dl).length,.ref 500002 0 (m.co.map aj).length,.ref 500003 0 (m.da.st.map aj).length,.ref 500004 0 (m.da.bk.map aj).length,.ref 500005 0 (m.da.ce.map aj).length,.int .i64 m.da.he,.int .i64 m.da.ba,.str m.da.ou,.ref 500009 0 (m.ho.gr.map dT).length,.ref 500010 0 (m.ho.st.map aj).length,.ref 500011 0 (m.ho.q.map aj).length,.int .i64 m.ho.tk,.ref 500013 0 (m.ho.ds.map bc).length,.ref 500014 0 (m.ca.map bF).length,.int .i64 m.ip,.int .i64 m.fu]]⟩),
 (500001,.live ⟨true,0,zW,m.ws.map dl⟩),(500002,.live ⟨true,0,zI,m.co.map aj⟩),(500003,.live ⟨true,0,zI,m.da.st.map aj⟩),(500004,.live ⟨true,0,zI,m.da.bk.map aj⟩),(500005,.live ⟨true,0,zI,m.da.ce.map aj⟩),(500009,.live ⟨true,0,[.bool false],m.ho.gr.map dT⟩),(500010,.live ⟨true,0,zI,m.ho.st.map aj⟩),(500011,.live ⟨true,0,zI,m.ho.q.map aj⟩),(500013,.live ⟨true,0,[.int .i64 0,.int .i64 0,.int .i64 0,.int .i64 0],m.ho.ds.map bc⟩),(500014,.live ⟨true,0,zC,m.ca.map bF⟩)]
theorem BN{cs:List Cal}{i:Nat}(h:(cs.getD i default).ca=true):eG cs (i+1)=i:=by rw[eG,if_pos h]
theorem An{cs:List Cal}{i:Nat}(h:(cs.getD i default).ca=false):eG cs (i+1)=eG cs i:=by rw[eG,if_neg (by rw[h];simp)]
theorem tU{m:Mch}{t:Int}(h:t= -101∨eG m.ca m.ca.length<0):bP m t=({m with ca:=[],ip:=0},t):=by rw[bP,if_pos h]
theorem sZ{m:Mch}{t:Int}(h: ¬(t= -101∨eG m.ca m.ca.length<0)):bP m t=({m with ca:=m.ca.take (eG m.ca m.ca.length).toNat,ip:=(sD m).ip,da:={m.da with st:=mU m.da.st (sD m).dp++[t],bk:=m.da.bk.take (sD m).fl.toNat}},0):=by rw[bP,if_neg h]
theorem AI(st:List Int)(k t:Int):am (am (List.take 0 (List.replicate k.toNat [AV.int .i64 0])++List.take k.toNat (am (st.map aj) 0 (st.map aj).length)++List.drop (0+min (am (st.map aj) 0 (st.map aj).length).length k.toNat) (List.replicate k.toNat [AV.int .i64 0])) 0 k.toNat++am [[AV.int .i64 t]] 0 1) 0 (k.toNat+(am [[AV.int .i64 t]] 0 1).length)=(mU st k++[t]).map aj:=by
 have h1: ∀l:List (List AV),am l 0 l.length=l:=fun l=>ak rfl
 have e:(List.take k.toNat (st.map aj)++List.drop (min st.length k.toNat) (List.replicate k.toNat [AV.int .i64 0]))=(mU st k).map aj:=by
  unfold mU
  rw[List.map_append,List.map_take,List.map_replicate,List.drop_replicate,show k.toNat-min st.length k.toNat=k.toNat-st.length by omega]
  rfl
 have hl:(mU st k).length=k.toNat:=by unfold mU;simp only[List.length_append,List.length_take,List.length_replicate];omega
 rw[h1,List.length_map,Nat.zero_add,List.take_zero,List.nil_append,e,ak (rows:=(mU st k).map aj) (by rw[List.length_map,hl]),ak (by rw[List.length_append,List.length_map,hl]),List.map_append]
 rfl
theorem zx{l:List Int}{f:Int}(h:0≤f∧f≤l.length):(List.take ((if((l.map aj).length:Int)<f then((l.map aj).length:Int)else f).toNat-0) (List.drop (0+0) l)).map aj=(l.take f.toNat).map aj:=by
 rw[List.length_map,if_neg (by omega)]
 rfl
theorem Cp{m:Mch}(c1:eG m.ca m.ca.length<m.ca.length)(c2: ¬eG m.ca m.ca.length<0):sD m∈m.ca:=by
 have hi:(eG m.ca m.ca.length).toNat<m.ca.length:=by omega
 unfold sD
 rw[List.getD_eq_getElem?_getD,List.getElem?_eq_getElem hi]
 exact List.getElem_mem hi
theorem Al(m:Mch)(i:Int):Sh (.agg [bO m.ws,aK m.co,aK m.da.st,aK m.da.bk,aK m.da.ce,.int .i64 m.da.he,.int .i64 m.da.ba,.str m.da.ou,aX m.ho.gr,aK m.ho.st,aK m.ho.q,.int .i64 m.ho.tk,aW m.ho.ds,.emp,.int .i64 i,.int .i64 m.fu]) (.agg (aY {m with ca:=[],ip:=i})):=
 Sh.agg ⟨Sh.refl _,Sh.refl _,Sh.refl _,Sh.refl _,Sh.refl _,Sh.refl _,Sh.refl _,Sh.refl _,Sh.refl _,Sh.refl _,Sh.refl _,Sh.refl _,Sh.refl _,Sh.emp_own _ _,Sh.refl _,Sh.refl _,trivial⟩
theorem c78(m:Mch)(t:Int)(h:MI m):Con Tryz.prog 78 [.obj (aY m),.int .i64 t] [.obj (aY (bP m t).1),.undef] (.int .i64 (bP m t).2):=by
 have hl:=h.cl
 refine rp 95 Tryz.func78 [.tmp 4] (g:= ?_)
 conv=>whnf
 refine aO ?_
 rotate_left
 refine LoopG.rounds (α:=Nat) bH dI [0,1,5,13,14,15] [(500000,500000),(500001,500001),(500002,500002),(500003,500003),(500004,500004),(500005,500005),(500009,500009),(500010,500010),(500011,500011),(500013,500013),(500014,500014)] (fun i=>[(0,.ptr 500000 0 0),(1,.int .i64 t),(5,.int .i64 (eG m.ca i)),(13,.ref 500014 0 (m.ca.map bF).length),(14,.int .i64 (m.ca.map bF).length),(15,.int .i64 i)]) (fun i=>JU m) (fun i=>i≤m.ca.length) (fun i=>m.ca.length-i) ?_ ?_
 ·conv=>whnf
  rotate_left
  exact aE 0 (Nat.zero_le _) rfl rfl
 ·intro i hi _ _
  conv=>whnf
  repeat (apply ac rfl;conv=>whnf)
  refine cm ?_ ?_<;>intro hb<;>(try simp only[eH,List.length_map]at hb)<;>conv=>whnf
  ·have w:=ai (n:=(i:Int)+1) (by omega) (by omega)
   refine bN ?_
   (refine aH (by(((try simp only[Nat.zero_add,List.length_map,Int.toNat_natCast]);exact aI bF _ _ _ default (by first|omega|(simp;omega))))) ?_;conv=>whnf)
   refine bN ?_
   (refine bS ?_ ?_<;>intro hb)
   iterate 2 (rotate_left)
   ·exact aE (i+1) ⟨by omega,by omega⟩ (by rw[w,BN hb];rfl) rfl
   ·exact aE (i+1) ⟨by omega,by omega⟩ (by rw[w,An (by simpa using hb)];rfl) rfl
  ·obtain rfl:i=m.ca.length:=by omega
   by_cases h0:t= -101∨eG m.ca m.ca.length<0
   ·rw[tU h0]
    by_cases h1:t= -101
    ·subst h1
     iterate 3 (first|(refine aq (by rfl) ?_;conv=>whnf)|refine aO ?_)
     rotate_left
     refine nS (Al m 0) ?_
     conv=>whnf
     exact go
    ·have g1:(t== -101)=false:=by simpa using h1
     have g2:decide (eG m.ca m.ca.length<0)=true:=decide_eq_true (h0.resolve_left h1)
     iterate 3 (first|(refine aq (by rfl) ?_;conv=>whnf)|refine aO ?_)
     rotate_left
     refine nS (Al m 0) ?_
     conv=>whnf
     exact go
   ·rw[sZ h0]
    have g1:(t== -101)=false:=by simpa using fun h=>h0 (.inl h)
    have g2:decide (eG m.ca m.ca.length<0)=false:=decide_eq_false fun h=>h0 (.inr h)
    have c1:=nK m.ca m.ca.length
    have c2: ¬eG m.ca m.ca.length<0:=fun h=>h0 (.inr h)
    have ha:=h.ci _ (Cp c1 c2)
    have hd:=ha.dp
    have hf:=ha.fl
    have hs:=h.da.st
    have hb2:=h.da.bk
    have ra: ∀z,dn (m.ca.map bF) (eG m.ca m.ca.length).toNat z=bF (sD m):=fun z=>aI bF _ _ _ default (by omega)
    have e1:=AI m.da.st (sD m).dp t
    have e2:=zx (l:=m.da.bk) hf
    repeat' (first|(focus (apply ac (by((first|(simp[ao,AV.plain,am];done)|(simp[ao,AV.plain,am];omega)|(simp[ao,AV.plain,am];exact⟨decide_eq_true (by omega),by omega⟩))));conv=>whnf))|(focus (refine aq (by rfl) ?_;conv=>whnf))|(focus (refine aq (by(exact bE (bg rfl (bg rfl (bg (bB e1) (bg (bB e2) rfl)))))) ?_;conv=>whnf))|exact True.intro|refine aO ?_)
instance:CC 78:=⟨_,@c78⟩
end X8

/- Steps, by the program; contracts. -/
open Go Go.Abs Go.Proofs V1 H1 H2 H4 F1 F2 T1 T2 T3 P1 P2 P5 P9 P10 P20 N1 X1 X2 X3 X4 X5 X6 X7 X8
namespace X9
theorem ig(m:Mch)(h: ¬m.ca.length=0):(dropC m).ca.length+1=m.ca.length:=by
 show(m.ca.take (m.ca.length-1)).length+1=m.ca.length
 rw[List.length_take];omega
theorem lB(m:Mch)(t:Int):(bP m t).1.ca.length≤m.ca.length:=by
 unfold bP
 split
 ·exact Nat.zero_le _
 ·simp only[List.length_take];omega
theorem fK(k:Nat){m:Mch}(h:m.ca.length=0):bW k m=(m,0):=by
 cases k with
 |zero=>rfl
 |succ k=>rw[bW,if_pos h]
theorem nE: ∀(k j:Nat)(m:Mch),m.ca.length≤k→m.ca.length≤j→bW k m=bW j m
 |0,j,m,h,_=>by rw[fK j (by omega),fK 0 (by omega)]
 |k+1,j,m,h,h2=>by
  by_cases h0:m.ca.length=0
  ·rw[fK _ h0,fK _ h0]
  obtain⟨i,rfl⟩: ∃i,j=i+1:=⟨j-1,by omega⟩
  have hd:=ig m h0
  have hp:(bn (dropC m) 0).1.ca.length=(dropC m).ca.length:=rfl
  have ht:=lB (bn (dropC m) 0).1 (bn (dropC m) 0).2
  have e1:=nE k i (bn (dropC m) 0).1 (by omega) (by omega)
  have e2:=nE k i (bP (bn (dropC m) 0).1 (bn (dropC m) 0).2).1 (by omega) (by omega)
  rw[bW,bW,e1,e2]
theorem ne(k:Nat){m:Mch}(h:(cp m).ca=false):bW k m=(m,0):=by
 cases k with
 |zero=>rfl
 |succ k=>
  by_cases h0:m.ca.length=0
  ·exact fK _ h0
  ·rw[bW,if_neg h0,if_pos h]
section
variable{m:Mch}(h0: ¬m.ca.length=0)(h1:(cp m).ca=true)
include h0 h1
theorem qh(h2:(bn (dropC m) 0).2=0):bW m.ca.length m=bW (bn (dropC m) 0).1.ca.length (bn (dropC m) 0).1:=by
 have hd:=ig m h0
 obtain⟨i,hi⟩: ∃i,m.ca.length=i+1:=⟨m.ca.length-1,by omega⟩
 rw[hi,bW,if_neg h0,if_neg (by rw[h1];simp),if_pos h2]
 exact nE _ _ _ (by show(dropC m).ca.length≤i;omega) (Nat.le_refl _)
theorem rH(h2: ¬(bn (dropC m) 0).2=0)(h3:(bP (bn (dropC m) 0).1 (bn (dropC m) 0).2).2=0):bW m.ca.length m=bW (bP (bn (dropC m) 0).1 (bn (dropC m) 0).2).1.ca.length (bP (bn (dropC m) 0).1 (bn (dropC m) 0).2).1:=by
 have hd:=ig m h0
 have ht:=lB (bn (dropC m) 0).1 (bn (dropC m) 0).2
 have hp:(bn (dropC m) 0).1.ca.length=(dropC m).ca.length:=rfl
 obtain⟨i,hi⟩: ∃i,m.ca.length=i+1:=⟨m.ca.length-1,by omega⟩
 rw[hi,bW,if_neg h0,if_neg (by rw[h1];simp),if_neg h2,if_pos h3]
 exact nE _ _ _ (by omega) (Nat.le_refl _)
theorem qx(h2: ¬(bn (dropC m) 0).2=0)(h3: ¬(bP (bn (dropC m) 0).1 (bn (dropC m) 0).2).2=0):bW m.ca.length m=bP (bn (dropC m) 0).1 (bn (dropC m) 0).2:=by
 obtain⟨i,hi⟩: ∃i,m.ca.length=i+1:=⟨m.ca.length-1,by omega⟩
 rw[hi,bW,if_neg h0,if_neg (by rw[h1];simp),if_neg h2,if_neg h3]
end
def Gt(m:Mch):Ms:=[(500000,.live ⟨false,0,zU,[[.ref 2 0 (m.ws.map dl).length,.ref 3 0 (m.co.map aj).length,.ref 4 0 (m.da.st.map aj).length,.ref 5 0 (m.da.bk.map aj).length,.ref 6 0 (m.da.ce.map aj).length,.int .i64 m.da.he,.int .i64 m.da.ba,.str m.da.ou,.ref 7 0 (m.ho.gr.map dT).length,.ref 8 0 (m.ho.st.map aj).length,.ref 9 0 (m.ho.q.map aj).length,.int .i64 m.ho.tk,.ref 10 0 (m.ho.ds.map bc).length,.ref 11 0 (m.ca.map bF).length,.int .i64 m.ip,.int .i64 m.fu]]⟩),
 (2,.live ⟨true,0,zW,m.ws.map dl⟩),(3,.live ⟨true,0,zI,m.co.map aj⟩),(4,.live ⟨true,0,zI,m.da.st.map aj⟩),(5,.live ⟨true,0,zI,m.da.bk.map aj⟩),(6,.live ⟨true,0,zI,m.da.ce.map aj⟩),(7,.live ⟨true,0,[.bool false],m.ho.gr.map dT⟩),(8,.live ⟨true,0,zI,m.ho.st.map aj⟩),(9,.live ⟨true,0,zI,m.ho.q.map aj⟩),(10,.live ⟨true,0,[.int .i64 0,.int .i64 0,.int .i64 0,.int .i64 0],m.ho.ds.map bc⟩),(11,.live ⟨true,0,zC,m.ca.map bF⟩)]
theorem HO(m:Mch)(h:MI m):Con Tryz.prog 80 [.obj (aw m.da),.int .i64 0] [.obj (aw (bn m 0).1.da),.undef] (.int .i64 (bn m 0).2):=c80 m.da 0 (by have:=h.da.st;omega)
theorem G9(m:Mch)(n:Int)(m1:Mch)(h1:MI m1)(R:Mch × Int)(ke:Con Tryz.prog 77 [.obj (aY m),.int .i64 n] [.obj (aY m1),.undef] (.int .i64 0))(hR:bW m1.ca.length m1=R):Con Tryz.prog 33 [.obj (aY m),.int .i64 n] [.obj (aY R.1),.undef] (.int .i64 R.2):=by
 refine rp 53 Tryz.func33 [.tmp 4] (g:= ?_)
 conv=>whnf
 (refine ax 77 [some 16,none] ?_;conv=>whnf)
 refine aO ?_
 (refine eo (ke ..) ?_;conv=>whnf)
 refine aO ?_
 rotate_left
 refine LoopG.auto (α:=Mch) bH dI [0] (fun m=>[(0,.ptr 500000 0 0)]) Gt (fun m=>MI m∧bW m.ca.length m=R) (fun m=>m.ca.length) ?_ ?_
 ·conv=>whnf
  refine aO ?_
  rotate_left
  exact aE m1 ⟨h1,hR⟩ rfl rfl
 ·clear hR ke
  rintro m ⟨h,h2⟩- -
  have hl:=h.cl
  by_cases h0:m.ca.length=0
  ·rw[fK _ h0]at h2
   obtain rfl:=h2
   have g:decide ((((m.ca.map bF).length:Nat):Int)>0)=false:=by rw[List.length_map,h0];rfl
   conv=>whnf
   exact go
  have ra:=eO hl h0
  have w:=fZ hl
  have g:decide ((((m.ca.map bF).length:Nat):Int)>0)=true:=by rw[List.length_map];exact decide_eq_true (by omega)
  by_cases h1:(cp m).ca=false
  ·rw[ne _ h1]at h2
   obtain rfl:=h2
   have gC:(if decide ((((m.ca.map bF).length:Nat):Int)>0)=true then(cp m).ca else false)=false:=by rw[if_pos g,h1]
   conv=>whnf
   exact go
  rw[Bool.not_eq_false]at h1
  have gC:(if decide ((((m.ca.map bF).length:Nat):Int)>0)=true then(cp m).ca else false)=true:=by rw[if_pos g,h1]
  have kl:=c79 m hl h0
  have hD:=h.dropC h0
  have hd:=ig m h0
  have kp:=HO (dropC m) hD
  have hP:=(jF hD (n:=0) rfl)
  have kt:=c78 (bn (dropC m) 0).1 (bn (dropC m) 0).2 hP.1
  have hT:=jc hP.1 hP.2
  have s2:=qh h0 h1
  have s3:=rH h0 h1
  have s4:=qx h0 h1
  have tl:=lB (bn (dropC m) 0).1 (bn (dropC m) 0).2
  have eP:(bn (dropC m) 0).1={dropC m with da:=(bn (dropC m) 0).1.da}:=rfl
  have lP:(bn (dropC m) 0).1.ca.length=(dropC m).ca.length:=rfl
  generalize bP (bn (dropC m) 0).1 (bn (dropC m) 0).2=tr at kt hT s2 s3 s4 tl
  generalize bn (dropC m) 0=pr at kp hP kt s2 s3 s4 tl eP lP
  generalize dropC m=D at kl hD hd kp eP lP
  obtain⟨pm,pt⟩:=pr
  obtain⟨tm,tt⟩:=tr
  dsimp only at*
  generalize pm.da=pd at eP kp
  subst eP
  conv=>whnf
  iterate 16 (first|(refine eo (kt ..) ?_;conv=>whnf)|(refine ax 78 [some 16,none] ?_;conv=>whnf)|(refine eo (kp ..) ?_;conv=>whnf)|(refine ax 80 [some 6,none] ?_;conv=>whnf)|(refine eo (kl ..) ?_;conv=>whnf)|(refine ax 79 [some 16] ?_;conv=>whnf)|refine aO ?_|(refine bS ?_ ?_<;>intro hb))
  rotate_left
  refine aO ?_
  rotate_left
  refine aO ?_
  rotate_left
  ·obtain rfl:=h2.symm.trans (s4 (by assumption) hb)
   exact go
  ·exact aE tm ⟨⟨hT.1,(s3 (by assumption) hb).symm.trans h2⟩,by have:tm.ca.length≤D.ca.length:=tl;omega⟩ rfl rfl
  ·exact aE {D with da:=pd} ⟨⟨hP.1,(s2 hb).symm.trans h2⟩,by show D.ca.length<m.ca.length;omega⟩ rfl rfl
theorem Hm(m:Mch)(n:Int)(m1 m2:Mch)(t:Int)(g1:(t != 0)=true)(h1:MI m2)(R:Mch × Int)(ke:Con Tryz.prog 77 [.obj (aY m),.int .i64 n] [.obj (aY m1),.undef] (.int .i64 t))(kt:Con Tryz.prog 78 [.obj (aY m1),.int .i64 t] [.obj (aY m2),.undef] (.int .i64 0))(hR:bW m2.ca.length m2=R):Con Tryz.prog 33 [.obj (aY m),.int .i64 n] [.obj (aY R.1),.undef] (.int .i64 R.2):=by
 refine rp 53 Tryz.func33 [.tmp 4] (g:= ?_)
 conv=>whnf
 iterate 8 (first|(refine eo (kt ..) ?_;conv=>whnf)|(refine ax 78 [some 16,none] ?_;conv=>whnf)|(refine eo (ke ..) ?_;conv=>whnf)|(refine ax 77 [some 16,none] ?_;conv=>whnf)|refine aO ?_)
 rotate_left
 refine LoopG.auto (α:=Mch) bH dI [0] (fun m=>[(0,.ptr 500000 0 0)]) Gt (fun m=>MI m∧bW m.ca.length m=R) (fun m=>m.ca.length) ?_ ?_
 ·conv=>whnf
  refine aO ?_
  rotate_left
  exact aE m2 ⟨h1,hR⟩ rfl rfl
 ·clear hR ke kt
  rintro m ⟨h,h2⟩- -
  have hl:=h.cl
  by_cases h0:m.ca.length=0
  ·rw[fK _ h0]at h2
   obtain rfl:=h2
   have g:decide ((((m.ca.map bF).length:Nat):Int)>0)=false:=by rw[List.length_map,h0];rfl
   conv=>whnf
   exact go
  have ra:=eO hl h0
  have w:=fZ hl
  have g:decide ((((m.ca.map bF).length:Nat):Int)>0)=true:=by rw[List.length_map];exact decide_eq_true (by omega)
  by_cases h1:(cp m).ca=false
  ·rw[ne _ h1]at h2
   obtain rfl:=h2
   have gC:(if decide ((((m.ca.map bF).length:Nat):Int)>0)=true then(cp m).ca else false)=false:=by rw[if_pos g,h1]
   conv=>whnf
   exact go
  rw[Bool.not_eq_false]at h1
  have gC:(if decide ((((m.ca.map bF).length:Nat):Int)>0)=true then(cp m).ca else false)=true:=by rw[if_pos g,h1]
  have kl:=c79 m hl h0
  have hD:=h.dropC h0
  have hd:=ig m h0
  have kp:=HO (dropC m) hD
  have hP:=(jF hD (n:=0) rfl)
  have kt:=c78 (bn (dropC m) 0).1 (bn (dropC m) 0).2 hP.1
  have hT:=jc hP.1 hP.2
  have s2:=qh h0 h1
  have s3:=rH h0 h1
  have s4:=qx h0 h1
  have tl:=lB (bn (dropC m) 0).1 (bn (dropC m) 0).2
  have eP:(bn (dropC m) 0).1={dropC m with da:=(bn (dropC m) 0).1.da}:=rfl
  have lP:(bn (dropC m) 0).1.ca.length=(dropC m).ca.length:=rfl
  generalize bP (bn (dropC m) 0).1 (bn (dropC m) 0).2=tr at kt hT s2 s3 s4 tl
  generalize bn (dropC m) 0=pr at kp hP kt s2 s3 s4 tl eP lP
  generalize dropC m=D at kl hD hd kp eP lP
  obtain⟨pm,pt⟩:=pr
  obtain⟨tm,tt⟩:=tr
  dsimp only at*
  generalize pm.da=pd at eP kp
  subst eP
  conv=>whnf
  iterate 16 (first|(refine eo (kt ..) ?_;conv=>whnf)|(refine ax 78 [some 16,none] ?_;conv=>whnf)|(refine eo (kp ..) ?_;conv=>whnf)|(refine ax 80 [some 6,none] ?_;conv=>whnf)|(refine eo (kl ..) ?_;conv=>whnf)|(refine ax 79 [some 16] ?_;conv=>whnf)|refine aO ?_|(refine bS ?_ ?_<;>intro hb))
  rotate_left
  refine aO ?_
  rotate_left
  refine aO ?_
  rotate_left
  ·obtain rfl:=h2.symm.trans (s4 (by assumption) hb)
   exact go
  ·exact aE tm ⟨⟨hT.1,(s3 (by assumption) hb).symm.trans h2⟩,by have:tm.ca.length≤D.ca.length:=tl;omega⟩ rfl rfl
  ·exact aE {D with da:=pd} ⟨⟨hP.1,(s2 hb).symm.trans h2⟩,by show D.ca.length<m.ca.length;omega⟩ rfl rfl
theorem I8(m:Mch)(n:Int)(m1 m2:Mch)(t u:Int)(g1:(t != 0)=true)(g2:(u != 0)=true)(ke:Con Tryz.prog 77 [.obj (aY m),.int .i64 n] [.obj (aY m1),.undef] (.int .i64 t))(kt:Con Tryz.prog 78 [.obj (aY m1),.int .i64 t] [.obj (aY m2),.undef] (.int .i64 u)):Con Tryz.prog 33 [.obj (aY m),.int .i64 n] [.obj (aY m2),.undef] (.int .i64 u):=by
 refine rp 53 Tryz.func33 [.tmp 4] (g:= ?_)
 conv=>whnf
 repeat' (first|(refine ax 77 [some 16,none] ?_;conv=>whnf)|(refine eo (ke ..) ?_;conv=>whnf)|(refine ax 78 [some 16,none] ?_;conv=>whnf)|(refine eo (kt ..) ?_;conv=>whnf)|(focus (refine aq (by rfl) ?_;conv=>whnf))|exact True.intro|refine aO ?_)
theorem c33(m:Mch)(n:Int)(h:MI m):Con Tryz.prog 33 [.obj (aY m),.int .i64 n] [.obj (aY (dj TX true m n).1),.undef] (.int .i64 (dj TX true m n).2):=by
 have ke:=I9 m.fu.toNat m n h rfl
 have hx:=lI TX true m.fu.toNat m n h (by have:=h.fu;omega)
 unfold dj
 generalize dU TX true m.fu.toNat m n=x at ke hx
 obtain⟨m1,t⟩:=x
 unfold eD
 by_cases h0:t=0
 ·subst h0
  exact G9 m n m1 hx.1 _ ke rfl
 rw[if_neg (show ¬(m1,t).2=0 from h0)]
 have kt:=c78 m1 t hx.1
 have hy:=jc hx.1 hx.2
 dsimp only at*
 generalize bP m1 t=y at kt hy
 obtain⟨m2,u⟩:=y
 by_cases h1:u=0
 ·subst h1
  exact Hm m n m1 m2 t (bne_iff_ne.2 h0) hy.1 _ ke kt rfl
 ·rw[if_neg (show ¬(m2,u).2=0 from h1)]
  exact I8 m n m1 m2 t u (bne_iff_ne.2 h0) (bne_iff_ne.2 h1) ke kt
instance:CC 33:=⟨_,@c33⟩
theorem H0(m:Mch)(h:MI m)(hi:(m.co.length:Int)≤m.ip):Con Tryz.prog 51 [.obj (aY m)] [.obj (aY (dj TX true m 0).1)] (.int .i64 (dj TX true m 0).2):=by
 have ks:=c33 m 0 h
 generalize dj TX true m 0=x at ks
 refine rp 34 Tryz.func51 [.tmp 2] (g:= ?_)
 conv=>whnf
 repeat' (first|(refine ax 33 [some 16,none] ?_;conv=>whnf)|(refine eo (ks ..) ?_;conv=>whnf)|(focus (refine aq (by rfl) ?_;conv=>whnf))|exact True.intro|refine aO ?_)
theorem Hv(m:Mch)(h:MI m)(hi: ¬(m.co.length:Int)≤m.ip):Con Tryz.prog 51 [.obj (aY m)] [.obj (aY (dj TX true (nextM m) (m.co.getD m.ip.toNat 0)).1)] (.int .i64 (dj TX true (nextM m) (m.co.getD m.ip.toNat 0)).2):=by
 have ra:=iT h hi
 have hp:=h.ip
 have ks:=c33 (nextM m) (m.co.getD m.ip.toNat 0) (h.nextM (by omega))
 generalize dj TX true (nextM m) (m.co.getD m.ip.toNat 0)=x at ks
 rw[next_w h]at ks
 refine rp 34 Tryz.func51 [.tmp 2] (g:= ?_)
 conv=>whnf
 repeat' (first|(refine ax 33 [some 16,none] ?_;conv=>whnf)|(refine eo (ks ..) ?_;conv=>whnf)|(focus (refine aq (by rfl) ?_;conv=>whnf))|exact True.intro|refine aO ?_)
theorem c51(m:Mch)(h:MI m):Con Tryz.prog 51 [.obj (aY m)] [.obj (aY (dS TX true m).1)] (.int .i64 (dS TX true m).2):=by
 unfold dS
 split
 ·exact H0 m h (by assumption)
 ·exact Hv m h (by assumption)
instance:CC 51:=⟨_,@c51⟩
end X9

/- Runs; copies of machines; BeginToken, StepMachine, RunToken, by the program; contracts. -/
open Go Go.Abs Go.Proofs V1 H1 H2 H4 F1 F2 T1 T2 T3 P1 P2 P5 P9 P10 P20 M2 N1 N2 X1 X2 X3 X4 X5 X6 X7 X8 X9
namespace X10
theorem c53(m:Mch)(n:Int)(h:MI m):Con Tryz.prog 53 [.obj (aY m),.int .i64 n] [.obj (aY (mB TX true m n).1),.undef] (.tup [.int .i64 (mB TX true m n).2.1,.int .i64 (mB TX true m n).2.2]):=by
 have ke:=c33 m n h
 have hx:=ix (txt:=TX) (b:=true) h n
 have hw:=tg (txt:=TX) (b:=true) h n
 have hf:=h.fu
 unfold mB
 generalize dj TX true m n=x at ke hx hw
 obtain⟨m1,t⟩:=x
 dsimp only at ke hx hw⊢
 generalize hR:iW TX true (iR m1) m1 t 1=R
 have h1:MI m1:=hx.1
 clear hx
 refine rp 23 Tryz.func53 [.tmp 4,.tmp 5] (g:= ?_)
 conv=>whnf
 (refine ax 33 [some 16,none] ?_;conv=>whnf)
 refine aO ?_
 (refine eo (ke ..) ?_;conv=>whnf)
 refine aO ?_
 rotate_left
 refine LoopG.auto (α:=Mch × Int × Int) bH dI [0,6,7] (fun a=>[(0,.ptr 500000 0 0),(6,.int .i64 a.2.1),(7,.int .i64 a.2.2)]) (fun a=>Gt a.1) (fun a=>MI a.1∧(0≤a.2.2∧a.2.2+iR a.1≤5000)∧iW TX true (iR a.1) a.1 a.2.1 a.2.2=R) (fun a=>iR a.1) ?_ ?_
 ·conv=>whnf
  refine aO ?_
  rotate_left
  exact aE (m1,t,1) ⟨h1,⟨by dsimp only;omega,by dsimp only;omega⟩,hR⟩ rfl rfl
 ·clear hR ke hw hf h
  rintro ⟨m,t,s⟩ ⟨h,hs,h2⟩- -
  dsimp only at h hs h2⊢
  by_cases h0:m.ca.length=0
  ·rw[rZ _ _ _ h0]at h2
   obtain rfl:=h2
   have g:decide ((((m.ca.map bF).length:Nat):Int)>0)=false:=by rw[List.length_map,h0];rfl
   conv=>whnf
   exact go
  have g:decide ((((m.ca.map bF).length:Nat):Int)>0)=true:=by rw[List.length_map];exact decide_eq_true (by omega)
  have kn:=c51 m h
  have hn:=jG (txt:=TX) (b:=true) h
  have hw:=next_w (txt:=TX) (b:=true) h h0
  rw[EM h t s h0]at h2
  generalize dS TX true m=y at kn hn hw h2
  obtain⟨m2,u⟩:=y
  have ws:IntKind.i64.wrap (s+1)=s+1:=ai (by omega) (by omega)
  conv=>whnf
  iterate 5 (first|(refine eo (kn ..) ?_;conv=>whnf)|(refine ax 51 [some 16] ?_;conv=>whnf)|refine aO ?_)
  rotate_left
  exact aE (m2,u,IntKind.i64.wrap (s+1)) ⟨⟨hn.1,by rw[ws];dsimp only at hw⊢;omega,by rw[ws];exact h2⟩,hw⟩ rfl rfl
instance:CC 53:=⟨_,@c53⟩
theorem c72(xs:List Wd)(h:xs.length≤1048576):Con Tryz.prog 72 [fq xs] (aa [fq xs]) (bO xs):=by
 refine rn 8 Tryz.func72 [.tmp 2] (g:= ?_)
 conv=>whnf
 (refine vz (fun hz=> ?_) ?_<;>conv=>whnf)
 refine aO ?_
 rotate_left
 refine aO ?_
 rotate_left
 ·exact⟨qs (by simpa using hz)⟩
 ·exact⟨Sh.flat_map (fun _=>rfl) _⟩
theorem c74(xs:List Cal)(h:xs.length≤1048576):Con Tryz.prog 74 [od xs] (aa [od xs]) (bR xs):=by
 refine rn 8 Tryz.func74 [.tmp 2] (g:= ?_)
 conv=>whnf
 (refine vz (fun hz=> ?_) ?_<;>conv=>whnf)
 refine aO ?_
 rotate_left
 refine aO ?_
 rotate_left
 ·exact⟨qs (by simpa using hz)⟩
 ·exact⟨Sh.flat_map (fun _=>rfl) _⟩
structure smallM(m:Mch):Prop where
 ws:m.ws.length≤1048576
 co:m.co.length≤1048576
 ca:m.ca.length≤1048576
 da:ep m.da
 ho:dA m.ho
theorem gF{m:Mch}(h:MI m):smallM m:=⟨by have:=(bv h.ws).2.2;omega,by have:=h.co;omega,by have:=h.cl;omega,vS h.da,H3.small_host h.ho⟩
theorem c32(m:Mch)(h:smallM m):Con Tryz.prog 32 [aR m] (aa [aR m]) (wA m):=by
 have k1:=c75 m.da h.da
 have k2:=c76 m.ho h.ho
 refine rn 24 Tryz.func32 [.cell 2 41] (g:= ?_)
 conv=>whnf
 (iterate 118 ((first|refine ac (by solve|simp only[bj]|fail) ?_|apply ac rfl|refine af (ak (by solve|simp[bj]|fail)) ?_|apply af rfl|refine aG (fun hf=> ?_)|refine ChkS.mk (by kernel_rfl) ?_|refine ag (c72 _ h.ws) ?_|refine ag (c73 _ h.co) ?_|refine ag (c74 _ h.ca) ?_|refine ag (k1 ..) ?_|refine ag (k2 ..) ?_);conv=>whnf));(refine aA ?_;(rfl))
instance:CC 32:=⟨_,@c32⟩
def fy(m:Mch)(n:Int):Int:=if cZ m=false then 1 else if ck m.ws n=false then 13 else if 0<m.ca.length then 11 else 0
theorem c31(m:Mch)(n:Int):Con Tryz.prog 31 [aR m,.int .i64 n] (aa [aR m,.int .i64 n]) (.int .i64 (fy m n)):=by
 have k1:=c50 m
 unfold fy
 by_cases h:cZ m=true
 ·have hw:=(bv ((fW m).1 h).1.ws).2.2
  have kt:=c71 m.ws n hw
  rw[h]at k1
  rw[if_neg (by rw[h];simp)]
  refine rn 20 Tryz.func31 [.tmp 4] (g:= ?_)
  conv=>whnf
  repeat' (first|(focus (refine aA ?_;(first|(simp_all;done)|(simp_all;omega))))|refine aO ?_|(refine bS ?_ ?_<;>intro hb))
 ·rw[Bool.not_eq_true]at h
  rw[h]at k1
  rw[if_pos h]
  exact rn 20 Tryz.func31 [.tmp 4] (g:=go)
instance:CC 31:=⟨_,@c31⟩
def uk:Mch:=⟨[],[],KP,Jy,[],0,0⟩
def Jx:AV:=.agg [.emp,.emp,.emp,.emp,.emp,.int .i64 0,.int .i64 0,.str [],.emp,.emp,.emp,.int .i64 0,.emp,.emp,.int .i64 0,.int .i64 0]
theorem xP:Sh Jx (wA uk):=Sh.agg ⟨Sh.emp_own _ _,Sh.emp_own _ _,Sh.emp_own _ _,Sh.emp_own _ _,Sh.emp_own _ _,Sh.refl _,Sh.refl _,Sh.refl _,Sh.emp_own _ _,Sh.emp_own _ _,Sh.emp_own _ _,Sh.refl _,Sh.emp_own _ _,Sh.emp_own _ _,Sh.refl _,Sh.refl _,trivial⟩
theorem pN{m:Mch}{n:Int}(h:fy m n=0):MI m∧ck m.ws n=true∧m.ca.length=0:=by
 unfold fy at h
 repeat' split at h
 all_goals first|(exfalso;omega)|skip
 rename_i h1 h2 h3
 rw[Bool.not_eq_false]at h1 h2
 exact⟨((fW m).1 h1).1,h2,by omega⟩
def oW(b:Bool)(m:Mch)(n:Int):Mch × Int × Int:=if fy m n=0 then((dj TX b m n).1,(dj TX b m n).2,0)else(uk,0,fy m n)
def FX(x:Mch × Int × Int):AV:=.tup [wA x.1,.int .i64 x.2.1,.int .i64 x.2.2]
theorem pD(a b:Int):Sh (.tup [Jx,.int .i64 a,.int .i64 b]) (FX (uk,a,b)):=Sh.tup ⟨xP,Sh.refl _,Sh.refl _,trivial⟩
theorem c9(m:Mch)(n:Int):Con Tryz.prog 9 [aR m,.int .i64 n] (aa [aR m,.int .i64 n]) (FX (oW true m n)):=by
 have kc:=c31 m n
 unfold oW
 by_cases h:fy m n=0
 ·rw[if_pos h]
  have hM:=(pN h).1
  rw[h]at kc
  have k1:=c32 m (gF hM)
  have ks:=c33 m n hM
  generalize dj TX true m n=x at ks
  refine rn 23 Tryz.func9 [.cell 4 41,.tmp 5,.tmp 6] (g:= ?_)
  conv=>whnf
  iterate 4 (first|(refine eo (ks ..) ?_;conv=>whnf)|(refine ax 33 [some 16,none] ?_;conv=>whnf)|refine aO ?_)
  exact go
 ·rw[if_neg h]
  have g:(fy m n != 0)=true:=bne_iff_ne.2 h
  refine rn 23 Tryz.func9 [.cell 4 41,.tmp 5,.tmp 6] (g:= ?_)
  conv=>whnf
  refine aO ?_
  rotate_left
  exact⟨pD _ _⟩
def uH(m:Mch):Int:=if cZ m=false then 1 else if m.ca.length=0 then 11 else 0
def nX(b:Bool)(m:Mch):Mch × Int × Int:=if uH m=0 then((dS TX b m).1,(dS TX b m).2,0)else(uk,0,uH m)
theorem EG{b:Bool}{m:Mch}(h:cZ m=false):nX b m=(uk,0,1):=by simp[nX,uH,h]
theorem Ez{b:Bool}{m:Mch}(h:cZ m=true)(h0:m.ca.length=0):nX b m=(uk,0,11):=by
 have e:uH m=11:=by unfold uH;rw[if_neg (by rw[h];decide),if_pos h0]
 rw[nX,e];rfl
theorem Es{b:Bool}{m:Mch}(h:cZ m=true)(h0: ¬m.ca.length=0):nX b m=((dS TX b m).1,(dS TX b m).2,0):=by
 have e:uH m=0:=by unfold uH;rw[if_neg (by rw[h];decide),if_neg h0]
 rw[nX,e];rfl
theorem c14(m:Mch):Con Tryz.prog 14 [aR m] (aa [aR m]) (FX (nX true m)):=by
 have kc:=c50 m
 by_cases h:cZ m=true
 rotate_left
 ·rw[Bool.not_eq_true]at h
  rw[EG h]
  rw[h]at kc
  refine rn 23 Tryz.func14 [.cell 2 41,.tmp 3,.tmp 4] (g:= ?_)
  conv=>whnf
  refine aO ?_
  rotate_left
  exact⟨pD _ _⟩
 rw[h]at kc
 have hM:=((fW m).1 h).1
 by_cases h0:m.ca.length=0
 ·rw[Ez h h0]
  have g:((((m.ca.map bF).length:Nat):Int)==0)=true:=by rw[List.length_map,h0];rfl
  refine rn 23 Tryz.func14 [.cell 2 41,.tmp 3,.tmp 4] (g:= ?_)
  conv=>whnf
  refine aO ?_
  rotate_left
  exact⟨pD _ _⟩
 ·rw[Es h h0]
  have g:((((m.ca.map bF).length:Nat):Int)==0)=false:=by rw[List.length_map];simpa using h0
  have k1:=c32 m (gF hM)
  have ks:=c51 m hM
  generalize dS TX true m=x at ks
  refine rn 23 Tryz.func14 [.cell 2 41,.tmp 3,.tmp 4] (g:= ?_)
  conv=>whnf
  iterate 4 (first|(refine eo (ks ..) ?_;conv=>whnf)|(refine ax 51 [some 16] ?_;conv=>whnf)|refine aO ?_)
  exact go
def oA(b:Bool)(m:Mch)(n:Int):Mch × Int × Int × Int:=if fy m n=0 then((mB TX b m n).1,(mB TX b m n).2.1,(mB TX b m n).2.2,0)else(uk,0,0,fy m n)
def Je(x:Mch × Int × Int × Int):AV:=.tup [wA x.1,.int .i64 x.2.1,.int .i64 x.2.2.1,.int .i64 x.2.2.2]
theorem yB(a b c:Int):Sh (.tup [Jx,.int .i64 a,.int .i64 b,.int .i64 c]) (Je (uk,a,b,c)):=Sh.tup ⟨xP,Sh.refl _,Sh.refl _,Sh.refl _,trivial⟩
theorem c16(m:Mch)(n:Int):Con Tryz.prog 16 [aR m,.int .i64 n] (aa [aR m,.int .i64 n]) (Je (oA true m n)):=by
 have kc:=c31 m n
 unfold oA
 by_cases h:fy m n=0
 ·rw[if_pos h]
  have hM:=(pN h).1
  rw[h]at kc
  have k1:=c32 m (gF hM)
  have ks:=c53 m n hM
  generalize mB TX true m n=x at ks
  refine rn 29 Tryz.func16 [.cell 4 41,.tmp 5,.tmp 6,.tmp 7] (g:= ?_)
  conv=>whnf
  iterate 4 (first|(refine eo (ks ..) ?_;conv=>whnf)|(refine ax 53 [some 16,none] ?_;conv=>whnf)|refine aO ?_)
  exact go
 ·rw[if_neg h]
  have g:(fy m n != 0)=true:=bne_iff_ne.2 h
  refine rn 29 Tryz.func16 [.cell 4 41,.tmp 5,.tmp 6,.tmp 7] (g:= ?_)
  conv=>whnf
  refine aO ?_
  rotate_left
  exact⟨yB _ _ _⟩
end X10
