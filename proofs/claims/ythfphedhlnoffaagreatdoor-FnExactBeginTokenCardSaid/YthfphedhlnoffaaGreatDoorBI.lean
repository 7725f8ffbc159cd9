import Derived.Test.YthfphedhlnoffaaGreatDoorBH
import Derived.Test.YthfphedhlnoffaaGreatDoorBE
/- A word runs, by the program; the contract. -/
set_option linter.unusedVariables false
set_option maxHeartbeats 4000000
set_option linter.unusedSimpArgs false
set_option maxRecDepth 100000
open Go Go.Abs Go.Proofs V1 H1 H2 H4 F1 F2 T1 T2 T3 P1 P2 P5 P9 P10 P20 N1 X1 X2 X3 X4 X5 X6
namespace X7
abbrev wF(m:Mch):Mch:={m with fu:=IntKind.i64.wrap (m.fu-1)}
theorem yw{m:Mch}(h:MI m)(h0:m.fu≠0):{m with fu:=m.fu-1}=wF m:=by
 have:=h.fu
 rw[wF,ai (by omega) (by omega)]
theorem KO(m:Mch)(n:Int)(h0:m.fu=0):Con Tryz.prog 77 [.obj (aR m),.int .i64 n] [.obj (aR m),.undef] (.int .i64 (-101)):=by
 have g:(m.fu==0)=true:=by rw[h0];rfl
 exact rp 133 Tryz.func77 [.tmp 4] (g:=go)
section
variable{m:Mch}{n:Int}
theorem KW(h:MI m)(h0:(m.fu==0)=false)(hn:bh n 1 m.ws.length=false):Con Tryz.prog 77 [.obj (aR m),.int .i64 n] [.obj (aR (wF m)),.undef] (.int .i64 (-24)):=by
 have k1:=c95 n 1 ((m.ws.map dc).length:Nat)
 rw[show bh n 1 ((m.ws.map dc).length:Nat)=bh n 1 m.ws.length by rw[List.length_map],hn]at k1
 exact rp 133 Tryz.func77 [.tmp 4] (g:=go)
theorem K9(h:MI m)(h0:(m.fu==0)=false)(hn:bh n 1 m.ws.length=true){nm:List UInt8}{v:Int}(hx:cQ m.ws n=⟨nm,5,v⟩):Con Tryz.prog 77 [.obj (aR m),.int .i64 n] [.obj (aR (wF m)),.undef] (.int .i64 (-24)):=by
 have k1:=c95 n 1 ((m.ws.map dc).length:Nat)
 rw[show bh n 1 ((m.ws.map dc).length:Nat)=bh n 1 m.ws.length by rw[List.length_map],hn]at k1
 have hw:=(bu h.ws).2.2
 have i1:=aN hn
 have w1:IntKind.i64.wrap (n-1)=n-1:=ai (by omega) (by omega)
 have ra:=cE hw hn
 rw[hx]at ra
 exact rp 133 Tryz.func77 [.tmp 4] (g:=go)
theorem Ja(h:MI m)(h0:(m.fu==0)=false)(hn:bh n 1 m.ws.length=true){nm:List UInt8}{v:Nat}(hx:cQ m.ws n=⟨nm,1,v⟩)(hv:cp v):Con Tryz.prog 77 [.obj (aR m),.int .i64 n] [.obj (aR (rW TX (wF m) v).1),.undef] (.int .i64 (rW TX (wF m) v).2):=by
 have k1:=c95 n 1 ((m.ws.map dc).length:Nat)
 rw[show bh n 1 ((m.ws.map dc).length:Nat)=bh n 1 m.ws.length by rw[List.length_map],hn]at k1
 have hw:=(bu h.ws).2.2
 have i1:=aN hn
 have w1:IntKind.i64.wrap (n-1)=n-1:=ai (by omega) (by omega)
 have ra:=cE hw hn
 rw[hx]at ra
 have kf:=c112 (wF m) h.cl
 have kc:=A9 v hv nm m.da (bF (wF m)) h.da h.floor
 have e:rW TX (wF m) v=({wF m with da:=(eo TX v (bF (wF m)) m.da).1},(eo TX v (bF (wF m)) m.da).2):=rfl
 rw[e]
 generalize eo TX v (bF (wF m)) m.da=x at kc
 refine rp 133 Tryz.func77 [.tmp 4] (g:= ?_)
 conv=>whnf
 repeat' (first|(refine ay 112 [some 16] ?_;conv=>whnf)|(refine eH (kf ..) ?_;conv=>whnf)|(refine ay 113 [none,none] ?_;conv=>whnf)|(refine eH (kc ..) ?_;conv=>whnf)|(focus (refine aq (by rfl) ?_;conv=>whnf))|exact True.intro|refine aP ?_)
theorem KE(h:MI m)(h0:(m.fu==0)=false)(hn:bh n 1 m.ws.length=true){nm:List UInt8}{v:Int}(hx:cQ m.ws n=⟨nm,4,v⟩)(hv:1≤v∧v≤4):Con Tryz.prog 77 [.obj (aR m),.int .i64 n] [.obj (aR (rL (wF m) v).1),.undef] (.int .i64 (rL (wF m) v).2):=by
 have k1:=c95 n 1 ((m.ws.map dc).length:Nat)
 rw[show bh n 1 ((m.ws.map dc).length:Nat)=bh n 1 m.ws.length by rw[List.length_map],hn]at k1
 have hw:=(bu h.ws).2.2
 have i1:=aN hn
 have w1:IntKind.i64.wrap (n-1)=n-1:=ai (by omega) (by omega)
 have w2:IntKind.i64.wrap (v-1)=v-1:=ai (by omega) (by omega)
 have ra:=cE hw hn
 rw[hx]at ra
 have kc:=Es m.ho m.da (IntKind.i64.wrap (v-1)) ((gV _).2 h.ho) ((gP _).2 h.da) (by rw[w2];simp[bh];omega)
 have e:rL (wF m) v=({wF m with ho:=(bA m.ho m.da (IntKind.i64.wrap (v-1)).toNat).1,da:=(bA m.ho m.da (IntKind.i64.wrap (v-1)).toNat).2.1},(bA m.ho m.da (IntKind.i64.wrap (v-1)).toNat).2.2):=by rw[w2];rfl
 rw[e]
 generalize bA m.ho m.da (IntKind.i64.wrap (v-1)).toNat=x at kc
 exact rp 133 Tryz.func77 [.tmp 4] (g:=go)
theorem KM(h:MI m)(h0:(m.fu==0)=false)(hn:bh n 1 m.ws.length=true){nm:List UInt8}{v:Int}(hx:cQ m.ws n=⟨nm,7,v⟩):Con Tryz.prog 77 [.obj (aR m),.int .i64 n] [.obj (aR (bi (wF m) v).1),.undef] (.int .i64 (bi (wF m) v).2):=by
 have k1:=c95 n 1 ((m.ws.map dc).length:Nat)
 rw[show bh n 1 ((m.ws.map dc).length:Nat)=bh n 1 m.ws.length by rw[List.length_map],hn]at k1
 have hw:=(bu h.ws).2.2
 have i1:=aN hn
 have w1:IntKind.i64.wrap (n-1)=n-1:=ai (by omega) (by omega)
 have ra:=cE hw hn
 rw[hx]at ra
 have kp:=c80 m.da v (by have:=h.da.st;omega)
 refine rp 133 Tryz.func77 [.tmp 4] (g:= ?_)
 conv=>whnf
 repeat' (first|(refine ay 80 [some 6,none] ?_;conv=>whnf)|(refine eH (kp ..) ?_;conv=>whnf)|(focus (refine aq (by rfl) ?_;conv=>whnf))|exact True.intro|refine aP ?_)
theorem KF(h:MI m)(h0:(m.fu==0)=false)(hn:bh n 1 m.ws.length=true){nm:List UInt8}{v:Int}(hx:cQ m.ws n=⟨nm,8,v⟩):Con Tryz.prog 77 [.obj (aR m),.int .i64 n] [.obj (aR (bi (wF m) v).1),.undef] (.int .i64 (bi (wF m) v).2):=by
 have k1:=c95 n 1 ((m.ws.map dc).length:Nat)
 rw[show bh n 1 ((m.ws.map dc).length:Nat)=bh n 1 m.ws.length by rw[List.length_map],hn]at k1
 have hw:=(bu h.ws).2.2
 have i1:=aN hn
 have w1:IntKind.i64.wrap (n-1)=n-1:=ai (by omega) (by omega)
 have ra:=cE hw hn
 rw[hx]at ra
 have kp:=c80 m.da v (by have:=h.da.st;omega)
 refine rp 133 Tryz.func77 [.tmp 4] (g:= ?_)
 conv=>whnf
 repeat' (first|(refine ay 80 [some 6,none] ?_;conv=>whnf)|(refine eH (kp ..) ?_;conv=>whnf)|(focus (refine aq (by rfl) ?_;conv=>whnf))|exact True.intro|refine aP ?_)
abbrev rq(m:Mch):Cal:=⟨m.ip,((m.da.bk.map aj).length:Nat),0,false⟩
theorem Jt(h:MI m)(h0:(m.fu==0)=false)(hn:bh n 1 m.ws.length=true){nm:List UInt8}{v:Int}(hx:cQ m.ws n=⟨nm,6,v⟩)(hc:m.ca.length=16):Con Tryz.prog 77 [.obj (aR m),.int .i64 n] [.obj (aR (wF m)),.undef] (.int .i64 (-50)):=by
 have k1:=c95 n 1 ((m.ws.map dc).length:Nat)
 rw[show bh n 1 ((m.ws.map dc).length:Nat)=bh n 1 m.ws.length by rw[List.length_map],hn]at k1
 have hw:=(bu h.ws).2.2
 have i1:=aN hn
 have w1:IntKind.i64.wrap (n-1)=n-1:=ai (by omega) (by omega)
 have ra:=cE hw hn
 rw[hx]at ra
 have ka:=c117 (wF m) (rq m) h.cl
 rw[sf (show(wF m).ca.length=16 from hc)]at ka
 refine rp 133 Tryz.func77 [.tmp 4] (g:= ?_)
 conv=>whnf
 repeat' (first|(refine ay 117 [some 16,none] ?_;conv=>whnf)|(refine eH (ka ..) ?_;conv=>whnf)|(focus (refine aq (by rfl) ?_;conv=>whnf))|exact True.intro|refine aP ?_)
theorem J8(h:MI m)(h0:(m.fu==0)=false)(hn:bh n 1 m.ws.length=true){nm:List UInt8}{v:Int}(hx:cQ m.ws n=⟨nm,6,v⟩)(hc: ¬m.ca.length=16):Con Tryz.prog 77 [.obj (aR m),.int .i64 n] [.obj (aR {wF m with ca:=m.ca++[rq m],ip:=v}),.undef] (.int .i64 0):=by
 have k1:=c95 n 1 ((m.ws.map dc).length:Nat)
 rw[show bh n 1 ((m.ws.map dc).length:Nat)=bh n 1 m.ws.length by rw[List.length_map],hn]at k1
 have hw:=(bu h.ws).2.2
 have i1:=aN hn
 have w1:IntKind.i64.wrap (n-1)=n-1:=ai (by omega) (by omega)
 have ra:=cE hw hn
 rw[hx]at ra
 have ka:=c117 (wF m) (rq m) h.cl
 rw[ry (show ¬(wF m).ca.length=16 from hc)]at ka
 refine rp 133 Tryz.func77 [.tmp 4] (g:= ?_)
 conv=>whnf
 repeat' (first|(refine ay 117 [some 16,none] ?_;conv=>whnf)|(refine eH (ka ..) ?_;conv=>whnf)|(focus (refine aq (by rfl) ?_;conv=>whnf))|exact True.intro|refine aP ?_)
theorem KV(h:MI m)(h0:(m.fu==0)=false)(hn:bh n 1 m.ws.length=true){nm:List UInt8}{v:Int}(hx:cQ m.ws n=⟨nm,2,v⟩)(r:Mch × Int)(kf:Con Tryz.prog 118 [.obj (aR (wF m)),.int .i64 n] [.obj (aR r.1),.undef] (.int .i64 r.2)):Con Tryz.prog 77 [.obj (aR m),.int .i64 n] [.obj (aR r.1),.undef] (.int .i64 r.2):=by
 have k1:=c95 n 1 ((m.ws.map dc).length:Nat)
 rw[show bh n 1 ((m.ws.map dc).length:Nat)=bh n 1 m.ws.length by rw[List.length_map],hn]at k1
 have hw:=(bu h.ws).2.2
 have i1:=aN hn
 have w1:IntKind.i64.wrap (n-1)=n-1:=ai (by omega) (by omega)
 have ra:=cE hw hn
 rw[hx]at ra
 refine rp 133 Tryz.func77 [.tmp 4] (g:= ?_)
 conv=>whnf
 repeat' (first|(refine ay 118 [some 16,none] ?_;conv=>whnf)|(refine eH (kf ..) ?_;conv=>whnf)|(focus (refine aq (by rfl) ?_;conv=>whnf))|exact True.intro|refine aP ?_)
theorem KJ(h:MI m)(h0:(m.fu==0)=false)(hn:bh n 1 m.ws.length=true){nm:List UInt8}{v:Int}(hx:cQ m.ws n=⟨nm,3,v⟩)(r:Mch × Int)(kf:Con Tryz.prog 119 [.obj (aR (wF m)),.int .i64 n] [.obj (aR r.1),.undef] (.int .i64 r.2)):Con Tryz.prog 77 [.obj (aR m),.int .i64 n] [.obj (aR r.1),.undef] (.int .i64 r.2):=by
 have k1:=c95 n 1 ((m.ws.map dc).length:Nat)
 rw[show bh n 1 ((m.ws.map dc).length:Nat)=bh n 1 m.ws.length by rw[List.length_map],hn]at k1
 have hw:=(bu h.ws).2.2
 have i1:=aN hn
 have w1:IntKind.i64.wrap (n-1)=n-1:=ai (by omega) (by omega)
 have ra:=cE hw hn
 rw[hx]at ra
 refine rp 133 Tryz.func77 [.tmp 4] (g:= ?_)
 conv=>whnf
 repeat' (first|(refine ay 119 [some 16,none] ?_;conv=>whnf)|(refine eH (kf ..) ?_;conv=>whnf)|(focus (refine aq (by rfl) ?_;conv=>whnf))|exact True.intro|refine aP ?_)
end
theorem Hl: ∀(f:Nat)(m:Mch)(n:Int),MI m→m.fu.toNat=f→Con Tryz.prog 77 [.obj (aR m),.int .i64 n] [.obj (aR (dX TX true f m n).1),.undef] (.int .i64 (dX TX true f m n).2)
 |0,m,n,h,hf=>KO m n (by have:=h.fu;omega)
 |f+1,m,n,h,hf=>by
  have h00:m.fu≠0:=by omega
  have h0:(m.fu==0)=false:=by simpa using h00
  have hM:MI (wF m):=by rw[←yw h h00];exact h.setFu (by have:=h.fu;omega)
  unfold dX pJ
  rw[yw h h00]
  by_cases hn:bh n 1 m.ws.length=false
  ·rw[if_pos hn];exact KW h h0 hn
  rw[if_neg hn]
  rw[Bool.not_eq_false]at hn
  have hw:=sq h.ws hn
  generalize hx:cQ (wF m).ws n=x at hw⊢
  obtain⟨nm,k,v⟩:=x
  have hx:cQ m.ws n=⟨nm,k,v⟩:=hx
  have hfu:(wF m).fu.toNat=f:=by rw[←yw h h00];show(m.fu-1).toNat=f;omega
  have he: ∀m' n',MI m'→m'.fu=(wF m).fu→Con Tryz.prog 77 [.obj (aR m'),.int .i64 n'] [.obj (aR (dX TX true f m' n').1),.undef] (.int .i64 (dX TX true f m' n').2):=fun m' n' hm' e=>Hl f m' n' hm' (by rw[e];exact hfu)
  unfold oT
  by_cases k5:k=5
  ·subst k5;exact K9 h h0 hn hx
  rw[if_neg (show ¬(⟨nm,k,v⟩:Wd).k=5 from k5)]
  by_cases k1:k=1
  ·subst k1
   have hv:(1≤v∧v≤52)∧n=v:=by simpa[lI,bh]using hw
   obtain⟨p,rfl⟩: ∃p:Nat,v=p:=⟨v.toNat,by omega⟩
   rw[if_pos (show(⟨nm,1,p⟩:Wd).k=1 from rfl)]
   exact Ja h h0 hn hx (by unfold cp;omega)
  rw[if_neg (show ¬(⟨nm,k,v⟩:Wd).k=1 from k1)]
  by_cases k4:k=4
  ·subst k4
   have hv:1≤v∧v≤4:=by simpa[lI,bh]using hw
   exact KE h h0 hn hx hv
  rw[if_neg (show ¬(⟨nm,k,v⟩:Wd).k=4 from k4)]
  by_cases k7:k=7
  ·subst k7;exact KM h h0 hn hx
  by_cases k8:k=8
  ·subst k8;exact KF h h0 hn hx
  rw[if_neg (show ¬((⟨nm,k,v⟩:Wd).k=7∨(⟨nm,k,v⟩:Wd).k=8)from fun e=>e.elim k7 k8)]
  by_cases k6:k=6
  ·subst k6
   rw[if_pos (show(⟨nm,6,v⟩:Wd).k=6 from rfl)]
   unfold uy
   by_cases hc:m.ca.length=16
   ·rw[if_pos (show(wF m).ca.length=16 from hc)];exact Jt h h0 hn hx hc
   ·rw[if_neg (show ¬(wF m).ca.length=16 from hc)]
    have e:rq m=⟨(wF m).ip,(wF m).da.bk.length,0,false⟩:=by simp[rq]
    have k:=J8 h h0 hn hx hc
    rw[e]at k
    exact k
  rw[if_neg (show ¬(⟨nm,k,v⟩:Wd).k=6 from k6)]
  by_cases k2:k=2
  ·subst k2
   have hv:(1≤v∧v≤4)∧n=v+52:=by simpa[lI,bh]using hw
   have kf:=Kr (wF m) hM (dX TX true f) he v hv.1
   rw[←hv.2]at kf
   exact KV h h0 hn hx _ kf
  rw[if_neg (show ¬(⟨nm,k,v⟩:Wd).k=2 from k2)]
  have hv:k=3∧(1≤v∧v≤6)∧n=v+56:=by
   simp only[lI,bh,k5,k1,k4,k7,k8,k6,k2]at hw
   simpa[and_assoc]using hw
  obtain⟨rfl,hv,e⟩:=hv
  have kf:=GJ (wF m) hM v hv
  rw[←e]at kf
  exact KJ h h0 hn hx _ kf
end X7

/- Throws, by the program; the contract. -/
open Go Go.Abs Go.Proofs V1 H1 H2 H4 F1 F2 T1 T2 T3 P1 P2 P5 P9 P10 P20 N1 X1 X2 X3 X4 X5 X6 X7
namespace X8
abbrev zU:List AV:=[.undef,.undef,.undef,.undef,.undef,.undef,.undef,.undef,.undef,.undef,.undef,.undef,.undef,.undef,.undef,.undef]
def JN(m:Mch):Ms:=[(500000,.live ⟨false,0,zU,[[.ref 500001 0 (m.ws.map dc).length,.ref 500002 0 (m.co.map aj).length,.ref 500003 0 (m.da.st.map aj).length,.ref 500004 0 (m.da.bk.map aj).length,.ref 500005 0 (m.da.ce.map aj).length,.int .i64 m.da.he,.int .i64 m.da.ba,.str m.da.ou,.ref 500009 0 (m.ho.gr.map dQ).length,.ref 500010 0 (m.ho.st.map aj).length,.ref 500011 0 (m.ho.q.map aj).length,.int .i64 m.ho.tk,.ref 500013 0 (m.ho.ds.map aV).length,.ref 500014 0 (m.ca.map bK).length,.int .i64 m.ip,.int .i64 m.fu]]⟩),
 (500001,.live ⟨true,0,zW,m.ws.map dc⟩),(500002,.live ⟨true,0,zI,m.co.map aj⟩),(500003,.live ⟨true,0,zI,m.da.st.map aj⟩),(500004,.live ⟨true,0,zI,m.da.bk.map aj⟩),(500005,.live ⟨true,0,zI,m.da.ce.map aj⟩),(500009,.live ⟨true,0,[.bool false],m.ho.gr.map dQ⟩),(500010,.live ⟨true,0,zI,m.ho.st.map aj⟩),(500011,.live ⟨true,0,zI,m.ho.q.map aj⟩),(500013,.live ⟨true,0,[.int .i64 0,.int .i64 0,.int .i64 0,.int .i64 0],m.ho.ds.map aV⟩),(500014,.live ⟨true,0,zC,m.ca.map bK⟩)]
theorem Ac{cs:List Cal}{i:Nat}(h:(cs.getD i default).ca=true):eu cs (i+1)=i:=by rw[eu,if_pos h]
theorem zo{cs:List Cal}{i:Nat}(h:(cs.getD i default).ca=false):eu cs (i+1)=eu cs i:=by rw[eu,if_neg (by rw[h];simp)]
theorem sT{m:Mch}{t:Int}(h:t= -101∨eu m.ca m.ca.length<0):bR m t=({m with ca:=[],ip:=0},t):=by rw[bR,if_pos h]
theorem tp{m:Mch}{t:Int}(h: ¬(t= -101∨eu m.ca m.ca.length<0)):bR m t=({m with ca:=m.ca.take (eu m.ca m.ca.length).toNat,ip:=(se m).ip,da:={m.da with st:=mJ m.da.st (se m).dp++[t],bk:=m.da.bk.take (se m).fl.toNat}},0):=by rw[bR,if_neg h]
theorem Bk(st:List Int)(k t:Int):am (am (List.take 0 (List.replicate k.toNat [AV.int .i64 0])++List.take k.toNat (am (st.map aj) 0 (st.map aj).length)++List.drop (0+min (am (st.map aj) 0 (st.map aj).length).length k.toNat) (List.replicate k.toNat [AV.int .i64 0])) 0 k.toNat++am [[AV.int .i64 t]] 0 1) 0 (k.toNat+(am [[AV.int .i64 t]] 0 1).length)=(mJ st k++[t]).map aj:=by
 have h1: ∀l:List (List AV),am l 0 l.length=l:=fun l=>al rfl
 have e:(List.take k.toNat (st.map aj)++List.drop (min st.length k.toNat) (List.replicate k.toNat [AV.int .i64 0]))=(mJ st k).map aj:=by
  unfold mJ
  rw[List.map_append,List.map_take,List.map_replicate,List.drop_replicate,show k.toNat-min st.length k.toNat=k.toNat-st.length by omega]
  rfl
 have hl:(mJ st k).length=k.toNat:=by unfold mJ;simp only[List.length_append,List.length_take,List.length_replicate];omega
 rw[h1,List.length_map,Nat.zero_add,List.take_zero,List.nil_append,e,al (rows:=(mJ st k).map aj) (by rw[List.length_map,hl]),al (by rw[List.length_append,List.length_map,hl]),List.map_append]
 rfl
theorem yQ{l:List Int}{f:Int}(h:0≤f∧f≤l.length):(List.take ((if((l.map aj).length:Int)<f then((l.map aj).length:Int)else f).toNat-0) (List.drop (0+0) l)).map aj=(l.take f.toNat).map aj:=by
 rw[List.length_map,if_neg (by omega)]
 rfl
theorem zV{m:Mch}(c1:eu m.ca m.ca.length<m.ca.length)(c2: ¬eu m.ca m.ca.length<0):se m∈m.ca:=by
 have hi:(eu m.ca m.ca.length).toNat<m.ca.length:=by omega
 unfold se
 rw[List.getD_eq_getElem?_getD,List.getElem?_eq_getElem hi]
 exact List.getElem_mem hi
theorem zK(m:Mch)(i:Int):Sh (.agg [dz m.ws,aU m.co,aU m.da.st,aU m.da.bk,aU m.da.ce,.int .i64 m.da.he,.int .i64 m.da.ba,.str m.da.ou,bn m.ho.gr,aU m.ho.st,aU m.ho.q,.int .i64 m.ho.tk,bm m.ho.ds,.emp,.int .i64 i,.int .i64 m.fu]) (.agg (aR {m with ca:=[],ip:=i})):=
 Sh.agg ⟨Sh.refl _,Sh.refl _,Sh.refl _,Sh.refl _,Sh.refl _,Sh.refl _,Sh.refl _,Sh.refl _,Sh.refl _,Sh.refl _,Sh.refl _,Sh.refl _,Sh.refl _,Sh.emp_own _ _,Sh.refl _,Sh.refl _,trivial⟩
theorem c78(m:Mch)(t:Int)(h:MI m):Con Tryz.prog 78 [.obj (aR m),.int .i64 t] [.obj (aR (bR m t).1),.undef] (.int .i64 (bR m t).2):=by
 have hl:=h.cl
 refine rp 95 Tryz.func78 [.tmp 4] (g:= ?_)
 conv=>whnf
 refine aP ?_
 rotate_left
 refine LoopG.rounds (α:=Nat) bI dN [0,1,5,13,14,15] [(500000,500000),(500001,500001),(500002,500002),(500003,500003),(500004,500004),(500005,500005),(500009,500009),(500010,500010),(500011,500011),(500013,500013),(500014,500014)] (fun i=>[(0,.ptr 500000 0 0),(1,.int .i64 t),(5,.int .i64 (eu m.ca i)),(13,.ref 500014 0 (m.ca.map bK).length),(14,.int .i64 (m.ca.map bK).length),(15,.int .i64 i)]) (fun i=>JN m) (fun i=>i≤m.ca.length) (fun i=>m.ca.length-i) ?_ ?_
 ·conv=>whnf
  rotate_left
  exact aE 0 (Nat.zero_le _) rfl rfl
 ·intro i hi _ _
  conv=>whnf
  repeat (apply ac rfl;conv=>whnf)
  refine ck ?_ ?_<;>intro hb<;>(try simp only[ew,List.length_map]at hb)<;>conv=>whnf
  ·have w:=ai (n:=(i:Int)+1) (by omega) (by omega)
   refine bJ ?_
   (refine aD (by(((try simp only[Nat.zero_add,List.length_map,Int.toNat_natCast]);exact aF bK _ _ _ default (by first|omega|(simp;omega))))) ?_;conv=>whnf)
   refine bJ ?_
   (refine bN ?_ ?_<;>intro hb)
   iterate 2 (rotate_left)
   ·exact aE (i+1) ⟨by omega,by omega⟩ (by rw[w,Ac hb];rfl) rfl
   ·exact aE (i+1) ⟨by omega,by omega⟩ (by rw[w,zo (by simpa using hb)];rfl) rfl
  ·obtain rfl:i=m.ca.length:=by omega
   by_cases h0:t= -101∨eu m.ca m.ca.length<0
   ·rw[sT h0]
    by_cases h1:t= -101
    ·subst h1
     iterate 3 (first|(refine aq (by rfl) ?_;conv=>whnf)|refine aP ?_)
     rotate_left
     refine na (zK m 0) ?_
     conv=>whnf
     exact go
    ·have g1:(t== -101)=false:=by simpa using h1
     have g2:decide (eu m.ca m.ca.length<0)=true:=decide_eq_true (h0.resolve_left h1)
     iterate 3 (first|(refine aq (by rfl) ?_;conv=>whnf)|refine aP ?_)
     rotate_left
     refine na (zK m 0) ?_
     conv=>whnf
     exact go
   ·rw[tp h0]
    have g1:(t== -101)=false:=by simpa using fun h=>h0 (.inl h)
    have g2:decide (eu m.ca m.ca.length<0)=false:=decide_eq_false fun h=>h0 (.inr h)
    have c1:=mK m.ca m.ca.length
    have c2: ¬eu m.ca m.ca.length<0:=fun h=>h0 (.inr h)
    have ha:=h.ci _ (zV c1 c2)
    have hd:=ha.dp
    have hf:=ha.fl
    have hs:=h.da.st
    have hb2:=h.da.bk
    have ra: ∀z,dm (m.ca.map bK) (eu m.ca m.ca.length).toNat z=bK (se m):=fun z=>aF bK _ _ _ default (by omega)
    have e1:=Bk m.da.st (se m).dp t
    have e2:=yQ (l:=m.da.bk) hf
    repeat' (first|(focus (apply ac (by((first|(simp[ao,AV.plain,am];done)|(simp[ao,AV.plain,am];omega)|(simp[ao,AV.plain,am];exact⟨decide_eq_true (by omega),by omega⟩))));conv=>whnf))|(focus (refine aq (by rfl) ?_;conv=>whnf))|(focus (refine aq (by(exact bC (aY rfl (aY rfl (aY (bz e1) (aY (bz e2) rfl)))))) ?_;conv=>whnf))|exact True.intro|refine aP ?_)
instance:CC 78:=⟨_,@c78⟩
end X8

/- Steps, by the program; contracts. -/
open Go Go.Abs Go.Proofs V1 H1 H2 H4 F1 F2 T1 T2 T3 P1 P2 P5 P9 P10 P20 N1 X1 X2 X3 X4 X5 X6 X7 X8
namespace X9
theorem hE(m:Mch)(h: ¬m.ca.length=0):(dropC m).ca.length+1=m.ca.length:=by
 show(m.ca.take (m.ca.length-1)).length+1=m.ca.length
 rw[List.length_take];omega
theorem lB(m:Mch)(t:Int):(bR m t).1.ca.length≤m.ca.length:=by
 unfold bR
 split
 ·exact Nat.zero_le _
 ·simp only[List.length_take];omega
theorem fD(k:Nat){m:Mch}(h:m.ca.length=0):cd k m=(m,0):=by
 cases k with
 |zero=>rfl
 |succ k=>rw[cd,if_pos h]
theorem mH: ∀(k j:Nat)(m:Mch),m.ca.length≤k→m.ca.length≤j→cd k m=cd j m
 |0,j,m,h,_=>by rw[fD j (by omega),fD 0 (by omega)]
 |k+1,j,m,h,h2=>by
  by_cases h0:m.ca.length=0
  ·rw[fD _ h0,fD _ h0]
  obtain⟨i,rfl⟩: ∃i,j=i+1:=⟨j-1,by omega⟩
  have hd:=hE m h0
  have hp:(bi (dropC m) 0).1.ca.length=(dropC m).ca.length:=rfl
  have ht:=lB (bi (dropC m) 0).1 (bi (dropC m) 0).2
  have e1:=mH k i (bi (dropC m) 0).1 (by omega) (by omega)
  have e2:=mH k i (bR (bi (dropC m) 0).1 (bi (dropC m) 0).2).1 (by omega) (by omega)
  rw[cd,cd,e1,e2]
theorem mT(k:Nat){m:Mch}(h:(cj m).ca=false):cd k m=(m,0):=by
 cases k with
 |zero=>rfl
 |succ k=>
  by_cases h0:m.ca.length=0
  ·exact fD _ h0
  ·rw[cd,if_neg h0,if_pos h]
section
variable{m:Mch}(h0: ¬m.ca.length=0)(h1:(cj m).ca=true)
include h0 h1
theorem qG(h2:(bi (dropC m) 0).2=0):cd m.ca.length m=cd (bi (dropC m) 0).1.ca.length (bi (dropC m) 0).1:=by
 have hd:=hE m h0
 obtain⟨i,hi⟩: ∃i,m.ca.length=i+1:=⟨m.ca.length-1,by omega⟩
 rw[hi,cd,if_neg h0,if_neg (by rw[h1];simp),if_pos h2]
 exact mH _ _ _ (by show(dropC m).ca.length≤i;omega) (Nat.le_refl _)
theorem pF(h2: ¬(bi (dropC m) 0).2=0)(h3:(bR (bi (dropC m) 0).1 (bi (dropC m) 0).2).2=0):cd m.ca.length m=cd (bR (bi (dropC m) 0).1 (bi (dropC m) 0).2).1.ca.length (bR (bi (dropC m) 0).1 (bi (dropC m) 0).2).1:=by
 have hd:=hE m h0
 have ht:=lB (bi (dropC m) 0).1 (bi (dropC m) 0).2
 have hp:(bi (dropC m) 0).1.ca.length=(dropC m).ca.length:=rfl
 obtain⟨i,hi⟩: ∃i,m.ca.length=i+1:=⟨m.ca.length-1,by omega⟩
 rw[hi,cd,if_neg h0,if_neg (by rw[h1];simp),if_neg h2,if_pos h3]
 exact mH _ _ _ (by omega) (Nat.le_refl _)
theorem ql(h2: ¬(bi (dropC m) 0).2=0)(h3: ¬(bR (bi (dropC m) 0).1 (bi (dropC m) 0).2).2=0):cd m.ca.length m=bR (bi (dropC m) 0).1 (bi (dropC m) 0).2:=by
 obtain⟨i,hi⟩: ∃i,m.ca.length=i+1:=⟨m.ca.length-1,by omega⟩
 rw[hi,cd,if_neg h0,if_neg (by rw[h1];simp),if_neg h2,if_neg h3]
end
def Gp(m:Mch):Ms:=[(500000,.live ⟨false,0,zU,[[.ref 2 0 (m.ws.map dc).length,.ref 3 0 (m.co.map aj).length,.ref 4 0 (m.da.st.map aj).length,.ref 5 0 (m.da.bk.map aj).length,.ref 6 0 (m.da.ce.map aj).length,.int .i64 m.da.he,.int .i64 m.da.ba,.str m.da.ou,.ref 7 0 (m.ho.gr.map dQ).length,.ref 8 0 (m.ho.st.map aj).length,.ref 9 0 (m.ho.q.map aj).length,.int .i64 m.ho.tk,.ref 10 0 (m.ho.ds.map aV).length,.ref 11 0 (m.ca.map bK).length,.int .i64 m.ip,.int .i64 m.fu]]⟩),
 (2,.live ⟨true,0,zW,m.ws.map dc⟩),(3,.live ⟨true,0,zI,m.co.map aj⟩),(4,.live ⟨true,0,zI,m.da.st.map aj⟩),(5,.live ⟨true,0,zI,m.da.bk.map aj⟩),(6,.live ⟨true,0,zI,m.da.ce.map aj⟩),(7,.live ⟨true,0,[.bool false],m.ho.gr.map dQ⟩),(8,.live ⟨true,0,zI,m.ho.st.map aj⟩),(9,.live ⟨true,0,zI,m.ho.q.map aj⟩),(10,.live ⟨true,0,[.int .i64 0,.int .i64 0,.int .i64 0,.int .i64 0],m.ho.ds.map aV⟩),(11,.live ⟨true,0,zC,m.ca.map bK⟩)]
theorem Gt(m:Mch)(h:MI m):Con Tryz.prog 80 [.obj (aw m.da),.int .i64 0] [.obj (aw (bi m 0).1.da),.undef] (.int .i64 (bi m 0).2):=c80 m.da 0 (by have:=h.da.st;omega)
theorem HA(m:Mch)(n:Int)(m1:Mch)(h1:MI m1)(R:Mch × Int)(ke:Con Tryz.prog 77 [.obj (aR m),.int .i64 n] [.obj (aR m1),.undef] (.int .i64 0))(hR:cd m1.ca.length m1=R):Con Tryz.prog 33 [.obj (aR m),.int .i64 n] [.obj (aR R.1),.undef] (.int .i64 R.2):=by
 refine rp 53 Tryz.func33 [.tmp 4] (g:= ?_)
 conv=>whnf
 (refine ay 77 [some 16,none] ?_;conv=>whnf)
 refine aP ?_
 (refine eH (ke ..) ?_;conv=>whnf)
 refine aP ?_
 rotate_left
 refine LoopG.auto (α:=Mch) bI dN [0] (fun m=>[(0,.ptr 500000 0 0)]) Gp (fun m=>MI m∧cd m.ca.length m=R) (fun m=>m.ca.length) ?_ ?_
 ·conv=>whnf
  refine aP ?_
  rotate_left
  exact aE m1 ⟨h1,hR⟩ rfl rfl
 ·clear hR ke
  rintro m ⟨h,h2⟩- -
  have hl:=h.cl
  by_cases h0:m.ca.length=0
  ·rw[fD _ h0]at h2
   obtain rfl:=h2
   have g:decide ((((m.ca.map bK).length:Nat):Int)>0)=false:=by rw[List.length_map,h0];rfl
   conv=>whnf
   exact go
  have ra:=eG hl h0
  have w:=fT hl
  have g:decide ((((m.ca.map bK).length:Nat):Int)>0)=true:=by rw[List.length_map];exact decide_eq_true (by omega)
  by_cases h1:(cj m).ca=false
  ·rw[mT _ h1]at h2
   obtain rfl:=h2
   have gC:(if decide ((((m.ca.map bK).length:Nat):Int)>0)=true then(cj m).ca else false)=false:=by rw[if_pos g,h1]
   conv=>whnf
   exact go
  rw[Bool.not_eq_false]at h1
  have gC:(if decide ((((m.ca.map bK).length:Nat):Int)>0)=true then(cj m).ca else false)=true:=by rw[if_pos g,h1]
  have kl:=c79 m hl h0
  have hD:=h.dropC h0
  have hd:=hE m h0
  have kp:=Gt (dropC m) hD
  have hP:=(jk hD (n:=0) rfl)
  have kt:=c78 (bi (dropC m) 0).1 (bi (dropC m) 0).2 hP.1
  have hT:=jh hP.1 hP.2
  have s2:=qG h0 h1
  have s3:=pF h0 h1
  have s4:=ql h0 h1
  have tl:=lB (bi (dropC m) 0).1 (bi (dropC m) 0).2
  have eP:(bi (dropC m) 0).1={dropC m with da:=(bi (dropC m) 0).1.da}:=rfl
  have lP:(bi (dropC m) 0).1.ca.length=(dropC m).ca.length:=rfl
  generalize bR (bi (dropC m) 0).1 (bi (dropC m) 0).2=tr at kt hT s2 s3 s4 tl
  generalize bi (dropC m) 0=pr at kp hP kt s2 s3 s4 tl eP lP
  generalize dropC m=D at kl hD hd kp eP lP
  obtain⟨pm,pt⟩:=pr
  obtain⟨tm,tt⟩:=tr
  dsimp only at*
  generalize pm.da=pd at eP kp
  subst eP
  conv=>whnf
  iterate 16 (first|(refine eH (kt ..) ?_;conv=>whnf)|(refine ay 78 [some 16,none] ?_;conv=>whnf)|(refine eH (kp ..) ?_;conv=>whnf)|(refine ay 80 [some 6,none] ?_;conv=>whnf)|(refine eH (kl ..) ?_;conv=>whnf)|(refine ay 79 [some 16] ?_;conv=>whnf)|refine aP ?_|(refine bN ?_ ?_<;>intro hb))
  rotate_left
  refine aP ?_
  rotate_left
  refine aP ?_
  rotate_left
  ·obtain rfl:=h2.symm.trans (s4 (by assumption) hb)
   exact go
  ·exact aE tm ⟨⟨hT.1,(s3 (by assumption) hb).symm.trans h2⟩,by have:tm.ca.length≤D.ca.length:=tl;omega⟩ rfl rfl
  ·exact aE {D with da:=pd} ⟨⟨hP.1,(s2 hb).symm.trans h2⟩,by show D.ca.length<m.ca.length;omega⟩ rfl rfl
theorem G2(m:Mch)(n:Int)(m1 m2:Mch)(t:Int)(g1:(t != 0)=true)(h1:MI m2)(R:Mch × Int)(ke:Con Tryz.prog 77 [.obj (aR m),.int .i64 n] [.obj (aR m1),.undef] (.int .i64 t))(kt:Con Tryz.prog 78 [.obj (aR m1),.int .i64 t] [.obj (aR m2),.undef] (.int .i64 0))(hR:cd m2.ca.length m2=R):Con Tryz.prog 33 [.obj (aR m),.int .i64 n] [.obj (aR R.1),.undef] (.int .i64 R.2):=by
 refine rp 53 Tryz.func33 [.tmp 4] (g:= ?_)
 conv=>whnf
 iterate 8 (first|(refine eH (kt ..) ?_;conv=>whnf)|(refine ay 78 [some 16,none] ?_;conv=>whnf)|(refine eH (ke ..) ?_;conv=>whnf)|(refine ay 77 [some 16,none] ?_;conv=>whnf)|refine aP ?_)
 rotate_left
 refine LoopG.auto (α:=Mch) bI dN [0] (fun m=>[(0,.ptr 500000 0 0)]) Gp (fun m=>MI m∧cd m.ca.length m=R) (fun m=>m.ca.length) ?_ ?_
 ·conv=>whnf
  refine aP ?_
  rotate_left
  exact aE m2 ⟨h1,hR⟩ rfl rfl
 ·clear hR ke kt
  rintro m ⟨h,h2⟩- -
  have hl:=h.cl
  by_cases h0:m.ca.length=0
  ·rw[fD _ h0]at h2
   obtain rfl:=h2
   have g:decide ((((m.ca.map bK).length:Nat):Int)>0)=false:=by rw[List.length_map,h0];rfl
   conv=>whnf
   exact go
  have ra:=eG hl h0
  have w:=fT hl
  have g:decide ((((m.ca.map bK).length:Nat):Int)>0)=true:=by rw[List.length_map];exact decide_eq_true (by omega)
  by_cases h1:(cj m).ca=false
  ·rw[mT _ h1]at h2
   obtain rfl:=h2
   have gC:(if decide ((((m.ca.map bK).length:Nat):Int)>0)=true then(cj m).ca else false)=false:=by rw[if_pos g,h1]
   conv=>whnf
   exact go
  rw[Bool.not_eq_false]at h1
  have gC:(if decide ((((m.ca.map bK).length:Nat):Int)>0)=true then(cj m).ca else false)=true:=by rw[if_pos g,h1]
  have kl:=c79 m hl h0
  have hD:=h.dropC h0
  have hd:=hE m h0
  have kp:=Gt (dropC m) hD
  have hP:=(jk hD (n:=0) rfl)
  have kt:=c78 (bi (dropC m) 0).1 (bi (dropC m) 0).2 hP.1
  have hT:=jh hP.1 hP.2
  have s2:=qG h0 h1
  have s3:=pF h0 h1
  have s4:=ql h0 h1
  have tl:=lB (bi (dropC m) 0).1 (bi (dropC m) 0).2
  have eP:(bi (dropC m) 0).1={dropC m with da:=(bi (dropC m) 0).1.da}:=rfl
  have lP:(bi (dropC m) 0).1.ca.length=(dropC m).ca.length:=rfl
  generalize bR (bi (dropC m) 0).1 (bi (dropC m) 0).2=tr at kt hT s2 s3 s4 tl
  generalize bi (dropC m) 0=pr at kp hP kt s2 s3 s4 tl eP lP
  generalize dropC m=D at kl hD hd kp eP lP
  obtain⟨pm,pt⟩:=pr
  obtain⟨tm,tt⟩:=tr
  dsimp only at*
  generalize pm.da=pd at eP kp
  subst eP
  conv=>whnf
  iterate 16 (first|(refine eH (kt ..) ?_;conv=>whnf)|(refine ay 78 [some 16,none] ?_;conv=>whnf)|(refine eH (kp ..) ?_;conv=>whnf)|(refine ay 80 [some 6,none] ?_;conv=>whnf)|(refine eH (kl ..) ?_;conv=>whnf)|(refine ay 79 [some 16] ?_;conv=>whnf)|refine aP ?_|(refine bN ?_ ?_<;>intro hb))
  rotate_left
  refine aP ?_
  rotate_left
  refine aP ?_
  rotate_left
  ·obtain rfl:=h2.symm.trans (s4 (by assumption) hb)
   exact go
  ·exact aE tm ⟨⟨hT.1,(s3 (by assumption) hb).symm.trans h2⟩,by have:tm.ca.length≤D.ca.length:=tl;omega⟩ rfl rfl
  ·exact aE {D with da:=pd} ⟨⟨hP.1,(s2 hb).symm.trans h2⟩,by show D.ca.length<m.ca.length;omega⟩ rfl rfl
theorem Gx(m:Mch)(n:Int)(m1 m2:Mch)(t u:Int)(g1:(t != 0)=true)(g2:(u != 0)=true)(ke:Con Tryz.prog 77 [.obj (aR m),.int .i64 n] [.obj (aR m1),.undef] (.int .i64 t))(kt:Con Tryz.prog 78 [.obj (aR m1),.int .i64 t] [.obj (aR m2),.undef] (.int .i64 u)):Con Tryz.prog 33 [.obj (aR m),.int .i64 n] [.obj (aR m2),.undef] (.int .i64 u):=by
 refine rp 53 Tryz.func33 [.tmp 4] (g:= ?_)
 conv=>whnf
 repeat' (first|(refine ay 77 [some 16,none] ?_;conv=>whnf)|(refine eH (ke ..) ?_;conv=>whnf)|(refine ay 78 [some 16,none] ?_;conv=>whnf)|(refine eH (kt ..) ?_;conv=>whnf)|(focus (refine aq (by rfl) ?_;conv=>whnf))|exact True.intro|refine aP ?_)
theorem c33(m:Mch)(n:Int)(h:MI m):Con Tryz.prog 33 [.obj (aR m),.int .i64 n] [.obj (aR (fG TX true m n).1),.undef] (.int .i64 (fG TX true m n).2):=by
 have ke:=Hl m.fu.toNat m n h rfl
 have hx:=pb TX true m.fu.toNat m n h (by have:=h.fu;omega)
 unfold fG
 generalize dX TX true m.fu.toNat m n=x at ke hx
 obtain⟨m1,t⟩:=x
 unfold fE
 by_cases h0:t=0
 ·subst h0
  exact HA m n m1 hx.1 _ ke rfl
 rw[if_neg (show ¬(m1,t).2=0 from h0)]
 have kt:=c78 m1 t hx.1
 have hy:=jh hx.1 hx.2
 dsimp only at*
 generalize bR m1 t=y at kt hy
 obtain⟨m2,u⟩:=y
 by_cases h1:u=0
 ·subst h1
  exact G2 m n m1 m2 t (bne_iff_ne.2 h0) hy.1 _ ke kt rfl
 ·rw[if_neg (show ¬(m2,u).2=0 from h1)]
  exact Gx m n m1 m2 t u (bne_iff_ne.2 h0) (bne_iff_ne.2 h1) ke kt
instance:CC 33:=⟨_,@c33⟩
end X9

/- Runs; copies of machines; BeginToken, StepMachine, RunToken, by the program; contracts. -/
open Go Go.Abs Go.Proofs V1 H1 H2 H4 F1 F2 T1 T2 T3 P1 P2 P5 P9 P10 P20 M2 N1 N2 X1 X2 X3 X4 X5 X6 X7 X8 X9
namespace X10
theorem c72(xs:List Wd)(h:xs.length≤1048576):Con Tryz.prog 72 [fb xs] (aa [fb xs]) (dz xs):=by
 refine rn 8 Tryz.func72 [.tmp 2] (g:= ?_)
 conv=>whnf
 (refine ui (fun hz=> ?_) ?_<;>conv=>whnf)
 refine aP ?_
 rotate_left
 refine aP ?_
 rotate_left
 ·exact⟨qO (by simpa using hz)⟩
 ·exact⟨Sh.flat_map (fun _=>rfl) _⟩
theorem c74(xs:List Cal)(h:xs.length≤1048576):Con Tryz.prog 74 [nK xs] (aa [nK xs]) (dH xs):=by
 refine rn 8 Tryz.func74 [.tmp 2] (g:= ?_)
 conv=>whnf
 (refine ui (fun hz=> ?_) ?_<;>conv=>whnf)
 refine aP ?_
 rotate_left
 refine aP ?_
 rotate_left
 ·exact⟨qO (by simpa using hz)⟩
 ·exact⟨Sh.flat_map (fun _=>rfl) _⟩
structure smallM(m:Mch):Prop where
 ws:m.ws.length≤1048576
 co:m.co.length≤1048576
 ca:m.ca.length≤1048576
 da:ef m.da
 ho:dv m.ho
theorem tu{m:Mch}(h:MI m):smallM m:=⟨by have:=(bu h.ws).2.2;omega,by have:=h.co;omega,by have:=h.cl;omega,vc h.da,H3.small_host h.ho⟩
theorem c32(m:Mch)(h:smallM m):Con Tryz.prog 32 [aX m] (aa [aX m]) (yD m):=by
 have k1:=c75 m.da h.da
 have k2:=c76 m.ho h.ho
 refine rn 24 Tryz.func32 [.cell 2 41] (g:= ?_)
 conv=>whnf
 (iterate 118 ((first|refine ac (by solve|simp only[bc]|fail) ?_|apply ac rfl|refine ag (al (by solve|simp[bc]|fail)) ?_|apply ag rfl|refine aG (fun hf=> ?_)|refine ChkS.mk (by kernel_rfl) ?_|refine ah (c72 _ h.ws) ?_|refine ah (c73 _ h.co) ?_|refine ah (c74 _ h.ca) ?_|refine ah (k1 ..) ?_|refine ah (k2 ..) ?_);conv=>whnf));(refine aA ?_;(rfl))
instance:CC 32:=⟨_,@c32⟩
def gk(m:Mch)(n:Int):Int:=if dK m=false then 1 else if cg m.ws n=false then 13 else if 0<m.ca.length then 11 else 0
theorem c31(m:Mch)(n:Int):Con Tryz.prog 31 [aX m,.int .i64 n] (aa [aX m,.int .i64 n]) (.int .i64 (gk m n)):=by
 have k1:=c50 m
 unfold gk
 by_cases h:dK m=true
 ·have hw:=(bu ((od m).1 h).1.ws).2.2
  have kt:=c71 m.ws n hw
  rw[h]at k1
  rw[if_neg (by rw[h];simp)]
  refine rn 20 Tryz.func31 [.tmp 4] (g:= ?_)
  conv=>whnf
  repeat' (first|(focus (refine aA ?_;(first|(simp_all;done)|(simp_all;omega))))|refine aP ?_|(refine bN ?_ ?_<;>intro hb))
 ·rw[Bool.not_eq_true]at h
  rw[h]at k1
  rw[if_pos h]
  exact rn 20 Tryz.func31 [.tmp 4] (g:=go)
instance:CC 31:=⟨_,@c31⟩
def Cr:Mch:=⟨[],[],Iz,Is,[],0,0⟩
def Kw:AV:=.agg [.emp,.emp,.emp,.emp,.emp,.int .i64 0,.int .i64 0,.str [],.emp,.emp,.emp,.int .i64 0,.emp,.emp,.int .i64 0,.int .i64 0]
theorem Ca:Sh Kw (yD Cr):=Sh.agg ⟨Sh.emp_own _ _,Sh.emp_own _ _,Sh.emp_own _ _,Sh.emp_own _ _,Sh.emp_own _ _,Sh.refl _,Sh.refl _,Sh.refl _,Sh.emp_own _ _,Sh.emp_own _ _,Sh.emp_own _ _,Sh.refl _,Sh.emp_own _ _,Sh.emp_own _ _,Sh.refl _,Sh.refl _,trivial⟩
theorem ya{m:Mch}{n:Int}(h:gk m n=0):MI m∧cg m.ws n=true∧m.ca.length=0:=by
 unfold gk at h
 repeat' split at h
 all_goals first|(exfalso;omega)|skip
 rename_i h1 h2 h3
 rw[Bool.not_eq_false]at h1 h2
 exact⟨((od m).1 h1).1,h2,by omega⟩
def ol(b:Bool)(m:Mch)(n:Int):Mch × Int × Int:=if gk m n=0 then((fG TX b m n).1,(fG TX b m n).2,0)else(Cr,0,gk m n)
def Ij(x:Mch × Int × Int):AV:=.tup [yD x.1,.int .i64 x.2.1,.int .i64 x.2.2]
theorem wV(a b:Int):Sh (.tup [Kw,.int .i64 a,.int .i64 b]) (Ij (Cr,a,b)):=Sh.tup ⟨Ca,Sh.refl _,Sh.refl _,trivial⟩
theorem c9(m:Mch)(n:Int):Con Tryz.prog 9 [aX m,.int .i64 n] (aa [aX m,.int .i64 n]) (Ij (ol true m n)):=by
 have kc:=c31 m n
 unfold ol
 by_cases h:gk m n=0
 ·rw[if_pos h]
  have hM:=(ya h).1
  rw[h]at kc
  have k1:=c32 m (tu hM)
  have ks:=c33 m n hM
  generalize fG TX true m n=x at ks
  refine rn 23 Tryz.func9 [.cell 4 41,.tmp 5,.tmp 6] (g:= ?_)
  conv=>whnf
  iterate 4 (first|(refine eH (ks ..) ?_;conv=>whnf)|(refine ay 33 [some 16,none] ?_;conv=>whnf)|refine aP ?_)
  exact go
 ·rw[if_neg h]
  have g:(gk m n != 0)=true:=bne_iff_ne.2 h
  refine rn 23 Tryz.func9 [.cell 4 41,.tmp 5,.tmp 6] (g:= ?_)
  conv=>whnf
  refine aP ?_
  rotate_left
  exact⟨wV _ _⟩
end X10
