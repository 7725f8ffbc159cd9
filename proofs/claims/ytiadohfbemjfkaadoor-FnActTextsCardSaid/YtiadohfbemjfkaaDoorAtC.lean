import Derived.Test.YtiadohfbemjfkaaDoorAtB
import Derived.Test.YtiadohfbemjfkaaDoorAtV
import Derived.Test.YtiadohfbemjfkaaDoorAbsd
import Derived.Test.YtiadohfbemjfkaaDoorAbsm
/- ReadAct of both, and the law. -/
set_option linter.unusedVariables false
set_option linter.unusedSimpArgs false
set_option maxRecDepth 100000
open Go Go.Abs Go.Proofs V1 U2 U3 U4 U5 U6 U7 U8 U9 U10 U11 U12 U13 U14
namespace U15
def finR(r:Doing × Bool):Doing × Int:=if r.2=true then(r.1,0)else(act0,3)
def rdF(t:List UInt8):Doing × Int:=if 65536<t.length then(act0,2)else finR (rdS t)
theorem beq_c(a b:List UInt8):(a==b)=(b==a):=by
 rw[Bool.eq_iff_iff,beq_iff_eq,beq_iff_eq];exact⟨Eq.symm,Eq.symm⟩
theorem cI_eq(w:List UInt8):cI w=cS w:=by
 unfold cI cS
 congr 1
 funext y
 exact beq_c _ _
theorem kS_eq(w:List UInt8):kS w=kI w∨(kI w= -1∧(kS w=5∨kS w= -1)):=by
 have e:(fun y:List UInt8=>y==w)=fun y=>w==y:=by
  funext y
  exact beq_c _ _
 have ex:actX=actW++[[101,118,97,108]]:=rfl
 unfold kS kI
 rw[e,ex]
 unfold findI
 rw[List.findIdx?_append]
 cases h:actW.findIdx? fun y=>w==y with
 |some i=>left;rfl
 |none=>
  right
  refine⟨rfl,?_⟩
  cases h2:List.findIdx? (fun y=>w==y) [[101,118,97,108]]with
  |none=>right;rfl
  |some i=>
   left
   have:=(List.findIdx?_eq_some_iff_getElem.1 h2).1
   have:i=0:=by simp at this;exact this
   subst this
   rfl
theorem two_same(w0 w1:List UInt8):finR (twoI w0 w1)=finR (twoS w0 w1):=by
 have hk:=kI_range w0
 unfold twoI twoS
 rcases kS_eq w0 with he|⟨h1,h2⟩
 ·rw[he]
  by_cases h0:kI w0= -1
  ·rw[h0,if_neg (by decide),if_pos (by decide)]
   rfl
  ·rw[if_neg (show ¬(kI w0+1=0∨kI w0+1=6) by omega)]
   by_cases hle:kI w0+1≤2
   ·rw[if_pos ⟨by omega,hle⟩,if_pos hle,cI_eq]
   ·rw[if_neg (fun k=>hle k.2),if_neg hle]
    cases hn:(numF w1).2 with
    |true=>
     rw[num_ok hn]
     have hd:decide (1≤kI w0+1)=true:=decide_eq_true (by omega)
     rw[hd,hn];rfl
    |false=>
     have hi:(numI w1).2=false:=by
      cases hc:(numI w1).2 with
      |false=>rfl
      |true=>rw[num_no hc]at hn;cases hn
     rw[hi]
     simp[finR]
 ·rw[h1,if_neg (by decide)]
  rw[if_pos (show kS w0+1=0∨kS w0+1=6 by omega)]
  simp[finR]
theorem rd_same(t:List UInt8):finR (rdI t)=finR (rdS t):=by
 unfold rdI rdS
 split
 ·rfl
 ·cases hw:wordsW t with
  |nil=>rfl
  |cons w0 l=>cases l with
   |nil=>rfl
   |cons w1 l=>cases l with
    |nil=>exact two_same w0 w1
    |cons w2 l=>rfl
def rdW(r:Doing × Int):AV:=.tup [actV r.1,.int .i64 r.2]
theorem c5(t:List UInt8):Con Tryd.prog 5 [.str t] (undefs [.str t]) (rdW (rdF t)):=by
 unfold rdF
 by_cases hl:(65536:Int)<t.length
 ·rw[if_pos (by omega)]
  have g1:decide ((t.length:Int)>65536)=true:=decide_eq_true hl
  refine Con.ev 19 T_ok mix Tryd.func5 rfl rfl rfl rfl [.cell 2 23,.tmp 3] rfl ?_
  conv=>whnf
  (iterate 7 ((first|apply rq_s rfl|refine br_t (by assumption) ?_);conv=>whnf));(refine sh_s ?_;(rfl))
 ·rw[if_neg (by omega)]
  have g1:decide ((t.length:Int)>65536)=false:=decide_eq_false hl
  have k:=c13 t (by omega)
  unfold rdV at k
  cases hr:rdS t with
  |mk a b=>
   rw[hr]at k
   cases b<;>
   (refine Con.ev 19 T_ok mix Tryd.func5 rfl rfl rfl rfl [.cell 2 23,.tmp 3] rfl ?_
    conv=>whnf
    iterate 4 ((first|apply rq_s rfl|refine br_f (by assumption) ?_|apply lend_s|refine call_s (k ..) ?_);conv=>whnf)
    first
     |(iterate 7 ((first|apply rq_s rfl|apply br_t rfl);conv=>whnf)
       (refine sh_s ?_;(rfl)))
     |(iterate 6 ((first|apply rq_s rfl|apply br_f rfl);conv=>whnf)
       (refine sh_s ?_;(rfl))))
theorem c6(t:List UInt8):Con Tryd.prog 6 [.str t] (undefs [.str t]) (rdW (rdF t)):=by
 unfold rdF
 by_cases hl:(65536:Int)<t.length
 ·rw[if_pos (by omega)]
  have g1:decide ((t.length:Int)>65536)=true:=decide_eq_true hl
  refine Con.ev 19 T_ok mix Tryd.func6 rfl rfl rfl rfl [.cell 2 23,.tmp 3] rfl ?_
  conv=>whnf
  (iterate 7 ((first|apply rq_s rfl|refine br_t (by assumption) ?_);conv=>whnf));(refine sh_s ?_;(rfl))
 ·rw[if_neg (by omega),←rd_same]
  have g1:decide ((t.length:Int)>65536)=false:=decide_eq_false hl
  have k:=c14 t (by omega)
  unfold rdV at k
  cases hr:rdI t with
  |mk a b=>
   rw[hr]at k
   cases b<;>
   (refine Con.ev 19 T_ok mix Tryd.func6 rfl rfl rfl rfl [.cell 2 23,.tmp 3] rfl ?_
    conv=>whnf
    iterate 4 ((first|apply rq_s rfl|refine br_f (by assumption) ?_|apply lend_s|refine call_s (k ..) ?_);conv=>whnf)
    first
     |(iterate 7 ((first|apply rq_s rfl|apply br_t rfl);conv=>whnf)
       (refine sh_s ?_;(rfl)))
     |(iterate 6 ((first|apply rq_s rfl|apply br_f rfl);conv=>whnf)
       (refine sh_s ?_;(rfl))))
end U15

/- The reference's source of data: contracts. -/
open Go Go.Abs Go.Proofs V1
namespace W1
def byteR(c:UInt8):List AV:=[.int .u8 c.toNat]
abbrev z8:List AV:=[.int .u8 0]
def roU(d:List UInt8):AV:=.ro z8 (d.map byteR)
def srcC(d:List UInt8)(a m:Int):List AV:=[roU d,.int .i64 a,.int .i64 m]
theorem c15(d:List UInt8):Con Tryd.prog 15 [roU d] (undefs [roU d]) (.obj (srcC d 0 ((d.length:Int).tmod 1000))):=by
 refine Con.ev 9 T_ok mix Tryd.func15 rfl rfl rfl rfl [.tmp 2] rfl ?_
 conv=>whnf
 (iterate 3 (apply rq_s rfl;conv=>whnf));(refine sh_s ?_;((simp[srcC,roU])))
def byteF(d:List UInt8)(a m:Int):Int × Int:=
 if a+1≤d.length then(((d.getD a.toNat 0).toNat:Int),(m*31+(d.getD a.toNat 0).toNat+7).tmod 2147483648)else if 3000<a+1 then(0,m)
 else(((((m*1103515245+12345).tmod 2147483648).tdiv 65536).tmod 256),(m*1103515245+12345).tmod 2147483648)
theorem c50(d:List UInt8)(a m:Int)(h1:0≤a)(h2:a≤1000000000000)(h3:0≤m)(h4:m<2147483648):
  Con Tryd.prog 50 [.obj (srcC d a m)] [.obj (srcC d (a+1) (byteF d a m).2)] (.int .i64 (byteF d a m).1):=by
 have w0:IntKind.i64.wrap (a+1)=a+1:=wrap64 (by omega) (by omega)
 have w1:IntKind.i64.wrap (a+1-1)=a:=(wrap64 (by omega) (by omega)).trans (by omega)
 have w2:IntKind.i64.wrap (m*31)=m*31:=wrap64 (by omega) (by omega)
 have w3:IntKind.i64.wrap (m*1103515245)=m*1103515245:=wrap64 (by omega) (by omega)
 have w4:IntKind.i64.wrap (m*1103515245+12345)=m*1103515245+12345:=wrap64 (by omega) (by omega)
 have hrow: ∀z,a+1≤d.length→rowA (d.map byteR) a.toNat z=byteR (d.getD a.toNat 0):=fun z h=>row_map byteR _ _ _ 0 (by omega)
 by_cases c1:a+1≤d.length
 ·have hrow: ∀z,rowA (d.map byteR) (IntKind.i64.wrap (IntKind.i64.wrap (a+1)-1)).toNat z=byteR (d.getD a.toNat 0):=fun z=>by
   rw[w0,w1];exact hrow z c1
  have e:byteF d a m=(((d.getD a.toNat 0).toNat:Int),(m*31+(d.getD a.toNat 0).toNat+7).tmod 2147483648):=by rw[byteF,if_pos c1]
  rw[e]
  generalize d.getD a.toNat 0=c at*
  have hc:(c.toNat:Int)<256:=by have:=c.toNat_lt;omega
  have w5:IntKind.i64.wrap (m*31+c.toNat)=m*31+c.toNat:=wrap64 (by omega) (by omega)
  have w6:IntKind.i64.wrap (m*31+c.toNat+7)=m*31+c.toNat+7:=wrap64 (by omega) (by omega)
  have w7:IntKind.i64.wrap (c.toNat:Int)=c.toNat:=wrap64 (by omega) (by omega)
  have hb:decide (IntKind.i64.wrap (a+1)≤((d.map byteR).length:Int))=true:=by rw[w0];simp;omega
  refine Con.evP 76 [500000] rfl T_ok mix Tryd.func50 rfl rfl rfl rfl [.tmp 2] rfl ?_
  conv=>whnf
  (iterate 69 ((first|apply rq_s rfl|refine rq_s (by(((first|(simp only[w0,w1,decide_eq_true_eq];omega)|(refine and_s rfl ?_;simp only[w0,w1,List.length_map,decide_eq_true_eq];omega))))) ?_|refine row_s (by(exact hrow _)) ?_|refine ChkS.mk (by kernel_rfl) ?_|refine br_t (by assumption) ?_);conv=>whnf));(refine aftp_s (by((simp[srcC,roU,w0,w2,w5,w6,w7]))) ?_;conv=>whnf);(apply rows_s rfl;conv=>whnf);(refine aftp_s (by((simp[srcC,roU,w0,w2,w5,w6,w7]))) ?_;conv=>whnf)
  exact True.intro
 ·have hb:decide (IntKind.i64.wrap (a+1)≤((d.map byteR).length:Int))=false:=by rw[w0];simp;omega
  by_cases c2:3000<a+1
  ·have hb2:decide (IntKind.i64.wrap (a+1)>3000)=true:=by rw[w0];simpa using c2
   have e:byteF d a m=(0,m):=by rw[byteF,if_neg c1,if_pos c2]
   rw[e]
   refine Con.evP 76 [500000] rfl T_ok mix Tryd.func50 rfl rfl rfl rfl [.tmp 2] rfl ?_
   conv=>whnf
   (iterate 21 ((first|apply rq_s rfl|apply rows_s rfl|refine ChkS.mk (by kernel_rfl) ?_|refine br_t (by assumption) ?_|refine br_f (by assumption) ?_|refine aftp_s (by rfl) ?_);conv=>whnf));(refine aftp_s (by((simp[srcC,roU,w0]))) ?_;conv=>whnf)
   exact True.intro
  ·have hb2:decide (IntKind.i64.wrap (a+1)>3000)=false:=by rw[w0];simpa using c2
   have e:byteF d a m=(((((m*1103515245+12345).tmod 2147483648).tdiv 65536).tmod 256),(m*1103515245+12345).tmod 2147483648):=by rw[byteF,if_neg c1,if_neg c2]
   have w8:IntKind.i64.wrap (((m*1103515245+12345).tmod 2147483648).tdiv 65536)=((m*1103515245+12345).tmod 2147483648).tdiv 65536:=by
    have:0≤(m*1103515245+12345).tmod 2147483648:=Int.tmod_nonneg _ (by omega)
    have:(m*1103515245+12345).tmod 2147483648<2147483648:=Int.tmod_lt_of_pos _ (by omega)
    rw[Int.tdiv_eq_ediv_of_nonneg (by omega)]
    exact wrap64 (by omega) (by omega)
   rw[e]
   refine Con.evP 76 [500000] rfl T_ok mix Tryd.func50 rfl rfl rfl rfl [.tmp 2] rfl ?_
   conv=>whnf
   (iterate 25 ((first|apply rq_s rfl|refine ChkS.mk (by kernel_rfl) ?_|refine br_f (by assumption) ?_);conv=>whnf));(refine aftp_s (by((simp[srcC,roU,w0,w3,w4,w8]))) ?_;conv=>whnf);(apply rows_s rfl;conv=>whnf);(refine aftp_s (by((simp[srcC,roU,w0,w3,w4,w8]))) ?_;conv=>whnf)
   exact True.intro
theorem byteF_r{d:List UInt8}{a m:Int}(h3:0≤m)(h4:m<2147483648):(0≤(byteF d a m).1∧(byteF d a m).1<256)∧0≤(byteF d a m).2∧(byteF d a m).2<2147483648:=by
 unfold byteF
 split
 ·have:=(d.getD a.toNat 0).toNat_lt
  exact⟨by simp only;omega,Int.tmod_nonneg _ (by omega),Int.tmod_lt_of_pos _ (by omega)⟩
 ·split
  ·exact⟨by simp,by simp only;omega⟩
  ·refine⟨⟨?_,Int.tmod_lt_of_pos _ (by omega)⟩,Int.tmod_nonneg _ (by omega),Int.tmod_lt_of_pos _ (by omega)⟩
   have:0≤(m*1103515245+12345).tmod 2147483648:=Int.tmod_nonneg _ (by omega)
   refine Int.tmod_nonneg _ ?_
   rw[Int.tdiv_eq_ediv_of_nonneg this]
   omega
def m1(d:List UInt8)(a m:Int):Int:=(byteF d a m).2
def nextF(d:List UInt8)(a m n:Int):Int × Int × Int:=
 if n≤1 then(0,a,m)else if n≤256 then((byteF d a m).1.tmod n,a+1,(byteF d a m).2)
 else(((byteF d a m).1*65536+(byteF d (a+1) (byteF d a m).2).1*256+(byteF d (a+2) (byteF d (a+1) (byteF d a m).2).2).1).tmod n,a+3,(byteF d (a+2) (byteF d (a+1) (byteF d a m).2).2).2)
theorem c35(d:List UInt8)(a m n:Int)(h1:0≤a)(h2:a≤100000000000)(h3:0≤m)(h4:m<2147483648):
  Con Tryd.prog 35 [.obj (srcC d a m),.int .i64 n] [.obj (srcC d (nextF d a m n).2.1 (nextF d a m n).2.2),.undef] (.int .i64 (nextF d a m n).1):=by
 have k1:=c50 d a m h1 (by omega) h3 h4
 have r1:=byteF_r (d:=d) (a:=a) h3 h4
 have k2:=c50 d (a+1) (byteF d a m).2 (by omega) (by omega) r1.2.1 r1.2.2
 have r2:=byteF_r (d:=d) (a:=a+1) r1.2.1 r1.2.2
 have k3:=c50 d (a+2) (byteF d (a+1) (byteF d a m).2).2 (by omega) (by omega) r2.2.1 r2.2.2
 have r3:=byteF_r (d:=d) (a:=a+2) r2.2.1 r2.2.2
 rw[show a+1+1=a+2 by omega]at k2
 rw[show a+2+1=a+3 by omega]at k3
 by_cases c1:n≤1
 ·have hb:decide (n≤1)=true:=by simpa using c1
  rw[nextF,if_pos c1]
  refine Con.evP 31 [500000] rfl T_ok mix Tryd.func35 rfl rfl rfl rfl [.tmp 4] rfl ?_
  conv=>whnf
  iterate 6 (first|(apply rq_s rfl;(conv=>whnf))|(apply rows_s rfl;(conv=>whnf))|(refine br_t (by assumption) ?_;(conv=>whnf))|(refine aftp_s (by rfl) ?_;(conv=>whnf))|(exact True.intro))
 ·have hb:decide (n≤1)=false:=by simpa using c1
  by_cases c2:n≤256
  ·have hb2:decide (n≤256)=true:=by simpa using c2
   rw[nextF,if_neg c1,if_pos c2]
   generalize byteF d a m=p at*
   refine Con.evP 31 [500000] rfl T_ok mix Tryd.func35 rfl rfl rfl rfl [.tmp 4] rfl ?_
   conv=>whnf
   (iterate 4 ((first|apply rq_s rfl|refine br_t (by assumption) ?_|refine br_f (by assumption) ?_|refine handp_s 50 [some 3] ?_);conv=>whnf));(focus (apply callpe_s (f:=50);(· repeat' (first|(refine sub_all ?_;simp[List.length_map];done)|exact sub_map _ _ _ _|apply cons_eq|apply obj_eq|apply agg_eq|apply own_eq|apply ro_eq|apply rp_eq|apply fnc_eq|rfl));refine callp_s (f:=50) rfl (k1 ..) ?_;conv=>whnf));iterate 7 (first|(apply rq_s rfl;(conv=>whnf))|(refine rq_s (by((simp;omega))) ?_;(conv=>whnf))|(apply rows_s rfl;(conv=>whnf))|(refine fac_s (fun hf=> ?_);(conv=>whnf))|(refine aftp_s (by rfl) ?_;(conv=>whnf))|(exact True.intro))
  ·have hb2:decide (n≤256)=false:=by simpa using c2
   rw[nextF,if_neg c1,if_neg c2]
   generalize byteF d a m=p at*
   generalize byteF d (a+1) p.2=q at*
   generalize byteF d (a+2) q.2=r at*
   obtain⟨v1,m1⟩:=p
   obtain⟨v2,m2⟩:=q
   obtain⟨v3,m3⟩:=r
   simp only at r1 r2 r3 k1 k2 k3
   have w1:IntKind.i64.wrap (v1*65536)=v1*65536:=wrap64 (by omega) (by omega)
   have w2:IntKind.i64.wrap (v2*256)=v2*256:=wrap64 (by omega) (by omega)
   have w3:IntKind.i64.wrap (v1*65536+v2*256)=v1*65536+v2*256:=wrap64 (by omega) (by omega)
   have w4:IntKind.i64.wrap (v1*65536+v2*256+v3)=v1*65536+v2*256+v3:=wrap64 (by omega) (by omega)
   refine Con.evP 31 [500000] rfl T_ok mix Tryd.func35 rfl rfl rfl rfl [.tmp 4] rfl ?_
   conv=>whnf
   (iterate 4 ((first|apply rq_s rfl|refine br_f (by assumption) ?_|refine handp_s 50 [some 3] ?_);conv=>whnf));(focus (apply callpe_s (f:=50);(· repeat' (first|(refine sub_all ?_;simp[List.length_map];done)|exact sub_map _ _ _ _|apply cons_eq|apply obj_eq|apply agg_eq|apply own_eq|apply ro_eq|apply rp_eq|apply fnc_eq|rfl));refine callp_s (f:=50) rfl (k1 ..) ?_;conv=>whnf));(iterate 3 ((first|apply rq_s rfl|refine fac_s (fun hf=> ?_)|refine handp_s 50 [some 3] ?_);conv=>whnf));(focus (apply callpe_s (f:=50);(· repeat' (first|(refine sub_all ?_;simp[List.length_map];done)|exact sub_map _ _ _ _|apply cons_eq|apply obj_eq|apply agg_eq|apply own_eq|apply ro_eq|apply rp_eq|apply fnc_eq|rfl));refine callp_s (f:=50) rfl (k2 ..) ?_;conv=>whnf));(iterate 3 ((first|apply rq_s rfl|refine fac_s (fun hf=> ?_)|refine handp_s 50 [some 3] ?_);conv=>whnf));(focus (apply callpe_s (f:=50);(· repeat' (first|(refine sub_all ?_;simp[List.length_map];done)|exact sub_map _ _ _ _|apply cons_eq|apply obj_eq|apply agg_eq|apply own_eq|apply ro_eq|apply rp_eq|apply fnc_eq|rfl));refine callp_s (f:=50) rfl (k3 ..) ?_;conv=>whnf));(iterate 3 ((first|apply rq_s rfl|refine rq_s (by((simp;omega))) ?_|refine fac_s (fun hf=> ?_));conv=>whnf));(refine aftp_s (by((simp[srcC,roU,w1,w2,w3,w4]))) ?_;conv=>whnf);iterate 3 (first|(apply rows_s rfl;(conv=>whnf))|(refine aftp_s (by rfl) ?_;(conv=>whnf))|(exact True.intro))
theorem nextF_r{d:List UInt8}{a m n:Int}(h1:0≤a)(h3:0≤m)(h4:m<2147483648):(0≤(nextF d a m n).1∧((nextF d a m n).1<n∨(nextF d a m n).1=0))∧(a≤(nextF d a m n).2.1∧(nextF d a m n).2.1≤a+3)∧0≤(nextF d a m n).2.2∧(nextF d a m n).2.2<2147483648:=by
 have r1:=byteF_r (d:=d) (a:=a) h3 h4
 have r2:=byteF_r (d:=d) (a:=a+1) r1.2.1 r1.2.2
 have r3:=byteF_r (d:=d) (a:=a+2) r2.2.1 r2.2.2
 unfold nextF
 split
 ·exact⟨⟨by simp,.inr rfl⟩,⟨by simp,by simp only;omega⟩,h3,h4⟩
 ·split
  ·exact⟨⟨Int.tmod_nonneg _ r1.1.1,.inl (Int.tmod_lt_of_pos _ (by omega))⟩,⟨by simp only;omega,by simp only;omega⟩,r1.2⟩
  ·exact⟨⟨Int.tmod_nonneg _ (by omega),.inl (Int.tmod_lt_of_pos _ (by omega))⟩,⟨by simp only;omega,by simp only;omega⟩,r3.2⟩
end W1

/- The reference's source of data, 2: contracts. -/
open Go Go.Abs Go.Proofs V1 W1
namespace W2
def wrapF(n:Int):Int:=IntKind.i64.wrap (IntKind.i32.wrap (IntKind.u32.wrap (IntKind.u64.wrap n)))
theorem c51(n:Int):Con Tryd.prog 51 [.int .i64 n] (undefs [.int .i64 n]) (.int .i64 (wrapF n)):=by
 refine Con.ev 8 T_ok mix Tryd.func51 rfl rfl rfl rfl [.tmp 2] rfl ?_
 conv=>whnf
 (apply rq_s rfl;conv=>whnf);(refine sh_s ?_;(rfl))
theorem wrapF_r(n:Int): -2147483648≤wrapF n∧wrapF n≤2147483647:=by
 have h: -2147483648≤IntKind.i32.wrap (IntKind.u32.wrap (IntKind.u64.wrap n))∧IntKind.i32.wrap (IntKind.u32.wrap (IntKind.u64.wrap n))≤2147483647:=by
  generalize IntKind.u32.wrap (IntKind.u64.wrap n)=k
  simp[IntKind.wrap,IntKind.signed,IntKind.bits]
  omega
 unfold wrapF
 rw[wrap64 (by omega) (by omega)]
 exact h
structure SrcOk(a m lim:Int):Prop where
 h1:0≤a
 h2:a≤lim
 h3:0≤m
 h4:m<2147483648
theorem cell_ex(d:List UInt8)(a m:Int)(h:SrcOk a m 10000000000): ∃v a' m',Con Tryd.prog 37 [.obj (srcC d a m)] [.obj (srcC d a' m')] (.int .i64 v)∧cell v=true∧a≤a'∧SrcOk a' m' (a+20):=by
 obtain⟨h1,h2,h3,h4⟩:=h
 have k0:=c35 d a m 8 h1 (by omega) h3 h4
 have r0:=nextF_r (d:=d) (n:=8) h1 h3 h4
 generalize nextF d a m 8=p at*
 obtain⟨r,a1,m1⟩:=p
 simp only at k0 r0
 by_cases c0:r=0
 ·have hb:(r==0)=true:=by simpa using c0
  have k1:=c35 d a1 m1 3 (by omega) (by omega) r0.2.2.1 r0.2.2.2
  have r1:=nextF_r (d:=d) (n:=3) (a:=a1) (by omega) r0.2.2.1 r0.2.2.2
  generalize nextF d a1 m1 3=p at*
  obtain⟨v,a2,m2⟩:=p
  simp only at k1 r1
  have w:IntKind.i64.wrap (2147483647-v)=2147483647-v:=wrap64 (by omega) (by omega)
  refine⟨2147483647-v,a2,m2,?_,by simp[cell,inR];omega,by omega,by omega,by omega,r1.2.2.1,r1.2.2.2⟩
  refine Con.evP 39 [500000] rfl T_ok mix Tryd.func37 rfl rfl rfl rfl [.tmp 2] rfl ?_
  conv=>whnf
  (iterate 3 ((first|apply rq_s rfl|refine handp_s 35 [some 3,none] ?_);conv=>whnf));(focus (apply callpe_s (f:=35);(· repeat' (first|(refine sub_all ?_;simp[List.length_map];done)|exact sub_map _ _ _ _|apply cons_eq|apply obj_eq|apply agg_eq|apply own_eq|apply ro_eq|apply rp_eq|apply fnc_eq|rfl));refine callp_s (f:=35) rfl (k0 ..) ?_;conv=>whnf));(iterate 5 ((first|apply rq_s rfl|refine fac_s (fun hf=> ?_)|refine br_t (by assumption) ?_|refine handp_s 35 [some 3,none] ?_);conv=>whnf));(focus (apply callpe_s (f:=35);(· repeat' (first|(refine sub_all ?_;simp[List.length_map];done)|exact sub_map _ _ _ _|apply cons_eq|apply obj_eq|apply agg_eq|apply own_eq|apply ro_eq|apply rp_eq|apply fnc_eq|rfl));refine callp_s (f:=35) rfl (k1 ..) ?_;conv=>whnf));(refine fac_s (fun hf=> ?_);conv=>whnf);(apply rq_s rfl;conv=>whnf);(refine aftp_s (by((simp[srcC,roU,w]))) ?_;conv=>whnf);iterate 3 (first|(apply rows_s rfl;(conv=>whnf))|(refine aftp_s (by rfl) ?_;(conv=>whnf))|(exact True.intro))
 ·have hb:(r==0)=false:=by simpa using c0
  by_cases c1:r=1
  ·have hb1:(r==1)=true:=by simpa using c1
   have k1:=c35 d a1 m1 3 (by omega) (by omega) r0.2.2.1 r0.2.2.2
   have r1:=nextF_r (d:=d) (n:=3) (a:=a1) (by omega) r0.2.2.1 r0.2.2.2
   generalize nextF d a1 m1 3=p at*
   obtain⟨v,a2,m2⟩:=p
   simp only at k1 r1
   have w:IntKind.i64.wrap (-2147483648+v)= -2147483648+v:=wrap64 (by omega) (by omega)
   refine⟨-2147483648+v,a2,m2,?_,by simp[cell,inR];omega,by omega,by omega,by omega,r1.2.2.1,r1.2.2.2⟩
   refine Con.evP 39 [500000] rfl T_ok mix Tryd.func37 rfl rfl rfl rfl [.tmp 2] rfl ?_
   conv=>whnf
   (iterate 3 ((first|apply rq_s rfl|refine handp_s 35 [some 3,none] ?_);conv=>whnf));(focus (apply callpe_s (f:=35);(· repeat' (first|(refine sub_all ?_;simp[List.length_map];done)|exact sub_map _ _ _ _|apply cons_eq|apply obj_eq|apply agg_eq|apply own_eq|apply ro_eq|apply rp_eq|apply fnc_eq|rfl));refine callp_s (f:=35) rfl (k0 ..) ?_;conv=>whnf));(iterate 6 ((first|apply rq_s rfl|refine fac_s (fun hf=> ?_)|refine br_t (by assumption) ?_|refine br_f (by assumption) ?_|refine handp_s 35 [some 3,none] ?_);conv=>whnf));(focus (apply callpe_s (f:=35);(· repeat' (first|(refine sub_all ?_;simp[List.length_map];done)|exact sub_map _ _ _ _|apply cons_eq|apply obj_eq|apply agg_eq|apply own_eq|apply ro_eq|apply rp_eq|apply fnc_eq|rfl));refine callp_s (f:=35) rfl (k1 ..) ?_;conv=>whnf));(refine fac_s (fun hf=> ?_);conv=>whnf);(apply rq_s rfl;conv=>whnf);(refine aftp_s (by((simp[srcC,roU,w]))) ?_;conv=>whnf);iterate 3 (first|(apply rows_s rfl;(conv=>whnf))|(refine aftp_s (by rfl) ?_;(conv=>whnf))|(exact True.intro))
  have hb1:(r==1)=false:=by simpa using c1
  by_cases c2:r=2
  ·have hb2:(r==2)=true:=by simpa using c2
   have k1:=c50 d a1 m1 (by omega) (by omega) r0.2.2.1 r0.2.2.2
   have r1:=byteF_r (d:=d) (a:=a1) r0.2.2.1 r0.2.2.2
   generalize byteF d a1 m1=p at*
   obtain⟨v1,n1⟩:=p
   simp only at k1 r1
   have k2:=c50 d (a1+1) n1 (by omega) (by omega) r1.2.1 r1.2.2
   have r2:=byteF_r (d:=d) (a:=a1+1) r1.2.1 r1.2.2
   generalize byteF d (a1+1) n1=p at*
   obtain⟨v2,n2⟩:=p
   simp only at k2 r2
   have k3:=c50 d (a1+1+1) n2 (by omega) (by omega) r2.2.1 r2.2.2
   have r3:=byteF_r (d:=d) (a:=a1+1+1) r2.2.1 r2.2.2
   generalize byteF d (a1+1+1) n2=p at*
   obtain⟨v3,n3⟩:=p
   simp only at k3 r3
   have k4:=c50 d (a1+1+1+1) n3 (by omega) (by omega) r3.2.1 r3.2.2
   have r4:=byteF_r (d:=d) (a:=a1+1+1+1) r3.2.1 r3.2.2
   generalize byteF d (a1+1+1+1) n3=p at*
   obtain⟨v4,n4⟩:=p
   simp only at k4 r4
   refine⟨_,a1+1+1+1+1,n4,?_,by have:=wrapF_r (IntKind.i64.wrap (IntKind.i64.wrap (IntKind.i64.wrap (IntKind.i64.wrap (v1*16777216)+IntKind.i64.wrap (v2*65536))+IntKind.i64.wrap (v3*256))+v4));simpa[cell,inR]using this,by omega,by omega,by omega,r4.2.1,r4.2.2⟩
   refine Con.evP 39 [500000] rfl T_ok mix Tryd.func37 rfl rfl rfl rfl [.tmp 2] rfl ?_
   conv=>whnf
   (iterate 3 ((first|apply rq_s rfl|refine handp_s 35 [some 3,none] ?_);conv=>whnf));(focus (apply callpe_s (f:=35);(· repeat' (first|(refine sub_all ?_;simp[List.length_map];done)|exact sub_map _ _ _ _|apply cons_eq|apply obj_eq|apply agg_eq|apply own_eq|apply ro_eq|apply rp_eq|apply fnc_eq|rfl));refine callp_s (f:=35) rfl (k0 ..) ?_;conv=>whnf));(iterate 6 ((first|apply rq_s rfl|refine fac_s (fun hf=> ?_)|refine br_t (by assumption) ?_|refine br_f (by assumption) ?_|refine handp_s 50 [some 3] ?_);conv=>whnf));(focus (apply callpe_s (f:=50);(· repeat' (first|(refine sub_all ?_;simp[List.length_map];done)|exact sub_map _ _ _ _|apply cons_eq|apply obj_eq|apply agg_eq|apply own_eq|apply ro_eq|apply rp_eq|apply fnc_eq|rfl));refine callp_s (f:=50) rfl (k1 ..) ?_;conv=>whnf));(refine handp_s 50 [some 3] ?_;conv=>whnf);(apply rq_s rfl;conv=>whnf);(focus (apply callpe_s (f:=50);(· repeat' (first|(refine sub_all ?_;simp[List.length_map];done)|exact sub_map _ _ _ _|apply cons_eq|apply obj_eq|apply agg_eq|apply own_eq|apply ro_eq|apply rp_eq|apply fnc_eq|rfl));refine callp_s (f:=50) rfl (k2 ..) ?_;conv=>whnf));(refine handp_s 50 [some 3] ?_;conv=>whnf);(apply rq_s rfl;conv=>whnf);(focus (apply callpe_s (f:=50);(· repeat' (first|(refine sub_all ?_;simp[List.length_map];done)|exact sub_map _ _ _ _|apply cons_eq|apply obj_eq|apply agg_eq|apply own_eq|apply ro_eq|apply rp_eq|apply fnc_eq|rfl));refine callp_s (f:=50) rfl (k3 ..) ?_;conv=>whnf));(refine handp_s 50 [some 3] ?_;conv=>whnf);(apply rq_s rfl;conv=>whnf);(focus (apply callpe_s (f:=50);(· repeat' (first|(refine sub_all ?_;simp[List.length_map];done)|exact sub_map _ _ _ _|apply cons_eq|apply obj_eq|apply agg_eq|apply own_eq|apply ro_eq|apply rp_eq|apply fnc_eq|rfl));refine callp_s (f:=50) rfl (k4 ..) ?_;conv=>whnf));iterate 13 (first|(apply rq_s rfl;(conv=>whnf))|(apply rows_s rfl;(conv=>whnf))|(refine fac_s (fun hf=> ?_);(conv=>whnf))|(apply lend_s;(conv=>whnf))|(refine call_s (c51 ..) ?_;(conv=>whnf))|(refine aftp_s (by rfl) ?_;(conv=>whnf))|(exact True.intro))
  have hb2:(r==2)=false:=by simpa using c2
  have k1:=c35 d a1 m1 40 (by omega) (by omega) r0.2.2.1 r0.2.2.2
  have r1:=nextF_r (d:=d) (n:=40) (a:=a1) (by omega) r0.2.2.1 r0.2.2.2
  generalize nextF d a1 m1 40=p at*
  obtain⟨v,a2,m2⟩:=p
  simp only at k1 r1
  by_cases c3:r=3
  ·have hb3:(r==3)=true:=by simpa using c3
   have w:IntKind.i64.wrap (0-v)=0-v:=wrap64 (by omega) (by omega)
   refine⟨0-v,a2,m2,?_,by simp[cell,inR];omega,by omega,by omega,by omega,r1.2.2.1,r1.2.2.2⟩
   refine Con.evP 39 [500000] rfl T_ok mix Tryd.func37 rfl rfl rfl rfl [.tmp 2] rfl ?_
   conv=>whnf
   (iterate 3 ((first|apply rq_s rfl|refine handp_s 35 [some 3,none] ?_);conv=>whnf));(focus (apply callpe_s (f:=35);(· repeat' (first|(refine sub_all ?_;simp[List.length_map];done)|exact sub_map _ _ _ _|apply cons_eq|apply obj_eq|apply agg_eq|apply own_eq|apply ro_eq|apply rp_eq|apply fnc_eq|rfl));refine callp_s (f:=35) rfl (k0 ..) ?_;conv=>whnf));(iterate 8 ((first|apply rq_s rfl|refine fac_s (fun hf=> ?_)|refine br_t (by assumption) ?_|refine br_f (by assumption) ?_|refine handp_s 35 [some 3,none] ?_);conv=>whnf));(focus (apply callpe_s (f:=35);(· repeat' (first|(refine sub_all ?_;simp[List.length_map];done)|exact sub_map _ _ _ _|apply cons_eq|apply obj_eq|apply agg_eq|apply own_eq|apply ro_eq|apply rp_eq|apply fnc_eq|rfl));refine callp_s (f:=35) rfl (k1 ..) ?_;conv=>whnf));iterate 6 (first|(apply rq_s rfl;(conv=>whnf))|(apply rows_s rfl;(conv=>whnf))|(refine fac_s (fun hf=> ?_);(conv=>whnf))|(refine aftp_s (by rfl) ?_;(conv=>whnf))|(refine aftp_s (by((rw[w]))) ?_;(conv=>whnf))|(exact True.intro))
  have hb3:(r==3)=false:=by simpa using c3
  refine⟨v,a2,m2,?_,by simp[cell,inR];omega,by omega,by omega,by omega,r1.2.2.1,r1.2.2.2⟩
  refine Con.evP 39 [500000] rfl T_ok mix Tryd.func37 rfl rfl rfl rfl [.tmp 2] rfl ?_
  conv=>whnf
  (iterate 3 ((first|apply rq_s rfl|refine handp_s 35 [some 3,none] ?_);conv=>whnf));(focus (apply callpe_s (f:=35);(· repeat' (first|(refine sub_all ?_;simp[List.length_map];done)|exact sub_map _ _ _ _|apply cons_eq|apply obj_eq|apply agg_eq|apply own_eq|apply ro_eq|apply rp_eq|apply fnc_eq|rfl));refine callp_s (f:=35) rfl (k0 ..) ?_;conv=>whnf));(iterate 8 ((first|apply rq_s rfl|refine fac_s (fun hf=> ?_)|refine br_f (by assumption) ?_|refine handp_s 35 [some 3,none] ?_);conv=>whnf));(focus (apply callpe_s (f:=35);(· repeat' (first|(refine sub_all ?_;simp[List.length_map];done)|exact sub_map _ _ _ _|apply cons_eq|apply obj_eq|apply agg_eq|apply own_eq|apply ro_eq|apply rp_eq|apply fnc_eq|rfl));refine callp_s (f:=35) rfl (k1 ..) ?_;conv=>whnf));iterate 6 (first|(apply rq_s rfl;(conv=>whnf))|(apply rows_s rfl;(conv=>whnf))|(refine fac_s (fun hf=> ?_);(conv=>whnf))|(refine aftp_s (by rfl) ?_;(conv=>whnf))|(exact True.intro))
end W2

/- The reference's source of data, 3: texts; contracts. -/
open Go Go.Abs Go.Proofs V1 W1 W2
namespace W3
theorem sle{a m L L':Int}(h:SrcOk a m L)(hl:L≤L'):SrcOk a m L':=⟨h.1,by have:=h.2;omega,h.3,h.4⟩
abbrev srcO(d:List UInt8)(a m:Int):AV:=.obj (srcC d a m)
def NxC(d:List UInt8)(n:Int)(a m a' m' v:Int):Prop:=Con Tryd.prog 35 [srcO d a m,.int .i64 n] [srcO d a' m',.undef] (.int .i64 v)
theorem nx(d:List UInt8){a m L:Int}(n:Int)(h:SrcOk a m L)(hl:L≤10000000000): ∃v a' m',NxC d n a m a' m' v∧0≤v∧(v<n∨v=0)∧SrcOk a' m' (L+3):=by
 have r:=nextF_r (d:=d) (n:=n) h.1 h.3 h.4
 have h2:=h.2
 exact⟨_,_,_,c35 d a m n h.1 (by omega) h.3 h.4,r.1.1,r.1.2,⟨by have:=h.1;omega,by omega,r.2.2.1,r.2.2.2⟩⟩
def ChC(d:List UInt8)(n:Int)(a m a' m':Int)(b:Bool):Prop:=Con Tryd.prog 60 [srcO d a m,.int .i64 n] [srcO d a' m',.undef] (.bool b)
theorem ch(d:List UInt8){a m L:Int}(n:Int)(h:SrcOk a m L)(hl:L≤10000000000): ∃b a' m',ChC d n a m a' m' b∧SrcOk a' m' (L+3):=by
 obtain⟨v,a',m',k1,_,_,h'⟩:=nx d n h hl
 unfold NxC at k1
 refine⟨v==IntKind.i64.wrap (n-1),a',m',?_,h'⟩
 unfold ChC
 refine Con.evP 11 [500000] rfl T_ok mix Tryd.func60 rfl rfl rfl rfl [.tmp 4] rfl ?_
 conv=>whnf
 (iterate 3 ((first|apply rq_s rfl|refine handp_s 35 [some 3,none] ?_);conv=>whnf));(focus (apply callpe_s (f:=35);(· repeat' (first|(refine sub_all ?_;simp[List.length_map];done)|exact sub_map _ _ _ _|apply cons_eq|apply obj_eq|apply agg_eq|apply own_eq|apply ro_eq|apply rp_eq|apply fnc_eq|rfl));refine callp_s (f:=35) rfl (k1 ..) ?_;conv=>whnf));iterate 6 (first|(apply rq_s rfl;(conv=>whnf))|(apply rows_s rfl;(conv=>whnf))|(refine fac_s (fun hf=> ?_);(conv=>whnf))|(refine aftp_s (by rfl) ?_;(conv=>whnf))|(exact True.intro))
def PkC(d:List UInt8)(ls:List (List UInt8))(a m a' m':Int)(x:List UInt8):Prop:=Con Tryd.prog 36 [srcO d a m,roS ls] [srcO d a' m',.undef] (.str x)
theorem pk(d:List UInt8){a m L:Int}(ls:List (List UInt8))(hls:0<ls.length)(h:SrcOk a m L)(hl:L≤10000000000): ∃x a' m',PkC d ls a m a' m' x∧x∈ls∧SrcOk a' m' (L+3):=by
 obtain⟨v,a',m',k1,v0,v1,h'⟩:=nx d (((ls.map strR).length:Nat):Int) h hl
 unfold NxC at k1
 have hv:v.toNat<ls.length:=by rw[List.length_map]at v1;omega
 refine⟨ls.getD v.toNat default,a',m',?_,by rw[List.getD_eq_getElem?_getD,List.getElem?_eq_getElem hv];exact List.getElem_mem hv,h'⟩
 unfold PkC
 obtain⟨n,rfl⟩:=Int.eq_ofNat_of_zero_le v0
 have g1:((((ls.map strR).length:Nat):Int)==0)=false:=by rw[List.length_map];exact beq_eq_false_iff_ne.2 (by omega)
 refine Con.evP 15 [500000] rfl T_ok mix Tryd.func36 rfl rfl rfl rfl [.tmp 4] rfl ?_
 conv=>whnf
 (iterate 4 ((first|apply rq_s rfl|refine br_f (by assumption) ?_|refine handp_s 35 [some 3,none] ?_);conv=>whnf));(focus (apply callpe_s (f:=35);(· repeat' (first|(refine sub_all ?_;simp[List.length_map];done)|exact sub_map _ _ _ _|apply cons_eq|apply obj_eq|apply agg_eq|apply own_eq|apply ro_eq|apply rp_eq|apply fnc_eq|rfl));refine callp_s (f:=35) rfl (k1 ..) ?_;conv=>whnf));(apply rq_s rfl;conv=>whnf);(refine rq_s (by refine and_s rfl ?_;simp only[lnm];omega) ?_;conv=>whnf);(refine row_s (by((try simp only[Int.toNat_natCast]);exact row_map strR _ _ _ default (by first|omega|(simp;omega)))) ?_;conv=>whnf);iterate 6 (first|(apply rq_s rfl;(conv=>whnf))|(apply rows_s rfl;(conv=>whnf))|(refine fac_s (fun hf=> ?_);(conv=>whnf))|(refine aftp_s (by rfl) ?_;(conv=>whnf))|(exact True.intro))
def plainW:List (List UInt8):=[[49],[50],[51],[45,49],[55],[100,117,112],[100,114,111,112],[115,119,97,112],[111,118,101,114],[43],[45],[42],[47],[109,111,100],[46],[99,114],[101,109,105,116],[64],[33],[104,101,114,101],[61],[60],[48,61],[49,43],[100,101,112,116,104],[115,113],[120],[118],[99],[104,114,101,97,100],[104,119,114,105,116,101],[104,97,115,107],[104,116,105,109,101],[62,114],[114,62],[99,97,116,99,104],[116,104,114,111,119],[101,120,101,99,117,116,101],[104,101,120],[100,101,99,105,109,97,108],[110,101,103,97,116,101],[109,97,120]]
def PlC(d:List UInt8)(a m a' m':Int)(x:List UInt8):Prop:=Con Tryd.prog 61 [srcO d a m] [srcO d a' m'] (.str x)
theorem plain_len: ∀x∈plainW,x.length≤7:=by decide
theorem pl(d:List UInt8){a m L:Int}(h:SrcOk a m L)(hl:L≤10000000000): ∃x a' m',PlC d a m a' m' x∧x.length≤7∧SrcOk a' m' (L+3):=by
 obtain⟨x,a',m',k1,hx,h'⟩:=pk d plainW (by decide) h hl
 refine⟨x,a',m',?_,plain_len x hx,h'⟩
 unfold PkC plainW roS at k1
 simp only[List.map_cons,List.map_nil]at k1
 unfold PlC
 refine Con.evPK [(1000004,[4])] 6 [500000] rfl T_ok mix Tryd.func61 rfl rfl rfl rfl [.tmp 2] rfl ?_
 conv=>whnf
 (apply rq_s rfl;conv=>whnf);(refine rows_s (by((refine sub_all ?_;simp[List.length_map];done))) ?_;conv=>whnf);(iterate 3 ((first|apply rq_s rfl|refine handp_s 36 [some 3,none] ?_);conv=>whnf));(focus (apply callpe_s (f:=36);(· repeat' (first|(refine sub_all ?_;simp[List.length_map];done)|exact sub_map _ _ _ _|apply cons_eq|apply obj_eq|apply agg_eq|apply own_eq|apply ro_eq|apply rp_eq|apply fnc_eq|rfl));refine callp_s (f:=36) rfl (k1 ..) ?_;conv=>whnf));iterate 6 (first|(apply rq_s rfl;(conv=>whnf))|(apply rows_s rfl;(conv=>whnf))|(refine fac_s (fun hf=> ?_);(conv=>whnf))|(refine aftp_s (by rfl) ?_;(conv=>whnf))|(exact True.intro))
end W3
