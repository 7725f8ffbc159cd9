import Derived.Test.YtidkogijdlfjpaaGreatDoorApV
import Derived.Test.YtidkogijdlfjpaaGreatDoorAbsd
import Derived.Test.YtidkogijdlfjpaaGreatDoorAbsm
import Derived.Test.YtidkogijdlfjpaaGreatDoorApA
import Derived.Test.YtidkogijdlfjpaaGreatDoorAbsi
import Derived.Test.YtidkogijdlfjpaaGreatDoorIdF
/- The reference's source of data: contracts. -/
set_option linter.unusedVariables false
set_option linter.unusedSimpArgs false
set_option maxRecDepth 100000
open Go Go.Abs Go.Proofs V1
namespace Y1
def byteR(c:UInt8):List AV:=[.int .u8 c.toNat]
abbrev z8:List AV:=[.int .u8 0]
def roU(d:List UInt8):AV:=.ro z8 (d.map byteR)
def srcC(d:List UInt8)(a m:Int):List AV:=[roU d,.int .i64 a,.int .i64 m]
theorem c43(d:List UInt8):Con Tryz.prog 43 [roU d] (undefs [roU d]) (.obj (srcC d 0 ((d.length:Int).tmod 1000))):=by
 refine Con.ev 9 T_ok mix Tryz.func43 rfl rfl rfl rfl [.tmp 2] rfl ?_
 conv=>whnf
 (iterate 3 (apply rq_s rfl;conv=>whnf));(refine sh_s ?_;((simp[srcC,roU])))
def byteF(d:List UInt8)(a m:Int):Int × Int:=
 if a+1≤d.length then(((d.getD a.toNat 0).toNat:Int),(m*31+(d.getD a.toNat 0).toNat+7).tmod 2147483648)else if 3000<a+1 then(0,m)
 else(((((m*1103515245+12345).tmod 2147483648).tdiv 65536).tmod 256),(m*1103515245+12345).tmod 2147483648)
theorem c76(d:List UInt8)(a m:Int)(h1:0≤a)(h2:a≤1000000000000)(h3:0≤m)(h4:m<2147483648):
  Con Tryz.prog 76 [.obj (srcC d a m)] [.obj (srcC d (a+1) (byteF d a m).2)] (.int .i64 (byteF d a m).1):=by
 have w0:IntKind.i64.wrap (a+1)=a+1:=wrap64 (by omega) (by omega)
 have w1:IntKind.i64.wrap (a+1-1)=a:=(wrap64 (by omega) (by omega)).trans (by omega)
 have w2:IntKind.i64.wrap (m*31)=m*31:=wrap64 (by omega) (by omega)
 have w3:IntKind.i64.wrap (m*1103515245)=m*1103515245:=wrap64 (by omega) (by omega)
 have w4:IntKind.i64.wrap (m*1103515245+12345)=m*1103515245+12345:=wrap64 (by omega) (by omega)
 have hrow: ∀z,a+1≤d.length→rowA (d.map byteR) a.toNat z=byteR (d.getD a.toNat 0):=fun z h=>row_map byteR _ _ _ 0 (by omega)
 by_cases c1:a+1≤d.length
 ·have hrow: ∀z,rowA (d.map byteR) (IntKind.i64.wrap (IntKind.i64.wrap (a+1)-1)).toNat z=byteR (d.getD a.toNat 0):=fun z=>by
   rw[w0,w1];exact hrow z c1
  have e:byteF d a m=(((d.getD a.toNat 0).toNat:Int),(m*31+(d.getD a.toNat 0).toNat+7).tmod 2147483648):=by rw[byteF,if_pos c1]
  rw[e]
  generalize d.getD a.toNat 0=c at*
  have hc:(c.toNat:Int)<256:=by have:=c.toNat_lt;omega
  have w5:IntKind.i64.wrap (m*31+c.toNat)=m*31+c.toNat:=wrap64 (by omega) (by omega)
  have w6:IntKind.i64.wrap (m*31+c.toNat+7)=m*31+c.toNat+7:=wrap64 (by omega) (by omega)
  have w7:IntKind.i64.wrap (c.toNat:Int)=c.toNat:=wrap64 (by omega) (by omega)
  have hb:decide (IntKind.i64.wrap (a+1)≤((d.map byteR).length:Int))=true:=by rw[w0];simp;omega
  refine Con.evP 76 [500000] rfl T_ok mix Tryz.func76 rfl rfl rfl rfl [.tmp 2] rfl ?_
  conv=>whnf
  (iterate 69 ((first|apply rq_s rfl|refine rq_s (by(((first|(simp only[w0,w1,decide_eq_true_eq];omega)|(refine and_s rfl ?_;simp only[w0,w1,List.length_map,decide_eq_true_eq];omega))))) ?_|refine row_s (by(exact hrow _)) ?_|refine ChkS.mk (by kernel_rfl) ?_|refine br_t (by assumption) ?_);conv=>whnf));(refine aftp_s (by((simp[srcC,roU,w0,w2,w5,w6,w7]))) ?_;conv=>whnf);(apply rows_s rfl;conv=>whnf);(refine aftp_s (by((simp[srcC,roU,w0,w2,w5,w6,w7]))) ?_;conv=>whnf)
  exact True.intro
 ·have hb:decide (IntKind.i64.wrap (a+1)≤((d.map byteR).length:Int))=false:=by rw[w0];simp;omega
  by_cases c2:3000<a+1
  ·have hb2:decide (IntKind.i64.wrap (a+1)>3000)=true:=by rw[w0];simpa using c2
   have e:byteF d a m=(0,m):=by rw[byteF,if_neg c1,if_pos c2]
   rw[e]
   refine Con.evP 76 [500000] rfl T_ok mix Tryz.func76 rfl rfl rfl rfl [.tmp 2] rfl ?_
   conv=>whnf
   (iterate 21 ((first|apply rq_s rfl|apply rows_s rfl|refine ChkS.mk (by kernel_rfl) ?_|refine br_t (by assumption) ?_|refine br_f (by assumption) ?_|refine aftp_s (by rfl) ?_);conv=>whnf));(refine aftp_s (by((simp[srcC,roU,w0]))) ?_;conv=>whnf)
   exact True.intro
  ·have hb2:decide (IntKind.i64.wrap (a+1)>3000)=false:=by rw[w0];simpa using c2
   have e:byteF d a m=(((((m*1103515245+12345).tmod 2147483648).tdiv 65536).tmod 256),(m*1103515245+12345).tmod 2147483648):=by rw[byteF,if_neg c1,if_neg c2]
   have w8:IntKind.i64.wrap (((m*1103515245+12345).tmod 2147483648).tdiv 65536)=((m*1103515245+12345).tmod 2147483648).tdiv 65536:=by
    have:0≤(m*1103515245+12345).tmod 2147483648:=Int.tmod_nonneg _ (by omega)
    have:(m*1103515245+12345).tmod 2147483648<2147483648:=Int.tmod_lt_of_pos _ (by omega)
    rw[Int.tdiv_eq_ediv_of_nonneg (by omega)]
    exact wrap64 (by omega) (by omega)
   rw[e]
   refine Con.evP 76 [500000] rfl T_ok mix Tryz.func76 rfl rfl rfl rfl [.tmp 2] rfl ?_
   conv=>whnf
   (iterate 25 ((first|apply rq_s rfl|refine ChkS.mk (by kernel_rfl) ?_|refine br_f (by assumption) ?_);conv=>whnf));(refine aftp_s (by((simp[srcC,roU,w0,w3,w4,w8]))) ?_;conv=>whnf);(apply rows_s rfl;conv=>whnf);(refine aftp_s (by((simp[srcC,roU,w0,w3,w4,w8]))) ?_;conv=>whnf)
   exact True.intro
theorem byteF_r{d:List UInt8}{a m:Int}(h3:0≤m)(h4:m<2147483648):(0≤(byteF d a m).1∧(byteF d a m).1<256)∧0≤(byteF d a m).2∧(byteF d a m).2<2147483648:=by
 unfold byteF
 split
 ·have:=(d.getD a.toNat 0).toNat_lt
  exact⟨by simp only;omega,Int.tmod_nonneg _ (by omega),Int.tmod_lt_of_pos _ (by omega)⟩
 ·split
  ·exact⟨by simp,by simp only;omega⟩
  ·refine⟨⟨?_,Int.tmod_lt_of_pos _ (by omega)⟩,Int.tmod_nonneg _ (by omega),Int.tmod_lt_of_pos _ (by omega)⟩
   have:0≤(m*1103515245+12345).tmod 2147483648:=Int.tmod_nonneg _ (by omega)
   refine Int.tmod_nonneg _ ?_
   rw[Int.tdiv_eq_ediv_of_nonneg this]
   omega
def m1(d:List UInt8)(a m:Int):Int:=(byteF d a m).2
def nextF(d:List UInt8)(a m n:Int):Int × Int × Int:=
 if n≤1 then(0,a,m)else if n≤256 then((byteF d a m).1.tmod n,a+1,(byteF d a m).2)
 else(((byteF d a m).1*65536+(byteF d (a+1) (byteF d a m).2).1*256+(byteF d (a+2) (byteF d (a+1) (byteF d a m).2).2).1).tmod n,a+3,(byteF d (a+2) (byteF d (a+1) (byteF d a m).2).2).2)
theorem c70(d:List UInt8)(a m n:Int)(h1:0≤a)(h2:a≤100000000000)(h3:0≤m)(h4:m<2147483648):
  Con Tryz.prog 70 [.obj (srcC d a m),.int .i64 n] [.obj (srcC d (nextF d a m n).2.1 (nextF d a m n).2.2),.undef] (.int .i64 (nextF d a m n).1):=by
 have k1:=c76 d a m h1 (by omega) h3 h4
 have r1:=byteF_r (d:=d) (a:=a) h3 h4
 have k2:=c76 d (a+1) (byteF d a m).2 (by omega) (by omega) r1.2.1 r1.2.2
 have r2:=byteF_r (d:=d) (a:=a+1) r1.2.1 r1.2.2
 have k3:=c76 d (a+2) (byteF d (a+1) (byteF d a m).2).2 (by omega) (by omega) r2.2.1 r2.2.2
 have r3:=byteF_r (d:=d) (a:=a+2) r2.2.1 r2.2.2
 rw[show a+1+1=a+2 by omega]at k2
 rw[show a+2+1=a+3 by omega]at k3
 by_cases c1:n≤1
 ·have hb:decide (n≤1)=true:=by simpa using c1
  rw[nextF,if_pos c1]
  refine Con.evP 31 [500000] rfl T_ok mix Tryz.func70 rfl rfl rfl rfl [.tmp 4] rfl ?_
  conv=>whnf
  iterate 6 (first|(apply rq_s rfl;conv=>whnf)|(apply rows_s rfl;conv=>whnf)|(refine br_t (by assumption) ?_;conv=>whnf)|(refine aftp_s (by rfl) ?_;conv=>whnf)|(exact True.intro))
 ·have hb:decide (n≤1)=false:=by simpa using c1
  by_cases c2:n≤256
  ·have hb2:decide (n≤256)=true:=by simpa using c2
   rw[nextF,if_neg c1,if_pos c2]
   generalize byteF d a m=p at*
   refine Con.evP 31 [500000] rfl T_ok mix Tryz.func70 rfl rfl rfl rfl [.tmp 4] rfl ?_
   conv=>whnf
   (iterate 4 ((first|apply rq_s rfl|refine br_t (by assumption) ?_|refine br_f (by assumption) ?_|refine handp_s 76 [some 3] ?_);conv=>whnf));(focus (apply callpe_s (f:=76);(· repeat' (first|(refine sub_all ?_;simp[List.length_map];done)|exact sub_map _ _ _ _|apply cons_eq|apply obj_eq|apply agg_eq|apply own_eq|apply ro_eq|apply rp_eq|apply fnc_eq|rfl));refine callp_s (f:=76) rfl (k1 ..) ?_;conv=>whnf));iterate 7 (first|(apply rq_s rfl;conv=>whnf)|(refine rq_s (by((simp;omega))) ?_;conv=>whnf)|(apply rows_s rfl;conv=>whnf)|(refine fac_s (fun hf=> ?_);conv=>whnf)|(refine aftp_s (by rfl) ?_;conv=>whnf)|(exact True.intro))
  ·have hb2:decide (n≤256)=false:=by simpa using c2
   rw[nextF,if_neg c1,if_neg c2]
   generalize byteF d a m=p at*
   generalize byteF d (a+1) p.2=q at*
   generalize byteF d (a+2) q.2=r at*
   obtain⟨v1,m1⟩:=p
   obtain⟨v2,m2⟩:=q
   obtain⟨v3,m3⟩:=r
   simp only at r1 r2 r3 k1 k2 k3
   have w1:IntKind.i64.wrap (v1*65536)=v1*65536:=wrap64 (by omega) (by omega)
   have w2:IntKind.i64.wrap (v2*256)=v2*256:=wrap64 (by omega) (by omega)
   have w3:IntKind.i64.wrap (v1*65536+v2*256)=v1*65536+v2*256:=wrap64 (by omega) (by omega)
   have w4:IntKind.i64.wrap (v1*65536+v2*256+v3)=v1*65536+v2*256+v3:=wrap64 (by omega) (by omega)
   refine Con.evP 31 [500000] rfl T_ok mix Tryz.func70 rfl rfl rfl rfl [.tmp 4] rfl ?_
   conv=>whnf
   (iterate 4 ((first|apply rq_s rfl|refine br_f (by assumption) ?_|refine handp_s 76 [some 3] ?_);conv=>whnf));(focus (apply callpe_s (f:=76);(· repeat' (first|(refine sub_all ?_;simp[List.length_map];done)|exact sub_map _ _ _ _|apply cons_eq|apply obj_eq|apply agg_eq|apply own_eq|apply ro_eq|apply rp_eq|apply fnc_eq|rfl));refine callp_s (f:=76) rfl (k1 ..) ?_;conv=>whnf));(iterate 3 ((first|apply rq_s rfl|refine fac_s (fun hf=> ?_)|refine handp_s 76 [some 3] ?_);conv=>whnf));(focus (apply callpe_s (f:=76);(· repeat' (first|(refine sub_all ?_;simp[List.length_map];done)|exact sub_map _ _ _ _|apply cons_eq|apply obj_eq|apply agg_eq|apply own_eq|apply ro_eq|apply rp_eq|apply fnc_eq|rfl));refine callp_s (f:=76) rfl (k2 ..) ?_;conv=>whnf));(iterate 3 ((first|apply rq_s rfl|refine fac_s (fun hf=> ?_)|refine handp_s 76 [some 3] ?_);conv=>whnf));(focus (apply callpe_s (f:=76);(· repeat' (first|(refine sub_all ?_;simp[List.length_map];done)|exact sub_map _ _ _ _|apply cons_eq|apply obj_eq|apply agg_eq|apply own_eq|apply ro_eq|apply rp_eq|apply fnc_eq|rfl));refine callp_s (f:=76) rfl (k3 ..) ?_;conv=>whnf));(iterate 3 ((first|apply rq_s rfl|refine rq_s (by((simp;omega))) ?_|refine fac_s (fun hf=> ?_));conv=>whnf));(refine aftp_s (by((simp[srcC,roU,w1,w2,w3,w4]))) ?_;conv=>whnf);iterate 3 (first|(apply rows_s rfl;conv=>whnf)|(refine aftp_s (by rfl) ?_;conv=>whnf)|(exact True.intro))
theorem nextF_r{d:List UInt8}{a m n:Int}(h1:0≤a)(h3:0≤m)(h4:m<2147483648):(0≤(nextF d a m n).1∧((nextF d a m n).1<n∨(nextF d a m n).1=0))∧(a≤(nextF d a m n).2.1∧(nextF d a m n).2.1≤a+3)∧0≤(nextF d a m n).2.2∧(nextF d a m n).2.2<2147483648:=by
 have r1:=byteF_r (d:=d) (a:=a) h3 h4
 have r2:=byteF_r (d:=d) (a:=a+1) r1.2.1 r1.2.2
 have r3:=byteF_r (d:=d) (a:=a+2) r2.2.1 r2.2.2
 unfold nextF
 split
 ·exact⟨⟨by simp,.inr rfl⟩,⟨by simp,by simp only;omega⟩,h3,h4⟩
 ·split
  ·exact⟨⟨Int.tmod_nonneg _ r1.1.1,.inl (Int.tmod_lt_of_pos _ (by omega))⟩,⟨by simp only;omega,by simp only;omega⟩,r1.2⟩
  ·exact⟨⟨Int.tmod_nonneg _ (by omega),.inl (Int.tmod_lt_of_pos _ (by omega))⟩,⟨by simp only;omega,by simp only;omega⟩,r3.2⟩
end Y1

/- The reference's source of data, 2: contracts. -/
open Go Go.Abs Go.Proofs V1 Y1
namespace Y2
def wrapF(n:Int):Int:=IntKind.i64.wrap (IntKind.i32.wrap (IntKind.u32.wrap (IntKind.u64.wrap n)))
theorem c75(n:Int):Con Tryz.prog 75 [.int .i64 n] (undefs [.int .i64 n]) (.int .i64 (wrapF n)):=by
 refine Con.ev 8 T_ok mix Tryz.func75 rfl rfl rfl rfl [.tmp 2] rfl ?_
 conv=>whnf
 (apply rq_s rfl;conv=>whnf);(refine sh_s ?_;(rfl))
theorem wrapF_r(n:Int): -2147483648≤wrapF n∧wrapF n≤2147483647:=by
 have h: -2147483648≤IntKind.i32.wrap (IntKind.u32.wrap (IntKind.u64.wrap n))∧IntKind.i32.wrap (IntKind.u32.wrap (IntKind.u64.wrap n))≤2147483647:=by
  generalize IntKind.u32.wrap (IntKind.u64.wrap n)=k
  simp[IntKind.wrap,IntKind.signed,IntKind.bits]
  omega
 unfold wrapF
 rw[wrap64 (by omega) (by omega)]
 exact h
structure SrcOk(a m lim:Int):Prop where
 h1:0≤a
 h2:a≤lim
 h3:0≤m
 h4:m<2147483648
theorem cell_ex(d:List UInt8)(a m:Int)(h:SrcOk a m 10000000000): ∃v a' m',Con Tryz.prog 50 [.obj (srcC d a m)] [.obj (srcC d a' m')] (.int .i64 v)∧cell v=true∧a≤a'∧SrcOk a' m' (a+20):=by
 obtain⟨h1,h2,h3,h4⟩:=h
 have k0:=c70 d a m 8 h1 (by omega) h3 h4
 have r0:=nextF_r (d:=d) (n:=8) h1 h3 h4
 generalize nextF d a m 8=p at*
 obtain⟨r,a1,m1⟩:=p
 simp only at k0 r0
 by_cases c0:r=0
 ·have hb:(r==0)=true:=by simpa using c0
  have k1:=c70 d a1 m1 3 (by omega) (by omega) r0.2.2.1 r0.2.2.2
  have r1:=nextF_r (d:=d) (n:=3) (a:=a1) (by omega) r0.2.2.1 r0.2.2.2
  generalize nextF d a1 m1 3=p at*
  obtain⟨v,a2,m2⟩:=p
  simp only at k1 r1
  have w:IntKind.i64.wrap (2147483647-v)=2147483647-v:=wrap64 (by omega) (by omega)
  refine⟨2147483647-v,a2,m2,?_,by simp[cell,inR];omega,by omega,by omega,by omega,r1.2.2.1,r1.2.2.2⟩
  refine Con.evP 39 [500000] rfl T_ok mix Tryz.func50 rfl rfl rfl rfl [.tmp 2] rfl ?_
  conv=>whnf
  (iterate 3 ((first|apply rq_s rfl|refine handp_s 70 [some 3,none] ?_);conv=>whnf));(focus (apply callpe_s (f:=70);(· repeat' (first|(refine sub_all ?_;simp[List.length_map];done)|exact sub_map _ _ _ _|apply cons_eq|apply obj_eq|apply agg_eq|apply own_eq|apply ro_eq|apply rp_eq|apply fnc_eq|rfl));refine callp_s (f:=70) rfl (k0 ..) ?_;conv=>whnf));(iterate 5 ((first|apply rq_s rfl|refine fac_s (fun hf=> ?_)|refine br_t (by assumption) ?_|refine handp_s 70 [some 3,none] ?_);conv=>whnf));(focus (apply callpe_s (f:=70);(· repeat' (first|(refine sub_all ?_;simp[List.length_map];done)|exact sub_map _ _ _ _|apply cons_eq|apply obj_eq|apply agg_eq|apply own_eq|apply ro_eq|apply rp_eq|apply fnc_eq|rfl));refine callp_s (f:=70) rfl (k1 ..) ?_;conv=>whnf));(refine fac_s (fun hf=> ?_);conv=>whnf);(apply rq_s rfl;conv=>whnf);(refine aftp_s (by((simp[srcC,roU,w]))) ?_;conv=>whnf);iterate 3 (first|(apply rows_s rfl;conv=>whnf)|(refine aftp_s (by rfl) ?_;conv=>whnf)|(exact True.intro))
 ·have hb:(r==0)=false:=by simpa using c0
  by_cases c1:r=1
  ·have hb1:(r==1)=true:=by simpa using c1
   have k1:=c70 d a1 m1 3 (by omega) (by omega) r0.2.2.1 r0.2.2.2
   have r1:=nextF_r (d:=d) (n:=3) (a:=a1) (by omega) r0.2.2.1 r0.2.2.2
   generalize nextF d a1 m1 3=p at*
   obtain⟨v,a2,m2⟩:=p
   simp only at k1 r1
   have w:IntKind.i64.wrap (-2147483648+v)= -2147483648+v:=wrap64 (by omega) (by omega)
   refine⟨-2147483648+v,a2,m2,?_,by simp[cell,inR];omega,by omega,by omega,by omega,r1.2.2.1,r1.2.2.2⟩
   refine Con.evP 39 [500000] rfl T_ok mix Tryz.func50 rfl rfl rfl rfl [.tmp 2] rfl ?_
   conv=>whnf
   (iterate 3 ((first|apply rq_s rfl|refine handp_s 70 [some 3,none] ?_);conv=>whnf));(focus (apply callpe_s (f:=70);(· repeat' (first|(refine sub_all ?_;simp[List.length_map];done)|exact sub_map _ _ _ _|apply cons_eq|apply obj_eq|apply agg_eq|apply own_eq|apply ro_eq|apply rp_eq|apply fnc_eq|rfl));refine callp_s (f:=70) rfl (k0 ..) ?_;conv=>whnf));(iterate 6 ((first|apply rq_s rfl|refine fac_s (fun hf=> ?_)|refine br_t (by assumption) ?_|refine br_f (by assumption) ?_|refine handp_s 70 [some 3,none] ?_);conv=>whnf));(focus (apply callpe_s (f:=70);(· repeat' (first|(refine sub_all ?_;simp[List.length_map];done)|exact sub_map _ _ _ _|apply cons_eq|apply obj_eq|apply agg_eq|apply own_eq|apply ro_eq|apply rp_eq|apply fnc_eq|rfl));refine callp_s (f:=70) rfl (k1 ..) ?_;conv=>whnf));(refine fac_s (fun hf=> ?_);conv=>whnf);(apply rq_s rfl;conv=>whnf);(refine aftp_s (by((simp[srcC,roU,w]))) ?_;conv=>whnf);iterate 3 (first|(apply rows_s rfl;conv=>whnf)|(refine aftp_s (by rfl) ?_;conv=>whnf)|(exact True.intro))
  have hb1:(r==1)=false:=by simpa using c1
  by_cases c2:r=2
  ·have hb2:(r==2)=true:=by simpa using c2
   have k1:=c76 d a1 m1 (by omega) (by omega) r0.2.2.1 r0.2.2.2
   have r1:=byteF_r (d:=d) (a:=a1) r0.2.2.1 r0.2.2.2
   generalize byteF d a1 m1=p at*
   obtain⟨v1,n1⟩:=p
   simp only at k1 r1
   have k2:=c76 d (a1+1) n1 (by omega) (by omega) r1.2.1 r1.2.2
   have r2:=byteF_r (d:=d) (a:=a1+1) r1.2.1 r1.2.2
   generalize byteF d (a1+1) n1=p at*
   obtain⟨v2,n2⟩:=p
   simp only at k2 r2
   have k3:=c76 d (a1+1+1) n2 (by omega) (by omega) r2.2.1 r2.2.2
   have r3:=byteF_r (d:=d) (a:=a1+1+1) r2.2.1 r2.2.2
   generalize byteF d (a1+1+1) n2=p at*
   obtain⟨v3,n3⟩:=p
   simp only at k3 r3
   have k4:=c76 d (a1+1+1+1) n3 (by omega) (by omega) r3.2.1 r3.2.2
   have r4:=byteF_r (d:=d) (a:=a1+1+1+1) r3.2.1 r3.2.2
   generalize byteF d (a1+1+1+1) n3=p at*
   obtain⟨v4,n4⟩:=p
   simp only at k4 r4
   refine⟨_,a1+1+1+1+1,n4,?_,by have:=wrapF_r (IntKind.i64.wrap (IntKind.i64.wrap (IntKind.i64.wrap (IntKind.i64.wrap (v1*16777216)+IntKind.i64.wrap (v2*65536))+IntKind.i64.wrap (v3*256))+v4));simpa[cell,inR]using this,by omega,by omega,by omega,r4.2.1,r4.2.2⟩
   refine Con.evP 39 [500000] rfl T_ok mix Tryz.func50 rfl rfl rfl rfl [.tmp 2] rfl ?_
   conv=>whnf
   (iterate 3 ((first|apply rq_s rfl|refine handp_s 70 [some 3,none] ?_);conv=>whnf));(focus (apply callpe_s (f:=70);(· repeat' (first|(refine sub_all ?_;simp[List.length_map];done)|exact sub_map _ _ _ _|apply cons_eq|apply obj_eq|apply agg_eq|apply own_eq|apply ro_eq|apply rp_eq|apply fnc_eq|rfl));refine callp_s (f:=70) rfl (k0 ..) ?_;conv=>whnf));(iterate 6 ((first|apply rq_s rfl|refine fac_s (fun hf=> ?_)|refine br_t (by assumption) ?_|refine br_f (by assumption) ?_|refine handp_s 76 [some 3] ?_);conv=>whnf));(focus (apply callpe_s (f:=76);(· repeat' (first|(refine sub_all ?_;simp[List.length_map];done)|exact sub_map _ _ _ _|apply cons_eq|apply obj_eq|apply agg_eq|apply own_eq|apply ro_eq|apply rp_eq|apply fnc_eq|rfl));refine callp_s (f:=76) rfl (k1 ..) ?_;conv=>whnf));(refine handp_s 76 [some 3] ?_;conv=>whnf);(apply rq_s rfl;conv=>whnf);(focus (apply callpe_s (f:=76);(· repeat' (first|(refine sub_all ?_;simp[List.length_map];done)|exact sub_map _ _ _ _|apply cons_eq|apply obj_eq|apply agg_eq|apply own_eq|apply ro_eq|apply rp_eq|apply fnc_eq|rfl));refine callp_s (f:=76) rfl (k2 ..) ?_;conv=>whnf));(refine handp_s 76 [some 3] ?_;conv=>whnf);(apply rq_s rfl;conv=>whnf);(focus (apply callpe_s (f:=76);(· repeat' (first|(refine sub_all ?_;simp[List.length_map];done)|exact sub_map _ _ _ _|apply cons_eq|apply obj_eq|apply agg_eq|apply own_eq|apply ro_eq|apply rp_eq|apply fnc_eq|rfl));refine callp_s (f:=76) rfl (k3 ..) ?_;conv=>whnf));(refine handp_s 76 [some 3] ?_;conv=>whnf);(apply rq_s rfl;conv=>whnf);(focus (apply callpe_s (f:=76);(· repeat' (first|(refine sub_all ?_;simp[List.length_map];done)|exact sub_map _ _ _ _|apply cons_eq|apply obj_eq|apply agg_eq|apply own_eq|apply ro_eq|apply rp_eq|apply fnc_eq|rfl));refine callp_s (f:=76) rfl (k4 ..) ?_;conv=>whnf));iterate 13 (first|(apply rq_s rfl;conv=>whnf)|(apply rows_s rfl;conv=>whnf)|(refine fac_s (fun hf=> ?_);conv=>whnf)|(apply lend_s;conv=>whnf)|(refine call_s (c75 ..) ?_;conv=>whnf)|(refine aftp_s (by rfl) ?_;conv=>whnf)|(exact True.intro))
  have hb2:(r==2)=false:=by simpa using c2
  have k1:=c70 d a1 m1 40 (by omega) (by omega) r0.2.2.1 r0.2.2.2
  have r1:=nextF_r (d:=d) (n:=40) (a:=a1) (by omega) r0.2.2.1 r0.2.2.2
  generalize nextF d a1 m1 40=p at*
  obtain⟨v,a2,m2⟩:=p
  simp only at k1 r1
  by_cases c3:r=3
  ·have hb3:(r==3)=true:=by simpa using c3
   have w:IntKind.i64.wrap (0-v)=0-v:=wrap64 (by omega) (by omega)
   refine⟨0-v,a2,m2,?_,by simp[cell,inR];omega,by omega,by omega,by omega,r1.2.2.1,r1.2.2.2⟩
   refine Con.evP 39 [500000] rfl T_ok mix Tryz.func50 rfl rfl rfl rfl [.tmp 2] rfl ?_
   conv=>whnf
   (iterate 3 ((first|apply rq_s rfl|refine handp_s 70 [some 3,none] ?_);conv=>whnf));(focus (apply callpe_s (f:=70);(· repeat' (first|(refine sub_all ?_;simp[List.length_map];done)|exact sub_map _ _ _ _|apply cons_eq|apply obj_eq|apply agg_eq|apply own_eq|apply ro_eq|apply rp_eq|apply fnc_eq|rfl));refine callp_s (f:=70) rfl (k0 ..) ?_;conv=>whnf));(iterate 8 ((first|apply rq_s rfl|refine fac_s (fun hf=> ?_)|refine br_t (by assumption) ?_|refine br_f (by assumption) ?_|refine handp_s 70 [some 3,none] ?_);conv=>whnf));(focus (apply callpe_s (f:=70);(· repeat' (first|(refine sub_all ?_;simp[List.length_map];done)|exact sub_map _ _ _ _|apply cons_eq|apply obj_eq|apply agg_eq|apply own_eq|apply ro_eq|apply rp_eq|apply fnc_eq|rfl));refine callp_s (f:=70) rfl (k1 ..) ?_;conv=>whnf));iterate 6 (first|(apply rq_s rfl;conv=>whnf)|(apply rows_s rfl;conv=>whnf)|(refine fac_s (fun hf=> ?_);conv=>whnf)|(refine aftp_s (by rfl) ?_;conv=>whnf)|(refine aftp_s (by((rw[w]))) ?_;conv=>whnf)|(exact True.intro))
  have hb3:(r==3)=false:=by simpa using c3
  refine⟨v,a2,m2,?_,by simp[cell,inR];omega,by omega,by omega,by omega,r1.2.2.1,r1.2.2.2⟩
  refine Con.evP 39 [500000] rfl T_ok mix Tryz.func50 rfl rfl rfl rfl [.tmp 2] rfl ?_
  conv=>whnf
  (iterate 3 ((first|apply rq_s rfl|refine handp_s 70 [some 3,none] ?_);conv=>whnf));(focus (apply callpe_s (f:=70);(· repeat' (first|(refine sub_all ?_;simp[List.length_map];done)|exact sub_map _ _ _ _|apply cons_eq|apply obj_eq|apply agg_eq|apply own_eq|apply ro_eq|apply rp_eq|apply fnc_eq|rfl));refine callp_s (f:=70) rfl (k0 ..) ?_;conv=>whnf));(iterate 8 ((first|apply rq_s rfl|refine fac_s (fun hf=> ?_)|refine br_f (by assumption) ?_|refine handp_s 70 [some 3,none] ?_);conv=>whnf));(focus (apply callpe_s (f:=70);(· repeat' (first|(refine sub_all ?_;simp[List.length_map];done)|exact sub_map _ _ _ _|apply cons_eq|apply obj_eq|apply agg_eq|apply own_eq|apply ro_eq|apply rp_eq|apply fnc_eq|rfl));refine callp_s (f:=70) rfl (k1 ..) ?_;conv=>whnf));iterate 6 (first|(apply rq_s rfl;conv=>whnf)|(apply rows_s rfl;conv=>whnf)|(refine fac_s (fun hf=> ?_);conv=>whnf)|(refine aftp_s (by rfl) ?_;conv=>whnf)|(exact True.intro))
end Y2

/- The reference's source of data: cells; contracts. -/
open Go Go.Abs Go.Proofs V1 H1 Y1 Y2
namespace Y3
theorem sle{a m L L':Int}(h:SrcOk a m L)(hl:L≤L'):SrcOk a m L':=⟨h.1,by have:=h.2;omega,h.3,h.4⟩
theorem nx(d:List UInt8){a m L:Int}(n:Int)(h:SrcOk a m L)(hl:L≤10000000000): ∃v a' m',Con Tryz.prog 70 [.obj (srcC d a m),.int .i64 n] [.obj (srcC d a' m'),.undef] (.int .i64 v)∧0≤v∧(v<n∨v=0)∧SrcOk a' m' (L+3):=by
 obtain⟨h1,h2,h3,h4⟩:=h
 have r:=nextF_r (d:=d) (n:=n) h1 h3 h4
 exact⟨_,_,_,c70 d a m n h1 (by omega) h3 h4,r.1.1,r.1.2,by omega,by omega,r.2.2.1,r.2.2.2⟩
theorem ce(d:List UInt8){a m L:Int}(h:SrcOk a m L)(hl:L≤10000000000): ∃v a' m',Con Tryz.prog 50 [.obj (srcC d a m)] [.obj (srcC d a' m')] (.int .i64 v)∧cell v=true∧SrcOk a' m' (L+20):=by
 obtain⟨v,a',m',h1,h2,h3,h4⟩:=cell_ex d a m (sle h hl)
 exact⟨v,a',m',h1,h2,sle h4 (by have:=h.2;omega)⟩
abbrev srcO(d:List UInt8)(a m:Int):AV:=.obj (srcC d a m)
theorem src_ok(d:List UInt8):SrcOk 0 ((d.length:Int).tmod 1000) 0:=by
 have h1:0≤(d.length:Int).tmod 1000:=Int.tmod_nonneg _ (by omega)
 have h2:(d.length:Int).tmod 1000<1000:=Int.tmod_lt_of_pos _ (by omega)
 exact⟨by omega,by omega,h1,by omega⟩
structure Cs where
 a:Int
 m:Int
 xs:List Int
def CeC(d:List UInt8)(a m a' m' v:Int):Prop:=Con Tryz.prog 50 [srcO d a m] [srcO d a' m'] (.int .i64 v)
def CsC(d:List UInt8)(n:Int)(a m a' m':Int)(xs:List Int):Prop:=Con Tryz.prog 69 [srcO d a m,.int .i64 n] [srcO d a' m',.undef] (ownI xs)
def RC(d:List UInt8)(s s':Cs):Prop:= ∃v,CeC d s.a s.m s'.a s'.m v∧s'.xs=s.xs++[v]
def RunC(d:List UInt8)(r:Nat)(s:Cs)(L:Int):Prop:= ∃f:Nat→Cs,f 0=s∧(∀i,i<r→RC d (f i) (f (i+1)))∧(∀i,i≤r→(f i).xs.length=s.xs.length+i)∧cellsOK (f r).xs=true∧SrcOk (f r).a (f r).m (L+20*r)
theorem runC(d:List UInt8): ∀(r:Nat)(s:Cs){L:Int},SrcOk s.a s.m L→L+20*r≤10000000000→cellsOK s.xs=true→RunC d r s L
 |0,s,L,h,hl,hx=>⟨fun _=>s,rfl,fun i hi=>by omega,fun i hi=>(by obtain rfl:i=0:=(by omega);rfl),hx,sle h (by omega)⟩
 |r+1,s,L,h,hl,hx=>by
  obtain⟨v,a1,m1,k1,p1,h1⟩:=ce d h (by omega)
  obtain⟨f,q0,q1,q2,q3,q4⟩:=runC d r ⟨a1,m1,s.xs++[v]⟩ h1 (by omega) (cells_app hx (cells_one p1))
  refine⟨fun i=>match i with|0=>s|i+1=>f i,rfl,fun i hi=> ?_,fun i hi=> ?_,q3,sle q4 (by omega)⟩
  ·match i with
   |0=>simp only;rw[q0];exact⟨v,k1,rfl⟩
   |i+1=>exact q1 i (by omega)
  ·match i with
   |0=>rfl
   |i+1=>have:=q2 i (by omega);simp only[this,List.length_append,List.length_cons,List.length_nil];omega
theorem cells_walk(d:List UInt8)(a m:Int)(n:Nat)(f:Nat→Cs)(hn:n≤1000)(f0:f 0=⟨a,m,[]⟩)(hr: ∀i,i<n→RC d (f i) (f (i+1)))(hl: ∀i,i≤n→(f i).xs.length=i):CsC d n a m (f n).a (f n).m (f n).xs:=by
 refine Con.evP 19 [500000] rfl T_ok mix Tryz.func69 rfl rfl rfl rfl [.tmp 4] rfl ?_
 conv=>whnf
 (apply rq_s rfl;conv=>whnf)
 rotate_left
 refine LoopG.bearT 5 101 zI rfl rfl ?_
 refine LoopG.auto (α:=Nat) T_ok mix [0,1,5,6] (fun j=>[(0,.ptr 500000 0 0),(1,.int .i64 n),(5,.ref 2 0 (f j).xs.length),(6,.int .i64 j)]) (fun j=>[(500000,.live ⟨false,0,[.undef,.undef,.undef],[srcC d (f j).a (f j).m]⟩),(2,.live ⟨true,0,zI,(f j).xs.map intR⟩)]) (fun j=>j≤n) (fun j=>n-j) ?_ ?_
 ·conv=>whnf
  (apply ChkS.mk (by kernel_rfl);conv=>whnf)
  rotate_left
  exact head_s 0 (by omega) (by rw[f0];rfl) (by rw[f0];rfl)
 ·intro j hj _ _
  have hlj:=hl j hj
  by_cases hjn:j=n
  ·subst hjn
   have hb0:decide ((j:Int)<j)=false:=by simp
   conv=>whnf
   (iterate 3 (first|(refine rq_s (by solve|simp only[lnm]|fail) ?_;conv=>whnf)|(apply rq_s rfl;conv=>whnf)|(focus (apply br_f (by solve|simp|fail);conv=>whnf))));(refine rows_s (by((refine sub_all ?_;simp[List.length_map];done))) ?_;conv=>whnf);iterate 4 (first|(apply rows_s rfl;conv=>whnf)|(refine aftp_s (by rfl) ?_;conv=>whnf)|(exact True.intro))
  ·have hb0:decide ((j:Int)<n)=true:=by simp;omega
   obtain⟨v,k1,hv⟩:=hr j (by omega)
   have hi1:IntKind.i64.wrap ((j:Int)+1)=((j+1:Nat):Int):=by rw[wrap64 (by omega) (by omega)];omega
   unfold CeC at k1
   conv=>whnf
   (iterate 3 ((first|apply rq_s rfl|refine br_t (by assumption) ?_|refine handp_s 50 [some 3] ?_);conv=>whnf));(focus (apply callpe_s (f:=50);(· repeat' (first|(refine sub_all ?_;simp[List.length_map];done)|exact sub_map _ _ _ _|apply cons_eq|apply obj_eq|apply agg_eq|apply own_eq|apply ro_eq|apply rp_eq|apply fnc_eq|rfl));refine callp_s (f:=50) rfl (k1 ..) ?_;conv=>whnf));iterate 9 ((first|refine rq_s (by solve|simp only[lnm]|fail) ?_|apply rq_s rfl|refine rq_s (by(((refine and_s rfl ?_;simp[maxBytes,subA];omega)))) ?_|refine appf_s intR (y:=v) rfl ?_|refine fac_s (fun hf=> ?_)|refine ChkS.mk (by kernel_rfl) ?_);conv=>whnf)
   rotate_left
   exact head_s (j+1) ⟨by omega,by omega⟩ (by simp only[hv,hi1]) (by simp only[hv];rfl)
theorem cs(d:List UInt8){a m L:Int}(n:Int)(hn:0≤n∧n≤100)(h:SrcOk a m L)(hl:L≤9000000000): ∃xs a' m',CsC d n a m a' m' xs∧(xs.length:Int)=n∧cellsOK xs=true∧SrcOk a' m' (L+2000):=by
 obtain⟨f,q0,q1,q2,q3,q4⟩:=runC d n.toNat ⟨a,m,[]⟩ h (by omega) rfl
 have hc:=cells_walk d a m n.toNat f (by omega) q0 q1 (fun i hi=>by have:=q2 i hi;simpa using this)
 rw[show((n.toNat:Nat):Int)=n by omega]at hc
 refine⟨_,_,_,hc,?_,q3,sle q4 (by omega)⟩
 have:=q2 n.toNat (Nat.le_refl _)
 simp only[List.length_nil]at this
 omega
theorem cellDrawn(d:List UInt8): ∃n,Con Tryz.prog 26 [roU d] (undefs [roU d]) (.int .i64 n)∧cell n=true:=by
 obtain⟨n,a1,m1,k1,o1,l1⟩:=ce d (src_ok d) (by omega)
 refine⟨n,?_,o1⟩
 refine Con.ev 6 T_ok mix Tryz.func26 rfl rfl rfl rfl [.tmp 2] rfl ?_
 conv=>whnf
 (iterate 6 ((first|apply rq_s rfl|apply rows_s rfl|refine handp_s 50 [some 3] ?_|apply lend_s|refine call_s (c43 ..) ?_);conv=>whnf));(focus (apply callpe_s (f:=50);(· repeat' (first|(refine sub_all ?_;simp[List.length_map];done)|exact sub_map _ _ _ _|apply cons_eq|apply obj_eq|apply agg_eq|apply own_eq|apply ro_eq|apply rp_eq|apply fnc_eq|rfl));refine callp_s (f:=50) rfl (k1 ..) ?_;conv=>whnf));(refine fac_s (fun hf=> ?_);conv=>whnf);(apply rq_s rfl;conv=>whnf);(refine sh_s ?_;(rfl))
end Y3

/- The reference's source of data: data; contracts. -/
open Go Go.Abs Go.Proofs V1 H1 Y1 Y2 Y3
namespace Y4
theorem c49:Con Tryz.prog 49 [] (undefs []) (.agg [.emp,.emp,ownI (List.replicate 32 0),.int .i64 0,.int .i64 10,.str []]):=by
 refine Con.ev 5 T_ok mix Tryz.func49 rfl rfl rfl rfl [.cell 0 26] rfl ?_
 conv=>whnf
 (iterate 14 ((first|refine rq_s (by solve|simp only[lnm]|fail) ?_|apply rq_s rfl);conv=>whnf));(refine rows_s (by((refine sub_all ?_;simp[List.length_map];done))) ?_;conv=>whnf);(refine sh_s ?_;(rfl))
structure Ds where
 a:Int
 m:Int
 ce:List Int
structure Dr where
 v0:Int
 v1:Int
 v2:Int
 v3:Int
 v4:Int
 u0:Int
 u1:Int
 u2:Int
 u3:Int
 w0:Int
 w1:Int
 z:Int
end Y4

/- Lists compared, numbers out of bytes, data compared: contracts. -/
open Go Go.Abs Go.Proofs V1 H1 P1 Y1 Y2 Y3 Y4
namespace Y5
theorem same(xs:List Int):Con Tryz.prog 24 [roI xs,roI xs] (undefs [roI xs,roI xs]) (.bool true):=by
 have hne: ∀n:Int,(!(n==n))=false:=fun n=>by simp
 refine Con.evF 26 T_ok mix Tryz.func24 rfl rfl rfl rfl [.tmp 4] rfl fun⟨hx,_⟩=> ?_
 have hx:=facts_len hx
 conv=>whnf
 (focus (apply br_f (by(simp;done));conv=>whnf))
 rotate_left
 refine LoopG.rounds (α:=Nat) T_ok mix [0,1,5] [] (fun i=>[(0,roI xs),(1,roI xs),(5,.int .i64 i)]) (fun _=>[]) (fun i=>i≤xs.length) (fun i=>xs.length-i) ?_ ?_
 ·conv=>whnf
  exact head_s 0 (by simp) (by simp[roI]) rfl
 ·intro i h1 _ _
  conv=>whnf
  (iterate 7 (first|(apply rq_s rfl;conv=>whnf)|(refine rq_s (by refine and_s rfl ?_;simp only[lnm];omega) ?_;conv=>whnf)|(refine ChkS.mk (by kernel_rfl) ?_;conv=>whnf)|(refine br_s ?_ ?_<;>intro hb<;>(try simp only[cln]at hb)<;>conv=>whnf)));(refine row_s (by((try simp only[Int.toNat_natCast]);exact row_map intR _ _ _ 0 (by first|omega|(simp;omega)))) ?_;conv=>whnf);(iterate 6 ((first|apply rq_s rfl|refine rq_s (by refine and_s rfl ?_;simp only[lnm];omega) ?_|refine ChkS.mk (by kernel_rfl) ?_);conv=>whnf));(refine row_s (by((try simp only[Int.toNat_natCast]);exact row_map intR _ _ _ 0 (by first|omega|(simp;omega)))) ?_;conv=>whnf);iterate 3 (first|(refine ChkS.mk (by kernel_rfl) ?_;conv=>whnf)|(focus (apply br_f (by solve|simp|fail);conv=>whnf)))
  rotate_left
  (apply rq_s rfl;conv=>whnf);(refine sh_s ?_;(rfl))
  ·exact head_s (i+1) ⟨by omega,by omega⟩ (by rw[wrap64 (by omega) (by omega)];rfl) rfl
theorem eqI(xs:List Int):Con Tryz.prog 72 [roI xs,roI xs] (undefs [roI xs,roI xs]) (.bool true):=by
 refine Con.evF 26 T_ok mix Tryz.func72 rfl rfl rfl rfl [.tmp 4] rfl fun⟨hx,_⟩=> ?_
 have hx:=facts_len hx
 conv=>whnf
 (focus (apply br_f (by(simp;done));conv=>whnf))
 rotate_left
 refine LoopG.rounds (α:=Nat) T_ok mix [0,1,12,13] [] (fun i=>[(0,roI xs),(1,roI xs),(12,.int .i64 xs.length),(13,.int .i64 i)]) (fun _=>[]) (fun i=>i≤xs.length) (fun i=>xs.length-i) ?_ ?_
 ·conv=>whnf
  exact head_s 0 (by simp) (by simp[roI]) rfl
 ·intro i h1 _ _
  conv=>whnf
  (iterate 7 (first|(apply rq_s rfl;conv=>whnf)|(refine rq_s (by refine and_s rfl ?_;simp only[lnm];omega) ?_;conv=>whnf)|(refine ChkS.mk (by kernel_rfl) ?_;conv=>whnf)|(refine br_s ?_ ?_<;>intro hb<;>(try simp only[cln]at hb)<;>conv=>whnf)));(refine row_s (by((try simp only[Int.toNat_natCast]);exact row_map intR _ _ _ 0 (by first|omega|(simp;omega)))) ?_;conv=>whnf);(iterate 6 ((first|apply rq_s rfl|refine rq_s (by refine and_s rfl ?_;simp only[lnm];omega) ?_|refine ChkS.mk (by kernel_rfl) ?_);conv=>whnf));(refine row_s (by((try simp only[Int.toNat_natCast]);exact row_map intR _ _ _ 0 (by first|omega|(simp;omega)))) ?_;conv=>whnf);iterate 3 (first|(refine ChkS.mk (by kernel_rfl) ?_;conv=>whnf)|(focus (apply br_f (by solve|simp|fail);conv=>whnf)))
  rotate_left
  (apply rq_s rfl;conv=>whnf);(refine sh_s ?_;(rfl))
  ·exact head_s (i+1) ⟨by omega,by omega⟩ (by rw[wrap64 (by omega) (by omega)];rfl) rfl
theorem sameD(d:Dat)(hd:DataOk d):Con Tryz.prog 22 [datV d,datV d] (undefs [datV d,datV d]) (.bool true):=by
 have k1:=c23 d
 rw[(dataOK_iff d).2 hd]at k1
 have k2:Con Tryz.prog 46 [datV d,datV d] (undefs [datV d,datV d]) (.bool true):=by
  refine Con.ev 45 T_ok mix Tryz.func46 rfl rfl rfl rfl [.tmp 4] rfl ?_
  conv=>whnf
  (iterate 58 (first|(apply rq_s rfl;conv=>whnf)|(apply rows_s rfl;conv=>whnf)|(apply br_t rfl;conv=>whnf)|(focus (apply br_t (by solve|simp|fail);conv=>whnf))|(apply lend_s;conv=>whnf)|(refine call_s (eqI ..) ?_;conv=>whnf)));(refine sh_s ?_;((simp)))
 refine Con.ev 16 T_ok mix Tryz.func22 rfl rfl rfl rfl [.tmp 4] rfl ?_
 conv=>whnf
 (iterate 50 ((first|apply rq_s rfl|apply rows_s rfl|apply br_t rfl|apply lend_s|refine call_s (k1 ..) ?_|refine call_s (k2 ..) ?_);conv=>whnf));(refine sh_s ?_;(rfl))
theorem c25:Con Tryz.prog 25 [] (undefs []) (.agg [.emp,.emp,ownI (List.replicate 32 0),.int .i64 0,.int .i64 10,.str []]):=by
 refine Con.ev 2 T_ok mix Tryz.func25 rfl rfl rfl rfl [.cell 0 26] rfl ?_
 conv=>whnf
 (iterate 14 ((first|refine rq_s (by solve|simp only[lnm]|fail) ?_|apply rq_s rfl|refine fac_s (fun hf=> ?_)|apply lend_s|refine call_s (c49 ..) ?_);conv=>whnf));(refine rows_s (by((refine sub_all ?_;simp[List.length_map];done))) ?_;conv=>whnf);(refine sh_s ?_;(rfl))
theorem at_ex(d:List UInt8)(i:Nat)(n:Int)(hi:i≤1000)(hn:1≤n)(hn2:n≤1000)(hd:d.length≤1048576): ∃p:Int,Con Tryz.prog 20 [roU d,.int .i64 i,.int .i64 n] (undefs [roU d,.int .i64 i,.int .i64 n]) (.int .i64 p)∧0≤p∧p<n:=by
 by_cases h1:n=1
 ·subst h1
  refine⟨0,?_,by omega,by omega⟩
  refine Con.ev 42 T_ok mix Tryz.func20 rfl rfl rfl rfl [.tmp 6] rfl ?_
  conv=>whnf
  (apply br_t rfl;conv=>whnf);(apply rq_s rfl;conv=>whnf);(refine sh_s ?_;(rfl))
 have hb1:decide (n≤1)=false:=by simp;omega
 by_cases h0:d=[]
 ·subst h0
  refine⟨(IntKind.i64.wrap ((i:Int)*7)).tmod n,?_,?_,?_⟩
  ·refine Con.ev 42 T_ok mix Tryz.func20 rfl rfl rfl rfl [.tmp 6] rfl ?_
   conv=>whnf
   (iterate 4 ((first|apply rq_s rfl|refine rq_s (by((simp;omega))) ?_|apply br_t rfl|refine br_f (by assumption) ?_);conv=>whnf));(refine sh_s ?_;(rfl))
  ·rw[wrap64 (by omega) (by omega)];exact Int.tmod_nonneg _ (by omega)
  ·exact Int.tmod_lt_of_pos _ (by omega)
 have hp:0<d.length:=List.length_pos_iff.2 h0
 have hb2:(((d.map byteR).length:Int)==0)=false:=by simp;omega
 have j1:0≤Int.tmod (i:Int) ((d.map byteR).length:Int):=Int.tmod_nonneg _ (by omega)
 have i1:(Int.tmod (i:Int) ((d.map byteR).length:Int)).toNat<(d.map byteR).length:=by
  have:=Int.tmod_lt_of_pos (i:Int) (b:=((d.map byteR).length:Int)) (by simp;omega)
  simp only[List.length_map]at this j1⊢
  omega
 have e1:IntKind.i64.wrap ((i:Int)+1)=(i:Int)+1:=wrap64 (by omega) (by omega)
 have i2:0≤Int.tmod (IntKind.i64.wrap ((i:Int)+1)) ((d.map byteR).length:Int):=Int.tmod_nonneg _ (by omega)
 have i3:(Int.tmod (IntKind.i64.wrap ((i:Int)+1)) ((d.map byteR).length:Int)).toNat<(d.map byteR).length:=by
  have:=Int.tmod_lt_of_pos (IntKind.i64.wrap ((i:Int)+1)) (b:=((d.map byteR).length:Int)) (by simp;omega)
  simp only[List.length_map]at this i2⊢
  omega
 have i4: ∀k,k<(d.map byteR).length→k<d.length:=fun k h=>by simpa using h
 have r1:(decide (0≤Int.tmod (i:Int) ((d.map byteR).length:Int))&&decide ((Int.tmod (i:Int) ((d.map byteR).length:Int)).toNat<(d.map byteR).length))=true:=and_s (decide_eq_true j1) (decide_eq_true i1)
 have r2:(decide (0≤Int.tmod (IntKind.i64.wrap ((i:Int)+1)) ((d.map byteR).length:Int))&&decide ((Int.tmod (IntKind.i64.wrap ((i:Int)+1)) ((d.map byteR).length:Int)).toNat<(d.map byteR).length))=true:=and_s (decide_eq_true i2) (decide_eq_true i3)
 refine⟨(IntKind.i64.wrap (IntKind.i64.wrap (IntKind.i64.wrap (IntKind.i64.wrap ((d.getD (Int.tmod (i:Int) ((d.map byteR).length:Int)).toNat 0).toNat:Int)*31)+
  IntKind.i64.wrap ((d.getD (Int.tmod (IntKind.i64.wrap ((i:Int)+1)) ((d.map byteR).length:Int)).toNat 0).toNat:Int))+IntKind.i64.wrap (Int.tdiv (i:Int) ((d.map byteR).length:Int)))).tmod n,?_,?_⟩
 ·refine Con.ev 42 T_ok mix Tryz.func20 rfl rfl rfl rfl [.tmp 6] rfl ?_
  conv=>whnf
  (iterate 41 ((first|apply rq_s rfl|refine rq_s (by((simp;omega))) ?_|refine rq_s (by((first|(exact decide_eq_true j1)|(exact decide_eq_true i1)|(exact decide_eq_true i2)|(exact decide_eq_true i3)|(exact r1)|(exact r2)|(simp;omega)))) ?_|refine row_s (by(exact row_map byteR d _ _ 0 (i4 _ i1))) ?_|refine row_s (by(exact row_map byteR d _ _ 0 (i4 _ i3))) ?_|refine ChkS.mk (by kernel_rfl) ?_|refine br_f (by assumption) ?_);conv=>whnf));(refine sh_s ?_;(rfl))
  all_goals skip
 ·have b1:=(d.getD (Int.tmod (i:Int) ((d.map byteR).length:Int)).toNat 0).toNat_lt
  have b2:=(d.getD (Int.tmod (IntKind.i64.wrap ((i:Int)+1)) ((d.map byteR).length:Int)).toNat 0).toNat_lt
  have q1:0≤Int.tdiv (i:Int) ((d.map byteR).length:Int):=Int.tdiv_nonneg (by omega) (by omega)
  have q2:Int.tdiv (i:Int) ((d.map byteR).length:Int)≤i:=by
   rw[Int.tdiv_eq_ediv_of_nonneg (by omega)]
   exact Int.ediv_le_self _ (by omega)
  generalize d.getD (Int.tmod (i:Int) ((d.map byteR).length:Int)).toNat 0=c0 at*
  generalize d.getD (Int.tmod (IntKind.i64.wrap ((i:Int)+1)) ((d.map byteR).length:Int)).toNat 0=c1 at*
  generalize Int.tdiv (i:Int) ((d.map byteR).length:Int)=q at*
  have e: ∀c:UInt8,c.toNat<256→IntKind.i64.wrap (c.toNat:Int)=c.toNat:=fun c h=>wrap64 (by omega) (by omega)
  rw[e c0 (by omega),e c1 (by omega),wrap64 (n:=q) (by omega) (by omega),wrap64 (n:=(c0.toNat:Int)*31) (by omega) (by omega),wrap64 (n:=(c0.toNat:Int)*31+c1.toNat) (by omega) (by omega),wrap64 (by omega) (by omega)]
  exact⟨Int.tmod_nonneg _ (by omega),Int.tmod_lt_of_pos _ (by omega)⟩
theorem byte_of{l:List AV}(h:OfT T 9 5 l)(hf: ∀x∈l,x.facts 1): ∃c:UInt8,l=byteR c:=by
 obtain⟨n,rfl⟩:=h
 have h1:fitsK .u8 n=true:=hf _ (List.mem_singleton.2 rfl)
 have h2:0≤n∧n<256:=by
  simp[fitsK,IntKind.signed,IntKind.bits]at h1
  omega
 refine⟨UInt8.ofNat n.toNat,?_⟩
 have e:(UInt8.ofNat n.toNat).toNat=n.toNat:=by
  rw[UInt8.toNat_ofNat']
  omega
 show[AV.int .u8 n]=[.int .u8 ((UInt8.ofNat n.toNat).toNat:Int)]
 rw[e]
 congr 2
 omega
theorem bytes_of{w:World}{R O:Cells}{loc:Locs}{v:Value}{x:AV}(h:OfT T 10 39 [x])(ha:AR w R loc x v O): ∃d:List UInt8,x=roU d:=by
 obtain⟨rows,h1,h2⟩:=h
 injection h1 with h1
 have hf:=ha.facts 2
 rw[h1]at hf
 have hf2: ∀row∈rows,∀x∈row,x.facts 1:=hf.2
 have hm: ∃xs:List UInt8,rows=xs.map byteR:=by
  clear h1 hf
  induction rows with
  |nil=>exact⟨[],rfl⟩
  |cons r l ih=>
   obtain⟨c,rfl⟩:=byte_of (h2 r (by simp)) (hf2 r (by simp))
   obtain⟨xs,rfl⟩:=ih (fun row hr=>h2 row (by simp[hr])) (fun row hr=>hf2 row (by simp[hr]))
   exact⟨c::xs,rfl⟩
 obtain⟨xs,rfl⟩:=hm
 exact⟨xs,h1⟩
end Y5
