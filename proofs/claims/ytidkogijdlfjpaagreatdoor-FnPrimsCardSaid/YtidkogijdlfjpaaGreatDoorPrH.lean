import Derived.Test.YtidkogijdlfjpaaGreatDoorPrG
import Derived.Test.YtidkogijdlfjpaaGreatDoorPrF
import Derived.Test.YtidkogijdlfjpaaGreatDoorRows
import Derived.Test.YtidkogijdlfjpaaGreatDoorTie
import Derived.Test.YtidkogijdlfjpaaGreatDoorCards
import Derived.SevenTiedAt
import Derived.LaidMore
import Derived.LaidLaws
import Derived.Lay
import Derived.Test.YtidkogijdlfjpaaGreatDoorAbs8
/- Lists compared, numbers out of bytes, data compared: contracts. -/
set_option linter.unusedVariables false
set_option linter.unusedSimpArgs false
set_option maxRecDepth 100000
open Go Go.Abs Go.Proofs V1 H1 P1 Y1 Y2 Y3 Y4
namespace Y5
theorem same(xs:List Int):Con Tryz.prog 24 [roI xs,roI xs] (undefs [roI xs,roI xs]) (.bool true):=by
 have hne: ∀n:Int,(!(n==n))=false:=fun n=>by simp
 refine Con.evF 26 T_ok mix Tryz.func24 rfl rfl rfl rfl [.tmp 4] rfl fun⟨hx,_⟩=> ?_
 have hx:=facts_len hx
 conv=>whnf
 (focus (apply br_f (by(simp;done));conv=>whnf))
 rotate_left
 refine LoopG.rounds (α:=Nat) T_ok mix [0,1,5] [] (fun i=>[(0,roI xs),(1,roI xs),(5,.int .i64 i)]) (fun _=>[]) (fun i=>i≤xs.length) (fun i=>xs.length-i) ?_ ?_
 ·conv=>whnf
  exact head_s 0 (by simp) (by simp[roI]) rfl
 ·intro i h1 _ _
  conv=>whnf
  (iterate 7 (first|(apply rq_s rfl;conv=>whnf)|(refine rq_s (by refine and_s rfl ?_;simp only[lnm];omega) ?_;conv=>whnf)|(refine ChkS.mk (by kernel_rfl) ?_;conv=>whnf)|(refine br_s ?_ ?_<;>intro hb<;>(try simp only[cln]at hb)<;>conv=>whnf)));(refine row_s (by((try simp only[Int.toNat_natCast]);exact row_map intR _ _ _ 0 (by first|omega|(simp;omega)))) ?_;conv=>whnf);(iterate 6 ((first|apply rq_s rfl|refine rq_s (by refine and_s rfl ?_;simp only[lnm];omega) ?_|refine ChkS.mk (by kernel_rfl) ?_);conv=>whnf));(refine row_s (by((try simp only[Int.toNat_natCast]);exact row_map intR _ _ _ 0 (by first|omega|(simp;omega)))) ?_;conv=>whnf);iterate 3 (first|(refine ChkS.mk (by kernel_rfl) ?_;conv=>whnf)|(focus (apply br_f (by solve|simp|fail);conv=>whnf)))
  rotate_left
  (apply rq_s rfl;conv=>whnf);(refine sh_s ?_;(rfl))
  ·exact head_s (i+1) ⟨by omega,by omega⟩ (by rw[wrap64 (by omega) (by omega)];rfl) rfl
theorem eqI(xs:List Int):Con Tryz.prog 72 [roI xs,roI xs] (undefs [roI xs,roI xs]) (.bool true):=by
 refine Con.evF 26 T_ok mix Tryz.func72 rfl rfl rfl rfl [.tmp 4] rfl fun⟨hx,_⟩=> ?_
 have hx:=facts_len hx
 conv=>whnf
 (focus (apply br_f (by(simp;done));conv=>whnf))
 rotate_left
 refine LoopG.rounds (α:=Nat) T_ok mix [0,1,12,13] [] (fun i=>[(0,roI xs),(1,roI xs),(12,.int .i64 xs.length),(13,.int .i64 i)]) (fun _=>[]) (fun i=>i≤xs.length) (fun i=>xs.length-i) ?_ ?_
 ·conv=>whnf
  exact head_s 0 (by simp) (by simp[roI]) rfl
 ·intro i h1 _ _
  conv=>whnf
  (iterate 7 (first|(apply rq_s rfl;conv=>whnf)|(refine rq_s (by refine and_s rfl ?_;simp only[lnm];omega) ?_;conv=>whnf)|(refine ChkS.mk (by kernel_rfl) ?_;conv=>whnf)|(refine br_s ?_ ?_<;>intro hb<;>(try simp only[cln]at hb)<;>conv=>whnf)));(refine row_s (by((try simp only[Int.toNat_natCast]);exact row_map intR _ _ _ 0 (by first|omega|(simp;omega)))) ?_;conv=>whnf);(iterate 6 ((first|apply rq_s rfl|refine rq_s (by refine and_s rfl ?_;simp only[lnm];omega) ?_|refine ChkS.mk (by kernel_rfl) ?_);conv=>whnf));(refine row_s (by((try simp only[Int.toNat_natCast]);exact row_map intR _ _ _ 0 (by first|omega|(simp;omega)))) ?_;conv=>whnf);iterate 3 (first|(refine ChkS.mk (by kernel_rfl) ?_;conv=>whnf)|(focus (apply br_f (by solve|simp|fail);conv=>whnf)))
  rotate_left
  (apply rq_s rfl;conv=>whnf);(refine sh_s ?_;(rfl))
  ·exact head_s (i+1) ⟨by omega,by omega⟩ (by rw[wrap64 (by omega) (by omega)];rfl) rfl
theorem sameD(d:Dat)(hd:DataOk d):Con Tryz.prog 22 [datV d,datV d] (undefs [datV d,datV d]) (.bool true):=by
 have k1:=c23 d
 rw[(dataOK_iff d).2 hd]at k1
 have k2:Con Tryz.prog 46 [datV d,datV d] (undefs [datV d,datV d]) (.bool true):=by
  refine Con.ev 45 T_ok mix Tryz.func46 rfl rfl rfl rfl [.tmp 4] rfl ?_
  conv=>whnf
  (iterate 58 (first|(apply rq_s rfl;conv=>whnf)|(apply rows_s rfl;conv=>whnf)|(apply br_t rfl;conv=>whnf)|(focus (apply br_t (by solve|simp|fail);conv=>whnf))|(apply lend_s;conv=>whnf)|(refine call_s (eqI ..) ?_;conv=>whnf)));(refine sh_s ?_;((simp)))
 refine Con.ev 16 T_ok mix Tryz.func22 rfl rfl rfl rfl [.tmp 4] rfl ?_
 conv=>whnf
 (iterate 50 ((first|apply rq_s rfl|apply rows_s rfl|apply br_t rfl|apply lend_s|refine call_s (k1 ..) ?_|refine call_s (k2 ..) ?_);conv=>whnf));(refine sh_s ?_;(rfl))
theorem c21(p:Nat)(h:P52 p):Con Tryz.prog 21 [.int .i64 p] (undefs [.int .i64 p]) (.tup [.int .i64 (takesN p),.int .i64 0]):=by
 have g0:(!inR (p:Int) 1 52)=false:=by unfold P52 at h;simp[inR];omega
 refine Con.ev 9 T_ok mix Tryz.func21 rfl rfl rfl rfl [.tmp 2,.tmp 3] rfl ?_
 conv=>whnf
 (iterate 12 ((first|apply rq_s rfl|refine fac_s (fun hf=> ?_)|refine br_f (by assumption) ?_|apply lend_s|refine call_s (c45 p h ..) ?_|refine call_s (c33 ..) ?_);conv=>whnf));(refine sh_s ?_;(rfl))
theorem at_ex(d:List UInt8)(i:Nat)(n:Int)(hi:i≤1000)(hn:1≤n)(hn2:n≤1000)(hd:d.length≤1048576): ∃p:Int,Con Tryz.prog 20 [roU d,.int .i64 i,.int .i64 n] (undefs [roU d,.int .i64 i,.int .i64 n]) (.int .i64 p)∧0≤p∧p<n:=by
 by_cases h1:n=1
 ·subst h1
  refine⟨0,?_,by omega,by omega⟩
  refine Con.ev 42 T_ok mix Tryz.func20 rfl rfl rfl rfl [.tmp 6] rfl ?_
  conv=>whnf
  (apply br_t rfl;conv=>whnf);(apply rq_s rfl;conv=>whnf);(refine sh_s ?_;(rfl))
 have hb1:decide (n≤1)=false:=by simp;omega
 by_cases h0:d=[]
 ·subst h0
  refine⟨(IntKind.i64.wrap ((i:Int)*7)).tmod n,?_,?_,?_⟩
  ·refine Con.ev 42 T_ok mix Tryz.func20 rfl rfl rfl rfl [.tmp 6] rfl ?_
   conv=>whnf
   (iterate 4 ((first|apply rq_s rfl|refine rq_s (by((simp;omega))) ?_|apply br_t rfl|refine br_f (by assumption) ?_);conv=>whnf));(refine sh_s ?_;(rfl))
  ·rw[wrap64 (by omega) (by omega)];exact Int.tmod_nonneg _ (by omega)
  ·exact Int.tmod_lt_of_pos _ (by omega)
 have hp:0<d.length:=List.length_pos_iff.2 h0
 have hb2:(((d.map byteR).length:Int)==0)=false:=by simp;omega
 have j1:0≤Int.tmod (i:Int) ((d.map byteR).length:Int):=Int.tmod_nonneg _ (by omega)
 have i1:(Int.tmod (i:Int) ((d.map byteR).length:Int)).toNat<(d.map byteR).length:=by
  have:=Int.tmod_lt_of_pos (i:Int) (b:=((d.map byteR).length:Int)) (by simp;omega)
  simp only[List.length_map]at this j1⊢
  omega
 have e1:IntKind.i64.wrap ((i:Int)+1)=(i:Int)+1:=wrap64 (by omega) (by omega)
 have i2:0≤Int.tmod (IntKind.i64.wrap ((i:Int)+1)) ((d.map byteR).length:Int):=Int.tmod_nonneg _ (by omega)
 have i3:(Int.tmod (IntKind.i64.wrap ((i:Int)+1)) ((d.map byteR).length:Int)).toNat<(d.map byteR).length:=by
  have:=Int.tmod_lt_of_pos (IntKind.i64.wrap ((i:Int)+1)) (b:=((d.map byteR).length:Int)) (by simp;omega)
  simp only[List.length_map]at this i2⊢
  omega
 have i4: ∀k,k<(d.map byteR).length→k<d.length:=fun k h=>by simpa using h
 have r1:(decide (0≤Int.tmod (i:Int) ((d.map byteR).length:Int))&&decide ((Int.tmod (i:Int) ((d.map byteR).length:Int)).toNat<(d.map byteR).length))=true:=and_s (decide_eq_true j1) (decide_eq_true i1)
 have r2:(decide (0≤Int.tmod (IntKind.i64.wrap ((i:Int)+1)) ((d.map byteR).length:Int))&&decide ((Int.tmod (IntKind.i64.wrap ((i:Int)+1)) ((d.map byteR).length:Int)).toNat<(d.map byteR).length))=true:=and_s (decide_eq_true i2) (decide_eq_true i3)
 refine⟨(IntKind.i64.wrap (IntKind.i64.wrap (IntKind.i64.wrap (IntKind.i64.wrap ((d.getD (Int.tmod (i:Int) ((d.map byteR).length:Int)).toNat 0).toNat:Int)*31)+
  IntKind.i64.wrap ((d.getD (Int.tmod (IntKind.i64.wrap ((i:Int)+1)) ((d.map byteR).length:Int)).toNat 0).toNat:Int))+IntKind.i64.wrap (Int.tdiv (i:Int) ((d.map byteR).length:Int)))).tmod n,?_,?_⟩
 ·refine Con.ev 42 T_ok mix Tryz.func20 rfl rfl rfl rfl [.tmp 6] rfl ?_
  conv=>whnf
  (iterate 41 ((first|apply rq_s rfl|refine rq_s (by((simp;omega))) ?_|refine rq_s (by((first|(exact decide_eq_true j1)|(exact decide_eq_true i1)|(exact decide_eq_true i2)|(exact decide_eq_true i3)|(exact r1)|(exact r2)|(simp;omega)))) ?_|refine row_s (by(exact row_map byteR d _ _ 0 (i4 _ i1))) ?_|refine row_s (by(exact row_map byteR d _ _ 0 (i4 _ i3))) ?_|refine ChkS.mk (by kernel_rfl) ?_|refine br_f (by assumption) ?_);conv=>whnf));(refine sh_s ?_;(rfl))
  all_goals skip
 ·have b1:=(d.getD (Int.tmod (i:Int) ((d.map byteR).length:Int)).toNat 0).toNat_lt
  have b2:=(d.getD (Int.tmod (IntKind.i64.wrap ((i:Int)+1)) ((d.map byteR).length:Int)).toNat 0).toNat_lt
  have q1:0≤Int.tdiv (i:Int) ((d.map byteR).length:Int):=Int.tdiv_nonneg (by omega) (by omega)
  have q2:Int.tdiv (i:Int) ((d.map byteR).length:Int)≤i:=by
   rw[Int.tdiv_eq_ediv_of_nonneg (by omega)]
   exact Int.ediv_le_self _ (by omega)
  generalize d.getD (Int.tmod (i:Int) ((d.map byteR).length:Int)).toNat 0=c0 at*
  generalize d.getD (Int.tmod (IntKind.i64.wrap ((i:Int)+1)) ((d.map byteR).length:Int)).toNat 0=c1 at*
  generalize Int.tdiv (i:Int) ((d.map byteR).length:Int)=q at*
  have e: ∀c:UInt8,c.toNat<256→IntKind.i64.wrap (c.toNat:Int)=c.toNat:=fun c h=>wrap64 (by omega) (by omega)
  rw[e c0 (by omega),e c1 (by omega),wrap64 (n:=q) (by omega) (by omega),wrap64 (n:=(c0.toNat:Int)*31) (by omega) (by omega),wrap64 (n:=(c0.toNat:Int)*31+c1.toNat) (by omega) (by omega),wrap64 (by omega) (by omega)]
  exact⟨Int.tmod_nonneg _ (by omega),Int.tmod_lt_of_pos _ (by omega)⟩
theorem byte_of{l:List AV}(h:OfT T 9 5 l)(hf: ∀x∈l,x.facts 1): ∃c:UInt8,l=byteR c:=by
 obtain⟨n,rfl⟩:=h
 have h1:fitsK .u8 n=true:=hf _ (List.mem_singleton.2 rfl)
 have h2:0≤n∧n<256:=by
  simp[fitsK,IntKind.signed,IntKind.bits]at h1
  omega
 refine⟨UInt8.ofNat n.toNat,?_⟩
 have e:(UInt8.ofNat n.toNat).toNat=n.toNat:=by
  rw[UInt8.toNat_ofNat']
  omega
 show[AV.int .u8 n]=[.int .u8 ((UInt8.ofNat n.toNat).toNat:Int)]
 rw[e]
 congr 2
 omega
theorem bytes_of{w:World}{R O:Cells}{loc:Locs}{v:Value}{x:AV}(h:OfT T 10 39 [x])(ha:AR w R loc x v O): ∃d:List UInt8,x=roU d:=by
 obtain⟨rows,h1,h2⟩:=h
 injection h1 with h1
 have hf:=ha.facts 2
 rw[h1]at hf
 have hf2: ∀row∈rows,∀x∈row,x.facts 1:=hf.2
 have hm: ∃xs:List UInt8,rows=xs.map byteR:=by
  clear h1 hf
  induction rows with
  |nil=>exact⟨[],rfl⟩
  |cons r l ih=>
   obtain⟨c,rfl⟩:=byte_of (h2 r (by simp)) (hf2 r (by simp))
   obtain⟨xs,rfl⟩:=ih (fun row hr=>h2 row (by simp[hr])) (fun row hr=>hf2 row (by simp[hr]))
   exact⟨c::xs,rfl⟩
 obtain⟨xs,rfl⟩:=hm
 exact⟨xs,h1⟩
end Y5

/- FnPrims: the law. -/
open Go Go.Abs Go.Proofs V1 H1 P1 P5 P9 P10 P12 P20 P21 Y1 Y2 Y3 Y4 Y5
namespace Y6
theorem putR_st(d:Dat)(r l:List Int): ∃m,(putR d r l).1.st=r++m:=by
 unfold putR
 by_cases h0:32<r.length+l.length
 ·rw[if_pos h0];exact⟨[],(List.append_nil r).symm⟩
 ·rw[if_neg h0];exact⟨l,rfl⟩
theorem allot_st(d:Dat)(n:Int):(allotF d n).1.st=d.st:=by unfold allotF;split<;>rfl
theorem store_st(d:Dat)(a n:Int):(storeF d a n).1.st=d.st:=by unfold storeF;split<;>rfl
theorem say_st(d:Dat)(t:List UInt8):(sayF d t).1.st=d.st:=by unfold sayF;split<;>rfl
theorem primR_st{txt:Int→Int→List UInt8}(p:Nat)(d:Dat)(r:List Int)(a b c:Int): ∃m,(primR txt p d r a b c).1.st=r++m:=by
 have hw: ∃m,r=r++m:=⟨[],(List.append_nil r).symm⟩
 unfold primR
 split
 ·exact putR_st ..
 ·exact hw
 ·exact putR_st ..
 ·exact putR_st ..
 ·exact putR_st ..
 ·exact putR_st ..
 ·exact putR_st ..
 ·split<;>exact putR_st ..
 ·exact putR_st ..
 ·exact hw
 ·exact putR_st ..
 ·split<;>exact hw
 ·exact putR_st ..
 ·exact putR_st ..
 ·split
  ·exact hw
  ·exact putR_st ..
 ·rw[store_st];exact hw
 ·split<;>exact hw
 ·exact putR_st ..
 ·rw[allot_st];exact hw
 ·have h4:=allot_st {d with st:=r} 4
  generalize allotF {d with st:=r} 4=x at h4
  obtain⟨x,th⟩:=x
  show ∃m,(if th≠0 then(x,th)else storeF x (4096+4*d.he) c).1.st=r++m
  split
  ·rw[h4];exact hw
  ·rw[store_st,h4];exact hw
 ·rw[say_st];exact hw
 ·rw[say_st];exact hw
 ·rw[say_st];exact hw
 ·rw[say_st];exact hw
 ·exact hw
 ·exact hw
 ·exact putR_st ..
 ·exact hw
 ·split
  ·split
   ·exact hw
   ·exact putR_st ..
  ·exact putR_st ..
theorem prim_low{txt:Int→Int→List UInt8}{p:Nat}{fl:Int}{d:Dat}(h:(primF txt p fl d).2=0):takesN p≤d.st.length∧ ∃m,(primF txt p fl d).1.st=d.st.take (d.st.length-takesN p)++m:=by
 unfold primF at h⊢
 by_cases h0:(primI txt p fl d).2=0
 ·rw[if_pos h0]at h⊢
  unfold primI at h⊢
  by_cases h1:d.st.length<takesN p
  ·rw[if_pos h1]at h;cases h
  ·rw[if_neg h1]at h⊢
   by_cases h2:(d.bk.length:Int)-fl<backN p
   ·rw[if_pos h2]at h;cases h
   ·rw[if_neg h2]
    exact⟨by omega,primR_st ..⟩
 ·rw[if_neg h0]at h;exact absurd h h0
theorem prim_th{txt:Int→Int→List UInt8}{p:Nat}{fl:Int}{d:Dat}(h:(primF txt p fl d).2≠0):(primF txt p fl d).1=d:=by
 unfold primF at h⊢
 by_cases h0:(primI txt p fl d).2=0
 ·rw[if_pos h0]at h;exact absurd h0 h
 ·rw[if_neg h0]
theorem dat_ov(d:Dat):Sh (datO d) (datV d):=Sh.agg ⟨Sh.own_ro (by omega) _ _,Sh.own_ro (by omega) _ _,Sh.own_ro (by omega) _ _,Sh.refl _,Sh.refl _,Sh.refl _,trivial⟩
def avV(x:Dat × Int):AV:=.tup [datV x.1,.int .i64 x.2,.int .i64 0]
theorem ap_go{d:Dat}{p:Nat}(hp:P52 p)(h:DataOk d):applyF d p 0=((primF TX p 0 d).1,(primF TX p 0 d).2,0):=by
 have h2:inR (p:Int) 1 52=true:=by unfold P52 at hp;simp[inR];omega
 have h3:inR 0 0 d.bk.length=true:=by simp[inR]
 rw[applyF,if_neg (by simp[(dataOK_iff d).2 h]),if_neg (by simp[h2]),if_neg (by simp[h3])]
 rfl
theorem apI{d:Dat}{p:Nat}(hp:P52 p)(h:DataOk d):Con Tryz.prog 10 [datV d,.int .i64 p,.int .i64 0] (undefs [datV d,.int .i64 p,.int .i64 0]) (avV (primF TX p 0 d)):=by
 have k:=c10 d p 0
 rw[ap_go hp h]at k
 exact Con.sh k (Sh.tup ⟨dat_ov _,Sh.refl _,Sh.refl _,trivial⟩)
theorem apS{d:Dat}{p:Nat}(hp:P52 p)(h:DataOk d):Con Tryz.prog 8 [datV d,.int .i64 p,.int .i64 0] (undefs [datV d,.int .i64 p,.int .i64 0]) (avV (primF TX p 0 d)):=by
 have k:=c8 d p 0
 rw[ap_go hp h]at k
 exact Con.sh k (Sh.tup ⟨dat_ov _,Sh.refl _,Sh.refl _,trivial⟩)
theorem ap53{d:Dat}(h:DataOk d):Con Tryz.prog 10 [datV d,.int .i64 53,.int .i64 0] (undefs [datV d,.int .i64 53,.int .i64 0]) (.tup [datV dat0,.int .i64 0,.int .i64 9]):=by
 have k:=c10 d 53 0
 rw[show applyF d 53 0=(dat0,0,9) by rw[applyF,if_neg (by simp[(dataOK_iff d).2 h]),if_pos (by decide)]]at k
 exact Con.sh k (Sh.tup ⟨dat_ov _,Sh.refl _,Sh.refl _,trivial⟩)
structure St where
 d:Dat
 i:Nat
set_option maxHeartbeats 40000000 in
theorem law(code more:List UInt8):Con Tryz.prog 5 [roU code,roU more] (undefs [roU code,roU more]) (.bool true):=by
 by_cases hc:code.length>1048576
 ·have hb1:decide (((code.map byteR).length:Int)>1048576)=true:=by simp;omega
  refine Con.ev 128 T_ok mix Tryz.func5 rfl rfl rfl rfl [.tmp 4] rfl ?_
  conv=>whnf
  (iterate 6 ((first|apply rq_s rfl|apply br_t rfl|refine br_t (by assumption) ?_);conv=>whnf));(refine sh_s ?_;(rfl))
 by_cases hm:more.length>1048576
 ·have hb1:decide (((code.map byteR).length:Int)>1048576)=false:=by simp;omega
  have hb2:decide (((more.map byteR).length:Int)>1048576)=true:=by simp;omega
  refine Con.ev 128 T_ok mix Tryz.func5 rfl rfl rfl rfl [.tmp 4] rfl ?_
  conv=>whnf
  (iterate 5 ((first|apply rq_s rfl|apply br_f rfl|refine br_t (by assumption) ?_|refine br_f (by assumption) ?_);conv=>whnf));(refine sh_s ?_;(rfl))
 have hb1:decide (((code.map byteR).length:Int)>1048576)=false:=by simp;omega
 have hb2:decide (((more.map byteR).length:Int)>1048576)=false:=by simp;omega
 obtain⟨d,kd,hd⟩:=dataDrawn code
 refine Con.ev 128 T_ok mix Tryz.func5 rfl rfl rfl rfl [.tmp 4] rfl ?_
 conv=>whnf
 iterate 14 ((first|apply rq_s rfl|apply rows_s rfl|refine fac_s (fun hf=> ?_)|apply br_f rfl|refine br_f (by assumption) ?_|apply lend_s|refine call_s (kd ..) ?_);conv=>whnf)
 rotate_left
 refine LoopG.auto (α:=St) T_ok mix [1,5,6] (fun s=>[(1,roU more),(5,.ptr 1 0 0),(6,.int .i64 s.i)]) (fun s=>[(1,.live ⟨false,0,[.emp,.emp,.emp,.int .i64 0,.int .i64 0,.str []],[datR s.d]⟩)]) (fun s=>s.i≤6∧DataOk s.d) (fun s=>6-s.i) ?_ ?_
 ·conv=>whnf
  (apply ChkS.mk (by kernel_rfl);conv=>whnf)
  rotate_left
  exact head_s ⟨d,0⟩ ⟨by simp,hd⟩ rfl rfl
 ·rintro ⟨x,i⟩ ⟨hi,hx⟩- -
  simp only at hi hx
  have kl:=ap53 hx
  by_cases hlt:i<6
  ·have gd:decide ((i:Int)<6)=true:=decide_eq_true (by omega)
   obtain⟨q,kq,q0,q1⟩:=at_ex more i 52 (by omega) (by omega) (by omega) (by omega)
   have wq:IntKind.i64.wrap (1+q)=((1+q).toNat:Int):=by rw[wrap64 (by omega) (by omega)];omega
   have hp:P52 (1+q).toNat:=by unfold P52;omega
   have kI:=apI hp hx
   have kS:=apS hp hx
   have kT:=c21 (1+q).toNat hp
   have hok:=prim_ok (txt:=TX) (p:=(1+q).toNat) (fl:=0) hx
   rw[←wq]at kI kS kT
   by_cases h0:(primF TX (1+q).toNat 0 x).2=0
   ·obtain⟨l1,m,l2⟩:=prim_low h0
    rw[show primF TX (1+q).toNat 0 x=((primF TX (1+q).toNat 0 x).1,0)from Prod.ext rfl h0]at kI kS
    generalize (primF TX (1+q).toNat 0 x).1=y at kI kS hok l2
    generalize takesN (1+q).toNat=n at kT l1 l2
    have kY:=c23 y
    rw[(dataOK_iff y).2 hok]at kY
    have hxs:=hx.st
    have w1:IntKind.i64.wrap ((((x.st.map intR).length:Nat):Int)-(n:Int))=((x.st.length-n:Nat):Int):=by rw[List.length_map,wrap64 (by omega) (by omega)];omega
    have g1:decide (IntKind.i64.wrap ((((x.st.map intR).length:Nat):Int)-(n:Int))<0)=false:=by rw[w1];exact decide_eq_false (by omega)
    have hyl:x.st.length-n≤y.st.length:=by rw[l2];simp
    have g2:decide ((((y.st.map intR).length:Nat):Int)<IntKind.i64.wrap ((((x.st.map intR).length:Nat):Int)-(n:Int)))=false:=by rw[w1,List.length_map];exact decide_eq_false (by omega)
    have g3:(if decide (IntKind.i64.wrap ((((x.st.map intR).length:Nat):Int)-(n:Int))<0)=true then true else decide ((((y.st.map intR).length:Nat):Int)<IntKind.i64.wrap ((((x.st.map intR).length:Nat):Int)-(n:Int))))=false:=by rw[g1,g2];rfl
    conv=>whnf
    (iterate 97 ((first|apply rq_s rfl|apply rows_s rfl|refine fac_s (fun hf=> ?_)|apply br_f rfl|refine br_t (by assumption) ?_|apply lend_s|refine call_s (kq ..) ?_|refine call_s (kI ..) ?_|refine call_s (kS ..) ?_|refine call_s (kT ..) ?_|refine call_s (kY ..) ?_|refine call_s (sameD y hok ..) ?_);conv=>whnf));iterate 54 ((first|apply rq_s rfl|refine rq_s (by((first|(refine and_s rfl ?_;rw[w1,List.length_map];exact decide_eq_true (by simp only;omega))|(rw[w1];exact decide_eq_true (by omega))|(rw[w1,List.length_map];exact decide_eq_true (by omega))|(simp[w1];omega)))) ?_|refine rows_s (by(exact sub_map _ _ _ _)) ?_|refine ChkS.mk (by kernel_rfl) ?_|apply br_t rfl|refine br_f (by assumption) ?_);conv=>whnf)
    rotate_left
    have e0:(IntKind.i64.wrap ((((x.st.map intR).length:Nat):Int)-(n:Int))).toNat-0=x.st.length-n:=by rw[w1];omega
    have ea:List.take ((IntKind.i64.wrap ((((x.st.map intR).length:Nat):Int)-(n:Int))).toNat-0) (List.drop 0 y.st)=x.st.take (x.st.length-n):=by
     rw[e0,List.drop_zero,l2,List.take_append_of_le_length (by simp),List.take_of_length_le (by simp)]
    have eb:List.take ((IntKind.i64.wrap ((((x.st.map intR).length:Nat):Int)-(n:Int))).toNat-0) (List.drop 0 x.st)=x.st.take (x.st.length-n):=by
     rw[e0,List.drop_zero]
    refine callG_eq (bs:=[roI (x.st.take (x.st.length-n)),roI (x.st.take (x.st.length-n))]) ?_ ?_
    ·have e2: ∀(a a' b b':List Int),a=a'→b=b'→[AV.ro zI (a.map intR),AV.ro zI (b.map intR)]=[roI a',roI b']:=by rintro _ _ _ _ rfl rfl;rfl
     exact e2 _ _ _ _ ea eb
    have g4:(if(if decide (IntKind.i64.wrap ((((x.st.map intR).length:Nat):Int)-(n:Int))<0)=true then true else decide ((((y.st.map intR).length:Nat):Int)<IntKind.i64.wrap ((((x.st.map intR).length:Nat):Int)-(n:Int))))=true then true else !true)=false:=by rw[g3];rfl
    iterate 9 ((first|refine ChkS.mk (by kernel_rfl) ?_|apply br_t rfl|refine br_f (by assumption) ?_|refine call_s (same _) ?_);conv=>whnf)
    rotate_left
    exact head_s ⟨y,i+1⟩ ⟨⟨by simp only;omega,hok⟩,by simp only;omega⟩ (by rw[wrap64 (by simp only;omega) (by simp only;omega)];rfl) rfl
   ·have hy:=prim_th h0
    have g0:((primF TX (1+q).toNat 0 x).2 != 0)=true:=bne_iff_ne.2 h0
    have g0e:((primF TX (1+q).toNat 0 x).2==0)=false:=beq_eq_false_iff_ne.2 h0
    rw[show primF TX (1+q).toNat 0 x=(x,(primF TX (1+q).toNat 0 x).2)from Prod.ext hy rfl]at kI kS
    generalize (primF TX (1+q).toNat 0 x).2=th at kI kS g0 g0e
    have gt:(th != th)=false:=by simp
    have g3:(if(!true)=true then true else if(th != 0)=true then !true else false)=false:=by rw[g0];rfl
    have kY:=c23 x
    rw[(dataOK_iff x).2 hx]at kY
    conv=>whnf
    (iterate 43 ((first|apply rq_s rfl|apply rows_s rfl|refine fac_s (fun hf=> ?_)|refine br_t (by assumption) ?_|apply lend_s|refine call_s (kq ..) ?_|refine call_s (kI ..) ?_|refine call_s (kS ..) ?_|refine call_s (kT ..) ?_);conv=>whnf));iterate 108 (first|(apply rq_s rfl;conv=>whnf)|(apply rows_s rfl;conv=>whnf)|(refine ChkS.mk (by kernel_rfl) ?_;conv=>whnf)|(apply br_t rfl;conv=>whnf)|(apply br_f rfl;conv=>whnf)|(focus (apply br_f (by solve|simp|fail);conv=>whnf))|(refine br_t (by assumption) ?_;conv=>whnf)|(refine br_f (by assumption) ?_;conv=>whnf)|(apply lend_s;conv=>whnf)|(refine call_s (kY ..) ?_;conv=>whnf)|(refine call_s (sameD x hx ..) ?_;conv=>whnf))
    rotate_left
    exact head_s ⟨x,i+1⟩ ⟨⟨by simp only;omega,hx⟩,by simp only;omega⟩ (by rw[wrap64 (by simp only;omega) (by simp only;omega)];rfl) rfl
  ·obtain rfl:i=6:=by omega
   conv=>whnf
   (iterate 17 ((first|apply rq_s rfl|apply rows_s rfl|refine fac_s (fun hf=> ?_)|apply br_f rfl|apply lend_s|refine call_s (kl ..) ?_);conv=>whnf));(refine sh_s ?_;(rfl))
end Y6

/- FnPrims: the law returns true at every input, and its arguments read behind the call as they did. -/
namespace Go.Proofs.YtidkogijdlfjpaaGreatDoor.FnPrims
open Go.ChangeShapes Go.WideShapes Go.ChangeAt Go.RowKit Go.Joins
open Go.Abs V1 Y5 Y6
theorem own:ownKnob Tryz.prog.godebug=none:=by kernel_rfl
theorem laidOut:laidOutB Tryz.prog=true:=by kernel_rfl
theorem tabs_met{W:World}(h:laidMetH Tryz.prog Rows.fnPrimsRow.laid W):Tabs Tryz.prog W none2:=by
 rw[MakeChecks.laidMetH_plain _ _ _ (by kernel_rfl)]at h
 obtain⟨ps,hl,_⟩:=h
 have m0:("internal/strconv.uint64pow10",(Lib.tabData .u64 Lib.pow10Tab:DataW Unit))∈Rows.fnPrimsRow.laid:=List.mem_of_getElem? (i:=2) (by kernel_rfl)
 have t0:=tab_of_laid (t:=127) (e:=93) (n:=20) (g:=1) (by kernel_rfl) (by kernel_rfl) Tryz.underlying127 Tryz.underlying93 (by kernel_rfl) (by kernel_rfl) hl m0
 have m1:("math/bits.deBruijn64tab",(Lib.tabData .u8 (Lib.deBruijn64tab.map fun z:Nat=>(z:Int)):DataW Unit))∈Rows.fnPrimsRow.laid:=List.mem_of_getElem? (i:=1) (by kernel_rfl)
 have t1:=tab_of_laid (t:=143) (e:=5) (n:=64) (g:=6) (by kernel_rfl) (by kernel_rfl) Tryz.underlying143 Tryz.underlying5 (by kernel_rfl) (by kernel_rfl) hl m1
 intro x hx g hg
 simp only[tabL,List.mem_cons,List.not_mem_nil,or_false]at hx
 rcases hx with rfl|rfl
 ·exact⟨tab_cells t0 hg,fun _ k=>k⟩
 ·exact⟨tab_cells t1 hg,fun _ k=>k⟩
set_option maxRecDepth 100000 in
theorem lifted(os:Os)(started:os.Started)(H:Type)(enc:TypeId × Value→H):
  ReturnsInHanded {} Tryz.checked os 5 .any (fun w args=>(Rows.fnPrimsSpec.pre enc Tryz.prog Tryz.f5 [] false w args∧laidMetH Tryz.prog Rows.fnPrimsRow.laid w)∧sizedMet enc Tryz.prog Tryz.f5 (OpenSpec.ofChange Rows.fnPrimsSpec) false w args) (Rows.fnPrimsSpec.post enc Tryz.prog Tryz.f5 false true false false):=by
 refine returnsInHanded_of_change_and (C:=Tryz.checked) (X:=fun w _=>laidMetH Tryz.prog Rows.fnPrimsRow.laid w) (fun _ _ _ hh h=>h.of_heap hh) own started (by kernel_rfl) Tryz.func5
  (ChangeSpec.witness_shaped (enc:=enc) (C:=Tryz.checked) (os:=os) (X:=fun w _=>laidMetH Tryz.prog Rows.fnPrimsRow.laid w) false (World.laidAll Tryz.prog os Rows.fnPrimsRow.laid) #[.slice none 0 0,.slice none 0 0] 8 (World.laidAll_os _ _ _) (World.shaped_of_ZipB (by kernel_rfl) (by kernel_rfl)) (by kernel_rfl) (by kernel_rfl) (by kernel_rfl) (by rw[MakeChecks.laidMetH_plain _ _ _ (by kernel_rfl)];exact laidMet_laidAll _ (by kernel_rfl) (by kernel_rfl))) ?_
 intro W base args ds gs before hval0 hW _ _ hL _
 have hval: ∀(j:Nat) t v,Tryz.f5.params[j]? =some t→args[j]? =some v→Value.okWide Tryz.prog W .any base t v:=hval0
 have hW':=hW
 obtain⟨p,q,hA0,hV,rfl,hfz,hnd⟩:=hW
 have hA:DataW.TrodAll enc Tryz.prog W 0 (fun _=>true) true Tryz.f5.params.toList args.toList ds p:=hA0
 rw[Tryz.params5]at hA hval
 obtain⟨v0,vs0,d0,ds0,p0,q0,hargs0,rfl,rfl,h0,r0⟩:=trodAll_cons hA
 obtain⟨v1,vs1,d1,ds1,p1,q1,hargs1,rfl,rfl,h1,r1⟩:=trodAll_cons r0
 obtain⟨hnil,rfl,rfl⟩:=trodAll_nil r1
 obtain rfl:args=#[v0,v1]:=by
  cases args
  simp_all
 obtain⟨rfl,rfl⟩:=trodVars_none hV
 have k0:=h0
 have lt0: ∀x∈p0,x.block<W.heap.size:=by obtain⟨m,hm⟩:=k0;exact DataW.trod_lt m _ _ _ hm
 obtain⟨l0,o0,a0⟩:=bridge_leaf T_ok 9 (t:=39) (by kernel_rfl) rfl rfl (hval 0 39 v0 rfl rfl) h0
 obtain⟨d0,rfl⟩:=Y5.bytes_of o0 a0
 have k1:=h1
 have lt1: ∀x∈p1,x.block<W.heap.size:=by obtain⟨m,hm⟩:=k1;exact DataW.trod_lt m _ _ _ hm
 obtain⟨l1,o1,a1⟩:=bridge_leaf T_ok 9 (t:=39) (by kernel_rfl) rfl rfl (hval 1 39 v1 rfl rfl) h1
 obtain⟨d1,rfl⟩:=Y5.bytes_of o1 a1
 clear hA0 hval0
 have hcon:=(Y6.law d0 d1).law W (tabs_met hL) [v0,v1] (parts_cons a0 (parts_cons a1 (parts_nil _ _ _)))
 refine hcon.mono fun e W' ⟨he,bel⟩=> ?_
 subst he
 exact⟨_,rfl,_,_,_,[],_,[],hW',trodAll_mk1 (shut_bool Tryz.underlying4 _),(trodAll_cons_mk (Below.trod laidOut (by kernel_rfl) (of_decide_eq_true (by kernel_rfl)) k0 bel lt0) (trodAll_cons_mk (Below.trod laidOut (by kernel_rfl) (of_decide_eq_true (by kernel_rfl)) k1 bel lt1) trodAll_mk0)),rfl,bel.frame _,fun h=>by cases h⟩
theorem kf0:(Rows.fnPrimsRow.wf (OpenSpec.ofChange Rows.fnPrimsSpec))=true:=by kernel_rfl
theorem kf1:(laidOutB Tryz.prog)=true:=by kernel_rfl
theorem kf2:(mapsRowed Tryz.prog)=true:=by kernel_rfl
theorem kf3:(Tryz.f5.params.all (Tryz.prog.readableRec ·))=true:=by kernel_rfl
theorem kf4:(namedTie Tryz.prog Rows.fnPrimsRow.named Rows.fnPrimsSpec.vars)=true:=by kernel_rfl
theorem kf5:((Rows.fnPrimsRow.stops==[]))=true:=by kernel_rfl
theorem kf6:((Tryz.prog.stops==[]))=true:=by kernel_rfl
theorem kf7:((Rows.fnPrimsRow.knobs==[]))=true:=by kernel_rfl
theorem kf8:((Tryz.prog.stopKnobs==[]))=true:=by kernel_rfl
theorem kf9:((Rows.fnPrimsRow.inPlace==Tryz.prog.inPlace 5))=true:=by kernel_rfl
theorem kf10:((Rows.fnPrimsRow.unfollowed==Tryz.prog.unfollowed 5))=true:=by kernel_rfl
theorem kf11:((Rows.fnPrimsRow.recurses==Tryz.prog.recurses 5))=true:=by kernel_rfl
theorem kf12:((Rows.fnPrimsRow.named==Tryz.prog.varsNamed 5))=true:=by kernel_rfl
theorem kf13:((Rows.fnPrimsRow.maps==(Tryz.f5.params.toList++Rows.fnPrimsSpec.plain.varTypes Tryz.prog).any (Tryz.prog.mapsRec ·)))=true:=by kernel_rfl
theorem kf14:((Rows.fnPrimsRow.ifaces==(Tryz.f5.params.toList++Rows.fnPrimsSpec.plain.varTypes Tryz.prog).any (Tryz.prog.ifacesRec ·)))=true:=by kernel_rfl
theorem kf15:((Rows.fnPrimsRow.mapsOut==Tryz.prog.mapsAmong Tryz.f5.resultTypes.toList))=true:=by kernel_rfl
theorem kf16:((Rows.fnPrimsRow.loops==(Tryz.f5.params.toList++Rows.fnPrimsSpec.plain.varTypes Tryz.prog).any (Tryz.prog.loopsFrom ·)))=true:=by kernel_rfl
theorem kf17:((Rows.fnPrimsRow.wideKeys==(Tryz.f5.params.toList++Rows.fnPrimsSpec.plain.varTypes Tryz.prog++Tryz.f5.resultTypes.toList).any (Tryz.prog.wideKeysFrom ·)))=true:=by kernel_rfl
theorem kf18:(Rows.fnPrimsSpec.vars.all (Tryz.prog.varReadable ·))=true:=by kernel_rfl
theorem kf19:(Tryz.f5.resultTypes.all (fun t=>Tryz.prog.readableRec t&&decide (t<Tryz.prog.types.size)))=true:=by kernel_rfl
theorem kf20:((Rows.fnPrimsRow.ifacesOut==Tryz.f5.resultTypes.toList.any (Tryz.prog.ifacesRec ·)))=true:=by kernel_rfl
theorem kf21:((Rows.fnPrimsRow.loopsOut==Tryz.f5.resultTypes.toList.any (Tryz.prog.loopsFrom ·)))=true:=by kernel_rfl
theorem kf22:((Rows.fnPrimsRow.plainKeys==Tryz.prog.plainKeys))=true:=by kernel_rfl
theorem kf23:(Rows.fnPrimsRow.shortTexts.isNone)=true:=by kernel_rfl
theorem kf24:(Tryz.prog.stopsHeard)=true:=by kernel_rfl
theorem kf25:(Tryz.prog.mayEnter)=true:=by kernel_rfl
theorem kf26:((Rows.fnPrimsRow.lifted==Tryz.prog.liftsFinal))=true:=by kernel_rfl
theorem kf27:((Tryz.prog.make==some Rows.fnPrimsRow.make))=true:=by kernel_rfl
theorem kf28:((Rows.fnPrimsRow.kinds==(if Rows.fnPrimsRow.domain.isEmpty then[]else Tryz.f5.params.toList.map fun t=>match Tryz.prog.underlying t with|some (.int k)=>some k|_=>none)))=true:=by kernel_rfl
theorem kf29:((Rows.fnPrimsRow.pinned==Rows.fnPrimsRow.pinnedBy))=true:=by kernel_rfl
theorem kf30:((Rows.fnPrimsRow.veiled==(Tryz.f5.params.toList++Rows.fnPrimsSpec.plain.varTypes Tryz.prog++Tryz.f5.resultTypes.toList).any (Tryz.prog.veiledRec ·)))=true:=by kernel_rfl
theorem kf31:(Rows.fnPrimsRow.veiledFits Tryz.prog Tryz.f5.params.toList (Tryz.f5.params.toList++Rows.fnPrimsSpec.plain.varTypes Tryz.prog++Tryz.f5.resultTypes.toList))=true:=by kernel_rfl
theorem and2{a b:Bool}(h:a=true)(k:b=true):(a&&b)=true:=by rw[h,k];rfl
theorem closed:joinedFacts Tryz.prog 5 Tryz.f5 Rows.fnPrimsSpec Rows.fnPrimsRow=true:=and2 (and2 (and2 (and2 (and2 (and2 (and2 (and2 (and2 (and2 (and2 (and2 (and2 (and2 (and2 (and2 (and2 (and2 (and2 (and2 (and2 (and2 (and2 (and2 (and2 (and2 (and2 (and2 (and2 (and2 (and2 kf0 kf1) kf2) kf3) kf4) kf5) kf6) kf7) kf8) kf9) kf10) kf11) kf12) kf13) kf14) kf15) kf16) kf17) kf18) kf19) kf20) kf21) kf22) kf23) kf24) kf25) kf26) kf27) kf28) kf29) kf30) kf31
theorem named:Tryz.prog.funcNamed "loop.example/g00787/laws.FnPrims" =some 5:=by kernel_rfl
theorem said:Rows.FnPrimsSaid:=
 OpenClaim.holds_of_wide 5 Tryz.f5 rfl rfl rfl rfl rfl rfl rfl ⟨rfl,rfl,rfl,rfl,rfl⟩ rfl rfl rfl rfl rfl named Tryz.func5 closed
  (of_decide_eq_true (by kernel_rfl)) (by unfold Func.isWrapper;first|(rw[if_pos (by decide+kernel)];kernel_rfl)|(rw[if_neg (by decide+kernel)];exact⟨rfl,rfl⟩))
  (fun os started H enc _=>lifted os started H enc)
theorem proved:Rows.FnPrimsCardSaid:=
 Claim7.holds_tied_plain_at .later [] [.data,.data,.data,.data,.pinned,.pinned] true (true, "906d1e393f5158a7dc230c1ce1b67d1f33274a7a058bf2b176f0e1c9112ef19b") false
  said (fun _ h=>by cases h) (by kernel_rfl) (fun _ h=>by cases h) fnPrims_row_tie rfl ⟨rfl,rfl⟩ (by kernel_rfl) rfl
  (fun f fn hf hfn=>by
   obtain rfl:f=5:=Option.some.inj ((show Tryz.prog.funcNamed "loop.example/g00787/laws.FnPrims" =some 5 by kernel_rfl).symm.trans hf) |>.symm
   obtain rfl:fn=Tryz.f5:=(Option.some.inj (Tryz.func5.symm.trans hfn)).symm
   exact⟨by kernel_rfl,fun j t ht=>by
    rw[Tryz.params5]at ht
    have hm:t∈[39,39]:=by simpa using Array.mem_of_getElem? ht
    have hall:([39,39].all fun u=> !Tryz.prog.wantsStandIn u)=true:=by kernel_rfl
    exact(show Tryz.prog.wantsStandIn t=false by simpa using List.all_eq_true.1 hall t hm)⟩)
  (by kernel_rfl)
#print axioms proved
end Go.Proofs.YtidkogijdlfjpaaGreatDoor.FnPrims
