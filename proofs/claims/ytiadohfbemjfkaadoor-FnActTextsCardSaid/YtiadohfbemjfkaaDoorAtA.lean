import Derived.Test.YtiadohfbemjfkaaDoorAtV
import Derived.Lib.ItoaLen
import Derived.Test.YtiadohfbemjfkaaDoorAbsk
import Derived.Test.YtiadohfbemjfkaaDoorAbs7
import Derived.Test.YtiadohfbemjfkaaDoorAbsi
import Derived.Test.YtiadohfbemjfkaaDoorAbsn
import Derived.Shelf.Strings.Search3
import Derived.Shelf.Strings.Count
import Derived.Shelf.Strings.SplitCore
import Derived.Shelf.LaysM
import Derived.Test.YtiadohfbemjfkaaDoorAbsq
import Derived.Shelf.Strconv.AtoiAll
import Derived.Shelf.LaysC
/- Numbers in digits: contracts. -/
set_option linter.unusedVariables false
set_option linter.unusedSimpArgs false
set_option maxRecDepth 100000
open Go Go.Abs Go.Proofs V1
namespace U2
theorem c42n: ∀(u:Nat),u≤9223372036854775807→Con Tryd.prog 42 [.int .i64 u] (undefs [.int .i64 u]) (.str (Lib.decDigits u)):=by
 intro u
 induction u using Nat.strongRecOn with
 |ind u ih=>
  intro hu
  by_cases hs:u<10
  ·refine Con.ev 28 T_ok mix Tryd.func42 rfl rfl rfl rfl [.tmp 2] rfl ?_
   conv=>whnf
   iterate 8 (first|(refine rq_s (by solve|simp only[lnm]|fail) ?_;(conv=>whnf))|(apply rq_s rfl;(conv=>whnf))|(refine byt_s rfl ?_;(conv=>whnf))|(apply br_f rfl;(conv=>whnf))|(refine br_s ?_ ?_<;>intro hb<;>(try simp only[cln]at hb)<;>conv=>whnf))
   rotate_left
   iterate 5 ((first|apply rq_s rfl|refine ChkS.mk (by kernel_rfl) ?_);conv=>whnf)
   rotate_left
   ·refine sh_s ?_
    rw[Lib.decDigits_one hs]
    show AV.str [UInt8.ofNat (IntKind.u8.wrap (IntKind.i64.wrap (48+(u:Int)))).toNat]=_
    have e:IntKind.i64.wrap (48+(u:Int))=((48+u:Nat):Int):=by rw[wrap64 (by omega) (by omega)];omega
    rw[e,Go.Abs.byteOf (by omega)]
   ·omega
  ·have h_rec:Con Tryd.prog 42 [.int .i64 (IntKind.i64.wrap ((u:Int).tdiv 10))] (undefs [.int .i64 (IntKind.i64.wrap ((u:Int).tdiv 10))]) (.str (Lib.decDigits (u/10))):=by
    rw[quo10 u hu]
    exact ih (u/10) (by omega) (by omega)
   have hl:=dec_len (u/10) (by omega)
   refine Con.ev 28 T_ok mix Tryd.func42 rfl rfl rfl rfl [.tmp 2] rfl ?_
   conv=>whnf
   iterate 8 (first|(refine rq_s (by solve|simp only[lnm]|fail) ?_;(conv=>whnf))|(apply rq_s rfl;(conv=>whnf))|(refine byt_s rfl ?_;(conv=>whnf))|(apply br_f rfl;(conv=>whnf))|(refine br_s ?_ ?_<;>intro hb<;>(try simp only[cln]at hb)<;>conv=>whnf))
   rotate_left
   iterate 23 ((first|refine rq_s (by solve|simp only[lnm]|fail) ?_|apply rq_s rfl|refine rq_s (by(((simp[maxStr];omega)))) ?_|refine byt_s rfl ?_|refine fac_s (fun hf=> ?_)|refine ChkS.mk (by kernel_rfl) ?_|refine call_s (h_rec) ?_);conv=>whnf)
   rotate_left
   ·omega
   ·refine sh_s ?_
    rw[dec_step hs]
    rw[rem10,Go.Abs.byteOf (by omega)]
theorem c42(n:Int):Con Tryd.prog 42 [.int .i64 n] (undefs [.int .i64 n]) (.str (Lib.itoa n)):=by
 refine Con.facts (c42n 0 (by omega)).ok fun hF=> ?_
 have hn:=facts_int (n:=n) (hF _ (List.mem_cons_self ..))
 by_cases h0:0≤n
 ·have h:=c42n n.toNat (by omega)
  rw[Int.toNat_of_nonneg h0]at h
  rw[Lib.itoa,if_neg (by omega)]
  exact h
 ·by_cases hm:n= -9223372036854775808
  ·subst hm
   refine Con.ev 28 T_ok mix Tryd.func42 rfl rfl rfl rfl [.tmp 2] rfl ?_
   conv=>whnf
   (apply br_t rfl;conv=>whnf);(apply rq_s rfl;conv=>whnf);(refine sh_s ?_;(exact congrArg AV.str (by decide+kernel)))
  ·have h_rec:Con Tryd.prog 42 [.int .i64 (IntKind.i64.wrap (0-n))] (undefs [.int .i64 (IntKind.i64.wrap (0-n))]) (.str (Lib.decDigits n.natAbs)):=by
    have e:IntKind.i64.wrap (0-n)=(n.natAbs:Int):=by rw[wrap64 (by omega) (by omega)];omega
    rw[e]
    exact c42n n.natAbs (by omega)
   have hl:=dec_len n.natAbs (by omega)
   refine Con.ev 28 T_ok mix Tryd.func42 rfl rfl rfl rfl [.tmp 2] rfl ?_
   conv=>whnf
   (refine br_s ?_ ?_<;>intro hb<;>(try simp only[cln]at hb)<;>conv=>whnf);(apply rq_s rfl;conv=>whnf)
   rotate_left
   iterate 7 (first|(apply rq_s rfl;(conv=>whnf))|(refine rq_s (by(((simp[maxStr];omega)))) ?_;(conv=>whnf))|(refine fac_s (fun hf=> ?_);(conv=>whnf))|(refine br_s ?_ ?_<;>intro hb<;>(try simp only[cln]at hb)<;>conv=>whnf)|(apply lend_s;(conv=>whnf))|(refine call_s (h_rec) ?_;(conv=>whnf)))
   rotate_left
   iterate 6 (first|(refine rq_s (by solve|simp only[lnm]|fail) ?_;(conv=>whnf))|(apply rq_s rfl;(conv=>whnf))|(refine byt_s rfl ?_;(conv=>whnf))|(refine br_s ?_ ?_<;>intro hb<;>(try simp only[cln]at hb)<;>conv=>whnf))
   rotate_left
   iterate 5 ((first|apply rq_s rfl|refine ChkS.mk (by kernel_rfl) ?_);conv=>whnf)
   rotate_left
   ·exact absurd (by simpa using hb) hm
   ·refine sh_s ?_
    rw[Lib.itoa,if_pos (by omega)]
    rfl
   ·omega
   ·omega
end U2
open Go.Proofs
def U2.laid_ren:Go.Shelf.Ren:=⟨fun|171=>39|243=>53|246=>62|283=>71|284=>72|285=>73|286=>74|129=>83|317=>82|318=>84|319=>85|320=>86|337=>94|338=>95|n=>n,fun|3=>3|9=>9|2=>2|4=>4|171=>82|0=>0|53=>72|37=>28|5=>5|173=>85|212=>99|51=>71|20=>20|213=>100|46=>93|232=>114|233=>115|n=>n,fun|17=>2|18=>6|19=>7|n=>n⟩
theorem U2.laid:Go.Proofs.LaysM.n171 Tryd.prog U2.laid_ren where
 mixed:=by kernel_rfl
 f129:=Tryd.func83.trans (congrArg some (by kernel_rfl))
 f171:=Tryd.func39.trans (congrArg some (by kernel_rfl))
 f243:=Tryd.func53.trans (congrArg some (by kernel_rfl))
 f246:=Tryd.func62.trans (congrArg some (by kernel_rfl))
 f283:=Tryd.func71.trans (congrArg some (by kernel_rfl))
 f284:=Tryd.func72.trans (congrArg some (by kernel_rfl))
 f285:=Tryd.func73.trans (congrArg some (by kernel_rfl))
 f286:=Tryd.func74.trans (congrArg some (by kernel_rfl))
 f317:=Tryd.func82.trans (congrArg some (by kernel_rfl))
 f318:=Tryd.func84.trans (congrArg some (by kernel_rfl))
 f319:=Tryd.func85.trans (congrArg some (by kernel_rfl))
 f320:=Tryd.func86.trans (congrArg some (by kernel_rfl))
 f337:=Tryd.func94.trans (congrArg some (by kernel_rfl))
 f338:=Tryd.func95.trans (congrArg some (by kernel_rfl))
 t0:=Tryd.underlying0
 a0:=Tryd.isAgg0
 z0:=Tryd.sizeOf0
 v0:=Tryd.zeroValue0
 t2:=Tryd.underlying2
 a2:=Tryd.isAgg2
 z2:=Tryd.sizeOf2
 v2:=Tryd.zeroValue2
 t3:=Tryd.underlying3
 a3:=Tryd.isAgg3
 z3:=Tryd.sizeOf3
 v3:=Tryd.zeroValue3
 t4:=Tryd.underlying4
 a4:=Tryd.isAgg4
 z4:=Tryd.sizeOf4
 v4:=Tryd.zeroValue4
 t5:=Tryd.underlying5
 a5:=Tryd.isAgg5
 z5:=Tryd.sizeOf5
 v5:=Tryd.zeroValue5
 t9:=Tryd.underlying9
 a9:=Tryd.isAgg9
 z9:=Tryd.sizeOf9
 v9:=Tryd.zeroValue9
 t20:=Tryd.underlying20
 a20:=Tryd.isAgg20
 z20:=Tryd.sizeOf20
 v20:=Tryd.zeroValue20
 t37:=Tryd.underlying28
 a37:=Tryd.isAgg28
 z37:=Tryd.sizeOf28
 v37:=Tryd.zeroValue28
 t46:=Tryd.underlying93
 a46:=Tryd.isAgg93
 z46:=Tryd.sizeOf93
 v46:=Tryd.zeroValue93
 t51:=Tryd.underlying71
 a51:=Tryd.isAgg71
 z51:=Tryd.sizeOf71
 v51:=Tryd.zeroValue71
 t53:=Tryd.underlying72
 a53:=Tryd.isAgg72
 z53:=Tryd.sizeOf72
 v53:=Tryd.zeroValue72
 t171:=Tryd.underlying82
 a171:=Tryd.isAgg82
 z171:=Tryd.sizeOf82
 v171:=Tryd.zeroValue82
 t173:=Tryd.underlying85
 a173:=Tryd.isAgg85
 z173:=Tryd.sizeOf85
 v173:=Tryd.zeroValue85
 t212:=Tryd.underlying99
 a212:=Tryd.isAgg99
 z212:=Tryd.sizeOf99
 v212:=Tryd.zeroValue99
 t213:=Tryd.underlying100
 a213:=Tryd.isAgg100
 z213:=Tryd.sizeOf100
 t232:=Tryd.underlying114
 a232:=Tryd.isAgg114
 z232:=Tryd.sizeOf114
 v232:=Tryd.zeroValue114
 t233:=Tryd.underlying115
 a233:=Tryd.isAgg115
 z233:=Tryd.sizeOf115
 v233:=Tryd.zeroValue115
 g17:=by kernel_rfl
 g18:=by kernel_rfl
 g19:=by kernel_rfl
 i0:=by kernel_rfl
 i2:=by kernel_rfl
 i3:=by kernel_rfl
 i4:=by kernel_rfl
 i5:=by kernel_rfl
 i9:=by kernel_rfl
 i20:=by kernel_rfl
 i37:=by kernel_rfl
 i46:=by kernel_rfl
 i51:=by kernel_rfl
 i53:=by kernel_rfl
 i171:=by kernel_rfl
 i173:=by kernel_rfl
 i212:=by kernel_rfl
 i232:=by kernel_rfl
 i233:=by kernel_rfl
 m17:=by kernel_rfl
 m18:=by kernel_rfl
 m19:=by kernel_rfl
namespace U2
theorem c39(n:Int):Con Tryd.prog 39 [.int .i64 n] (undefs [.int .i64 n]) (.str (Lib.itoa n)):=by
 refine Con.scal ⟨_,Tryd.func39,rfl,rfl⟩ (fun w vals hp tb=> ?_) fun w R O vals hp=> ?_
 ·obtain⟨hl,os,h4,_⟩:=uni_of_parts _ _ _ hp
  match vals,hl with
  |[v],_=>
   have hv:=h4 0 _ v rfl rfl
   cases hv with
   |sc hv _=>
    obtain⟨rfl,hf⟩:=hv
    simp[fitsK]at hf
    refine(Any.strconv_Itoa laid n (by omega) (by omega) w (tb.is (g:=2) (by simp[tabL]) (by kernel_rfl))).mono ?_
    rintro e w' ⟨rfl,k,os,rfl⟩
    exact⟨_,rfl,⟨rfl,Nat.le_trans (Lib.itoa_length_le n (by omega) (by omega)) (by simp[maxLn])⟩,k,os,rfl⟩
 ·obtain⟨hl,os,h4,h5⟩:=uni_of_parts _ _ _ hp
  match vals,hl with
  |[v],_=>
   have hv:=h4 0 _ v rfl rfl
   cases hv with
   |sc hv he=>
    refine⟨⟨none2,none2,fun g o=>by simp[none2],emp_none2.disj,.sc hv emp_none2,emp_none2⟩,fun g o k=> ?_⟩
    obtain⟨j,hj,m⟩:=(h5.iff g o).1 k
    have:j=0:=by simpa using hj
    subst this
    exact he g o m
end U2

/- The texts of actions: contracts. -/
open Go Go.Abs Go.Proofs V1 U2
namespace U3
theorem c18:Con Tryd.prog 18 [] (undefs []) (.own 0 [.str []] (actW.map strR)):=by
 refine Con.ev 2 T_ok mix Tryd.func18 rfl rfl rfl rfl [.tmp 0] rfl ?_
 conv=>whnf
 (iterate 3 ((first|refine rq_s (by solve|simp only[lnm]|fail) ?_|apply rq_s rfl);conv=>whnf));(refine rows_s (by((refine sub_all ?_;simp[List.length_map];done))) ?_;conv=>whnf);(refine sh_s ?_;(rfl))
theorem c28:Con Tryd.prog 28 [] (undefs []) (.own 0 [.str []] (actX.map strR)):=by
 refine Con.ev 2 T_ok mix Tryd.func28 rfl rfl rfl rfl [.tmp 0] rfl ?_
 conv=>whnf
 (iterate 3 ((first|refine rq_s (by solve|simp only[lnm]|fail) ?_|apply rq_s rfl);conv=>whnf));(refine rows_s (by((refine sub_all ?_;simp[List.length_map];done))) ?_;conv=>whnf);(refine sh_s ?_;(rfl))
theorem c19:Con Tryd.prog 19 [] (undefs []) (.own 0 [.str []] (capW.map strR)):=by
 refine Con.ev 2 T_ok mix Tryd.func19 rfl rfl rfl rfl [.tmp 0] rfl ?_
 conv=>whnf
 (iterate 3 ((first|refine rq_s (by solve|simp only[lnm]|fail) ?_|apply rq_s rfl);conv=>whnf));(refine rows_s (by((refine sub_all ?_;simp[List.length_map];done))) ?_;conv=>whnf);(refine sh_s ?_;(rfl))
theorem c29:Con Tryd.prog 29 [] (undefs []) (.own 0 [.str []] (capW.map strR)):=by
 refine Con.ev 2 T_ok mix Tryd.func29 rfl rfl rfl rfl [.tmp 0] rfl ?_
 conv=>whnf
 (iterate 3 ((first|refine rq_s (by solve|simp only[lnm]|fail) ?_|apply rq_s rfl);conv=>whnf));(refine rows_s (by((refine sub_all ?_;simp[List.length_map];done))) ?_;conv=>whnf);(refine sh_s ?_;(rfl))
theorem c20(xs:List Int)(hl:xs.length≤1000)(hx: ∀x∈xs,-9223372036854775808≤x∧x≤9223372036854775807):Con Tryd.prog 20 [roI xs] (undefs [roI xs]) (.str (spacedL xs)):=by
 refine Con.ev 19 T_ok mix Tryd.func20 rfl rfl rfl rfl [.tmp 2] rfl ?_
 conv=>whnf
 rotate_left
 refine LoopG.rounds (α:=Nat) T_ok mix [3,6,7,8] [] (fun i=>[(3,.str (spacedL (xs.take i))),(6,roI xs),(7,.int .i64 xs.length),(8,.int .i64 i)]) (fun _=>[]) (fun i=>i≤xs.length) (fun i=>xs.length-i) ?_ ?_
 ·conv=>whnf
  exact head_s 0 (by simp) (by simp[roI,spacedL]) rfl
 ·intro i hi _ _
  have hsl:=spaced_len (xs.take i) fun x h=>hx x (List.mem_of_mem_take h)
  have hti:(xs.take i).length≤1000:=by simp;omega
  conv=>whnf
  (iterate 3 (first|(apply rq_s rfl;(conv=>whnf))|(refine rq_s (by refine and_s rfl ?_;simp only[lnm];omega) ?_;(conv=>whnf))|(refine br_s ?_ ?_<;>intro hb<;>(try simp only[cln]at hb)<;>conv=>whnf)));(refine row_s (by((try simp only[Int.toNat_natCast]);exact row_map intR _ _ _ default (by first|omega|(simp;omega)))) ?_;conv=>whnf);(apply rq_s rfl;conv=>whnf);(apply lend_s;conv=>whnf)
  rotate_left
  (apply rq_s rfl;conv=>whnf)
  rotate_left
  ·have hi2:i<xs.length:=by omega
   have hxi:xs.getD i default=xs[i]:=by simp[hi2]
   have hil:=itoa_len (hx xs[i] (List.getElem_mem hi2)).1 (hx xs[i] (List.getElem_mem hi2)).2
   iterate 4 ((first|refine rq_s (by(((simp only[maxStr,List.length_append,List.length_cons,hxi,decide_eq_true_eq];simp;omega)))) ?_|refine fac_s (fun hf=> ?_)|refine call_s (c39 ..) ?_);conv=>whnf)
   rotate_left
   have e:spacedL (xs.take (i+1))=spacedL (xs.take i)++(32::Lib.itoa (xs.getD i default)):=by
    rw[hxi,List.take_succ_eq_append_getElem hi2,spacedL,List.flatMap_append]
    simp only[List.flatMap_cons,List.flatMap_nil,List.append_nil]
    rfl
   refine head_s (i+1) ⟨by omega,by omega⟩ ?_ rfl
   rw[wrap64 (by omega) (by omega),e]
   rfl
  ·obtain rfl:i=xs.length:=by omega
   refine sh_s ?_
   rw[List.take_length]
def actT(a:Doing):List UInt8:=
 if a.k=6 then[101,118,97,108,32]++a.l else if a.k≤2 then actW.getD (a.k-1).toNat []++[32]++capW.getD a.n.toNat []else actW.getD (a.k-1).toNat []++(32::Lib.itoa a.n)
theorem act_cases{a:Doing}(h:actOK a=true):(∃k n,(k=1∨k=2)∧(n=0∨n=1∨n=2∨n=3)∧a=⟨k,n,[]⟩)∨(∃k n,(k=3∨k=4∨k=5)∧(-2147483648≤n∧n≤2147483647)∧a=⟨k,n,[]⟩)∨ ∃l:List UInt8,l.length≤400∧a=⟨6,0,l⟩:=by
 obtain⟨k,n,l⟩:=a
 unfold actOK cell inR at h
 simp only at h
 by_cases h12:k=1∨k=2
 ·rw[if_pos h12]at h
  simp only[Bool.and_eq_true,decide_eq_true_eq]at h
  obtain⟨⟨h1,h2⟩,rfl⟩:=h
  exact .inl ⟨k,n,h12,by omega,rfl⟩
 ·rw[if_neg h12]at h
  by_cases h3:k=3
  ·rw[if_pos h3]at h
   simp only[Bool.and_eq_true,decide_eq_true_eq]at h
   obtain⟨⟨h1,h2⟩,rfl⟩:=h
   exact .inr (.inl ⟨k,n,.inl h3,by omega,rfl⟩)
  ·rw[if_neg h3]at h
   by_cases h4:k=4
   ·rw[if_pos h4]at h
    simp only[Bool.and_eq_true,decide_eq_true_eq]at h
    obtain⟨⟨h1,h2⟩,rfl⟩:=h
    exact .inr (.inl ⟨k,n,.inr (.inl h4),by omega,rfl⟩)
   ·rw[if_neg h4]at h
    by_cases h5:k=5
    ·rw[if_pos h5]at h
     simp only[Bool.and_eq_true,decide_eq_true_eq]at h
     obtain⟨⟨h1,h2⟩,rfl⟩:=h
     exact .inr (.inl ⟨k,n,.inr (.inr h5),by omega,rfl⟩)
    ·rw[if_neg h5]at h
     simp only[Bool.and_eq_true,decide_eq_true_eq]at h
     obtain⟨⟨rfl,rfl⟩,h⟩:=h
     exact .inr (.inr ⟨l,h,rfl⟩)
theorem c22(a:Doing)(h:actOK a=true):Con Tryd.prog 22 [actV a] (undefs [actV a]) (.str (actT a)):=by
 rcases act_cases h with⟨k,n,hk,hn,rfl⟩|⟨k,n,hk,hn,rfl⟩|⟨l,hl,rfl⟩
 ·rcases hk with rfl|rfl<;>rcases hn with rfl|rfl|rfl|rfl<;>
  (refine Con.ev 36 T_ok mix Tryd.func22 rfl rfl rfl rfl [.tmp 2] rfl ?_
   conv=>whnf
   iterate 17 ((first|refine rq_s (by solve|simp only[lnm]|fail) ?_|apply rq_s rfl|refine row_s (by(rfl)) ?_|refine fac_s (fun hf=> ?_)|refine ChkS.mk (by kernel_rfl) ?_|refine call_s (c28 ..) ?_);conv=>whnf)
   first
    |(iterate 22 ((first|refine rq_s (by solve|simp only[lnm]|fail) ?_|apply rq_s rfl|refine row_s (by(rfl)) ?_|refine fac_s (fun hf=> ?_)|refine ChkS.mk (by kernel_rfl) ?_|apply br_t rfl|refine call_s (c29 ..) ?_);conv=>whnf)
      (refine sh_s ?_;(rfl)))
    |(iterate 22 ((first|refine rq_s (by solve|simp only[lnm]|fail) ?_|apply rq_s rfl|refine row_s (by(rfl)) ?_|refine fac_s (fun hf=> ?_)|refine ChkS.mk (by kernel_rfl) ?_|apply br_t rfl|apply br_f rfl|refine call_s (c29 ..) ?_);conv=>whnf)
      (refine sh_s ?_;(rfl))))
 ·have hil:=itoa_len (n:=n) (by omega) (by omega)
  rcases hk with rfl|rfl|rfl<;>
  (refine Con.ev 36 T_ok mix Tryd.func22 rfl rfl rfl rfl [.tmp 2] rfl ?_
   conv=>whnf
   iterate 28 ((first|refine rq_s (by solve|simp only[lnm]|fail) ?_|apply rq_s rfl|refine rq_s (by(((simp[maxStr];omega)))) ?_|refine row_s (by(rfl)) ?_|refine fac_s (fun hf=> ?_)|refine ChkS.mk (by kernel_rfl) ?_|apply br_f rfl|apply lend_s|refine call_s (c28 ..) ?_|refine call_s (c42 ..) ?_);conv=>whnf)
   (refine sh_s ?_;(rfl)))
 ·refine Con.ev 36 T_ok mix Tryd.func22 rfl rfl rfl rfl [.tmp 2] rfl ?_
  conv=>whnf
  (iterate 24 ((first|refine rq_s (by solve|simp only[lnm]|fail) ?_|apply rq_s rfl|refine rq_s (by(((simp[maxStr];omega)))) ?_|refine row_s (by(rfl)) ?_|refine fac_s (fun hf=> ?_)|refine ChkS.mk (by kernel_rfl) ?_|apply br_t rfl|apply br_f rfl|refine call_s (c28 ..) ?_);conv=>whnf));(refine sh_s ?_;(rfl))
def tT(a:Doing):List UInt8:=if actOK a=true then actT a else[]
def tC(a:Doing):Int:=if actOK a=true then 0 else 1
def textV(a:Doing):AV:=.tup [.str (tT a),.int .i64 (tC a)]
theorem c11(a:Doing):Con Tryd.prog 11 [actV a] (undefs [actV a]) (textV a):=by
 by_cases h:actOK a=true
 ·refine Con.ev 9 T_ok mix Tryd.func11 rfl rfl rfl rfl [.tmp 2,.tmp 3] rfl ?_
  conv=>whnf
  (iterate 9 (first|(apply rq_s rfl;(conv=>whnf))|(refine br_s ?_ ?_<;>intro hb<;>(try simp only[cln]at hb)<;>conv=>whnf)|(apply lend_s;(conv=>whnf))|(refine call_s (c21 ..) ?_;(conv=>whnf))));(refine sh_s ?_;(simp_all[textV,tT,tC]));(iterate 8 ((first|apply rq_s rfl|refine fac_s (fun hf=> ?_)|apply lend_s|refine call_s (c22 _ h) ?_);conv=>whnf));(refine sh_s ?_;(simp_all[textV,tT,tC]))
 ·refine Con.ev 9 T_ok mix Tryd.func11 rfl rfl rfl rfl [.tmp 2,.tmp 3] rfl ?_
  conv=>whnf
  (iterate 9 (first|(apply rq_s rfl;(conv=>whnf))|(refine br_s ?_ ?_<;>intro hb<;>(try simp only[cln]at hb)<;>conv=>whnf)|(apply lend_s;(conv=>whnf))|(refine call_s (c21 ..) ?_;(conv=>whnf))));(refine sh_s ?_;(simp_all[textV,tT,tC]));iterate 4 ((first|apply rq_s rfl|apply lend_s);conv=>whnf)
  rotate_left
  simp_all
theorem c10(a:Doing):Con Tryd.prog 10 [actV a] (undefs [actV a]) (textV a):=by
 by_cases h:actOK a=true
 ·have e:textV a=.tup [.str (actT a),.int .i64 0]:=by simp[textV,tT,tC,h]
  rw[e]
  have hk0:(!actOK a)=false:=by simp[h]
  rcases act_cases h with⟨k,n,hk,hn,rfl⟩|⟨k,n,hk,hn,rfl⟩|⟨l,hl,rfl⟩
  ·rcases hk with rfl|rfl<;>rcases hn with rfl|rfl|rfl|rfl<;>
   (refine Con.ev 43 T_ok mix Tryd.func10 rfl rfl rfl rfl [.tmp 2,.tmp 3] rfl ?_
    conv=>whnf
    iterate 45 ((first|refine rq_s (by solve|simp only[lnm]|fail) ?_|apply rq_s rfl|refine row_s (by(rfl)) ?_|refine fac_s (fun hf=> ?_)|refine ChkS.mk (by kernel_rfl) ?_|apply br_t rfl|apply br_f rfl|apply lend_s|refine call_s (c12 ..) ?_|refine call_s (c18 ..) ?_|refine call_s (c19 ..) ?_);conv=>whnf)
    (refine sh_s ?_;(rfl)))
  ·have hil:=itoa_len (n:=n) (by omega) (by omega)
   have h_sp:Con Tryd.prog 20 [roI [n]] (undefs [roI [n]]) (.str (32::Lib.itoa n)):=by
    have:=c20 [n] (by simp) (by simp;omega)
    simpa[spacedL]using this
   rcases hk with rfl|rfl|rfl<;>
   (refine Con.ev 43 T_ok mix Tryd.func10 rfl rfl rfl rfl [.tmp 2,.tmp 3] rfl ?_
    conv=>whnf
    (iterate 31 ((first|refine rq_s (by solve|simp only[lnm]|fail) ?_|apply rq_s rfl|refine row_s (by(rfl)) ?_|refine ChkS.mk (by kernel_rfl) ?_|apply br_f rfl|refine br_f (by assumption) ?_|apply lend_s|refine call_s (c12 ..) ?_|refine call_s (c18 ..) ?_);conv=>whnf));(refine rows_s (by((refine sub_all ?_;simp[List.length_map];done))) ?_;conv=>whnf);iterate 10 ((first|apply rq_s rfl|refine rq_s (by(((simp[maxStr];omega)))) ?_|refine fac_s (fun hf=> ?_)|refine ChkS.mk (by kernel_rfl) ?_|refine call_s (h_sp) ?_);conv=>whnf)
    (refine sh_s ?_;(rfl)))
  ·refine Con.ev 43 T_ok mix Tryd.func10 rfl rfl rfl rfl [.tmp 2,.tmp 3] rfl ?_
   conv=>whnf
   (iterate 13 ((first|apply rq_s rfl|refine rq_s (by(((simp[maxStr];omega)))) ?_|apply br_t rfl|refine br_f (by assumption) ?_|apply lend_s|refine call_s (c12 ..) ?_);conv=>whnf));(refine sh_s ?_;(rfl))
 ·have hk0:(!actOK a)=true:=by simp[h]
  refine Con.ev 43 T_ok mix Tryd.func10 rfl rfl rfl rfl [.tmp 2,.tmp 3] rfl ?_
  conv=>whnf
  (iterate 9 ((first|apply rq_s rfl|refine br_t (by assumption) ?_|apply lend_s|refine call_s (c12 ..) ?_);conv=>whnf));(refine sh_s ?_;(simp_all[textV,tT,tC]))
end U3

/- strings.Split at one byte, contracts, from the kit's shelf. -/
open Go Go.Abs Go.Proofs V1
def U4.lays221_ren:Go.Shelf.Ren:=⟨fun|221=>56|268=>63|138=>64|143=>65|195=>75|197=>76|218=>77|219=>78|260=>87|217=>88|225=>89|224=>90|267=>91|266=>96|314=>97|n=>n,fun|9=>9|3=>3|31=>41|4=>4|0=>0|105=>88|21=>21|5=>5|46=>93|119=>108|139=>111|138=>110|146=>112|51=>71|n=>n,fun|1=>3|3=>4|4=>5|n=>n⟩
theorem U4.lays221:Go.Proofs.LaysM.n221 Tryd.prog U4.lays221_ren where
 mixed:=by kernel_rfl
 f138:=Tryd.func64.trans (congrArg some (by kernel_rfl))
 f143:=Tryd.func65.trans (congrArg some (by kernel_rfl))
 f195:=Tryd.func75.trans (congrArg some (by kernel_rfl))
 f197:=Tryd.func76.trans (congrArg some (by kernel_rfl))
 f217:=Tryd.func88.trans (congrArg some (by kernel_rfl))
 f218:=Tryd.func77.trans (congrArg some (by kernel_rfl))
 f219:=Tryd.func78.trans (congrArg some (by kernel_rfl))
 f221:=Tryd.func56.trans (congrArg some (by kernel_rfl))
 f224:=Tryd.func90.trans (congrArg some (by kernel_rfl))
 f225:=Tryd.func89.trans (congrArg some (by kernel_rfl))
 f260:=Tryd.func87.trans (congrArg some (by kernel_rfl))
 f266:=Tryd.func96.trans (congrArg some (by kernel_rfl))
 f267:=Tryd.func91.trans (congrArg some (by kernel_rfl))
 f268:=Tryd.func63.trans (congrArg some (by kernel_rfl))
 f314:=Tryd.func97.trans (congrArg some (by kernel_rfl))
 t0:=Tryd.underlying0
 a0:=Tryd.isAgg0
 z0:=Tryd.sizeOf0
 v0:=Tryd.zeroValue0
 t3:=Tryd.underlying3
 a3:=Tryd.isAgg3
 z3:=Tryd.sizeOf3
 v3:=Tryd.zeroValue3
 t4:=Tryd.underlying4
 a4:=Tryd.isAgg4
 z4:=Tryd.sizeOf4
 v4:=Tryd.zeroValue4
 t5:=Tryd.underlying5
 a5:=Tryd.isAgg5
 z5:=Tryd.sizeOf5
 v5:=Tryd.zeroValue5
 t9:=Tryd.underlying9
 a9:=Tryd.isAgg9
 z9:=Tryd.sizeOf9
 v9:=Tryd.zeroValue9
 t21:=Tryd.underlying21
 a21:=Tryd.isAgg21
 z21:=Tryd.sizeOf21
 v21:=Tryd.zeroValue21
 t31:=Tryd.underlying41
 a31:=Tryd.isAgg41
 z31:=Tryd.sizeOf41
 v31:=Tryd.zeroValue41
 t46:=Tryd.underlying93
 a46:=Tryd.isAgg93
 z46:=Tryd.sizeOf93
 v46:=Tryd.zeroValue93
 t51:=Tryd.underlying71
 a51:=Tryd.isAgg71
 z51:=Tryd.sizeOf71
 v51:=Tryd.zeroValue71
 t105:=Tryd.underlying88
 a105:=Tryd.isAgg88
 z105:=Tryd.sizeOf88
 v105:=Tryd.zeroValue88
 t119:=Tryd.underlying108
 a119:=Tryd.isAgg108
 z119:=Tryd.sizeOf108
 t138:=Tryd.underlying110
 a138:=Tryd.isAgg110
 z138:=Tryd.sizeOf110
 v138:=Tryd.zeroValue110
 t139:=Tryd.underlying111
 a139:=Tryd.isAgg111
 z139:=Tryd.sizeOf111
 v139:=Tryd.zeroValue111
 t146:=Tryd.underlying112
 a146:=Tryd.isAgg112
 z146:=Tryd.sizeOf112
 v146:=Tryd.zeroValue112
 g1:=by kernel_rfl
 g3:=by kernel_rfl
 g4:=by kernel_rfl
 i0:=by kernel_rfl
 i3:=by kernel_rfl
 i4:=by kernel_rfl
 i5:=by kernel_rfl
 i9:=by kernel_rfl
 i21:=by kernel_rfl
 i31:=by kernel_rfl
 i46:=by kernel_rfl
 i51:=by kernel_rfl
 i105:=by kernel_rfl
 i138:=by kernel_rfl
 i139:=by kernel_rfl
 i146:=by kernel_rfl
 m1:=by kernel_rfl
 s1_3:=fun w h=>Go.Proofs.cell_of_shapedOpen_int (zero:=#[.int .i64 0]) (t:=3) h (of_decide_eq_true (by kernel_rfl)) (by kernel_rfl) rfl (by kernel_rfl) (by kernel_rfl) Tryd.underlying3
 m3:=by kernel_rfl
 m4:=by kernel_rfl
namespace U4
theorem flat_ar{w w':World}{R R' O:Cells}{loc loc':Locs}{x:AV}{v:Value}(hx:x.flat=true)(h:AR w R loc x v O):AR w' R' loc' x v none2∧Emp O:=by
 cases h with
 |sc h e=>exact⟨.sc h emp_none2,e⟩
 |_=>simp[AV.flat]at hx
theorem parts_flat{w:World}{R R':Cells}: ∀(l:List AV)(vals:List Value)(O:Cells),l.all AV.flat=true→Parts w R noLoc l vals O→Parts w R' noLoc l vals none2∧Emp O
 |[],[],O,_,h=>⟨emp_none2,h⟩
 |[],_::_,_,_,h=>h.elim
 |_::_,[],_,_,h=>h.elim
 |x::l,v::vs,O,hf,h=>by
  simp only[List.all_cons,Bool.and_eq_true]at hf
  obtain⟨O1,O2,hO,hd,hx,hp⟩:=h
  obtain⟨h1,e1⟩:=flat_ar (w':=w) (R':=R') (loc':=noLoc) hf.1 hx
  obtain⟨h2,e2⟩:=parts_flat l vs O2 hf.2 hp
  exact⟨⟨none2,none2,fun g o=>by simp[none2],emp_none2.disj,h1,h2⟩,fun g o k=>((hO g o).1 k).elim (e1 g o) (e2 g o)⟩
def splL(s:List UInt8)(c:UInt8):List (List UInt8):=Lib.split s [c]
theorem one_str{w:World}{R O:Cells}{s:List UInt8}{v:Value}(h:AR w R noLoc (.str s) v O):v=.string ⟨s.toArray⟩∧s.length≤maxLn:=by
 cases h with
 |sc h _=>exact h
theorem one_int{w:World}{R O:Cells}{k:IntKind}{n:Int}{v:Value}(h:AR w R noLoc (.int k n) v O):v=.int k n:=by
 cases h with
 |sc h _=>exact h.1
theorem splitK_piece(sep:List UInt8): ∀(k:Nat)(s:List UInt8),∀x∈Lib.splitK sep 0 k s,x.length≤s.length
 |0,s,x,h=>by simp[Lib.splitK]at h;subst h;exact Nat.le_refl _
 |k+1,s,x,h=>by
  unfold Lib.splitK at h
  split at h
  ·simp at h;subst h;exact Nat.le_refl _
  ·rcases List.mem_cons.1 h with rfl|h
   ·simp;omega
   ·have:=splitK_piece sep k _ x h
    simp at this
    omega
theorem splL_len(s:List UInt8)(c:UInt8):(splL s c).length=s.count c+1:=by
 have:=Lib.splitB_all ⟨#[c]⟩ (show 1≤1 by omega) 0 _ ⟨s.toArray⟩ rfl
 have e:=Lib.splitB_data ⟨#[c]⟩ 0 (Lib.countB ⟨s.toArray⟩ ⟨#[c]⟩) ⟨s.toArray⟩
 unfold splL Lib.split
 rw[←Lib.count_one]
 have e2:=congrArg List.length e
 rw[List.length_map,this]at e2
 exact e2.symm
theorem count_lib(s:List UInt8)(c:UInt8):Lib.count s [c]=s.count c:=Lib.count_one c s
set_option maxHeartbeats 1000000 in
theorem c56(s:List UInt8)(c:UInt8)(hs:s.length<4294967281):Con Tryd.prog 56 [.str s,.str [c],.int .i64 0,.int .i64 (-1)] (undefs [.str s,.str [c],.int .i64 0,.int .i64 (-1)]) (ownS (splL s c)):=by
 have hcl:s.count c≤s.length:=List.count_le_length
 refine Con.fresh (splL s c) ⟨_,Tryd.func56,rfl,rfl⟩ (by rw[splL_len];unfold maxLn;omega) (fun x hx=> ?_) (fun w vals hp tb=> ?_) fun w R O vals hp=>parts_flat _ _ _ rfl hp
 ·have:=splitK_piece [c] _ s x hx
  unfold maxLn;omega
 ·obtain⟨hl,os,h4,_⟩:=uni_of_parts _ _ _ hp
  match vals,hl with
  |[v0,v1,v2,v3],_=>
   obtain rfl:=(one_str (h4 0 _ v0 rfl rfl)).1
   obtain rfl:=(one_str (h4 1 _ v1 rfl rfl)).1
   obtain rfl:=one_int (h4 2 _ v2 rfl rfl)
   obtain rfl:=one_int (h4 3 _ v3 rfl rfl)
   have hcn:Lib.countB ⟨s.toArray⟩ ⟨#[c]⟩=s.count c:=Lib.count_one c s
   have k:=Any.strings_genSplit_core (L:={lays221 with}) lays221.i9 ⟨s.toArray⟩ ⟨#[c]⟩ 0 (-1) (Lib.countB ⟨s.toArray⟩ ⟨#[c]⟩+1) w hs (show 1≤1 by omega) (Nat.zero_le _)
    (fun x cc hx=>(Any.strings_Index_one {lays221 with} x c _).mono fun e w' ⟨he,hw⟩=>⟨by rw[he,←Lib.index_one],hw⟩)
    ((Any.strings_Count_one {lays221 with} ⟨s.toArray⟩ c w).mono fun e w' ⟨he,hw⟩=>⟨by rw[he,hcn];rfl,hw⟩) (by decide) (by decide) (by
     rw[if_pos (by decide),hcn]
     have:((⟨s.toArray⟩:ByteArray).size:Int)=s.length:=rfl
     omega)
   refine k.mono fun e w' ⟨he,hw⟩=> ?_
   rw[Nat.add_sub_cancel]at he hw
   have hle:=Lib.splitB_all ⟨#[c]⟩ (show 1≤1 by omega) 0 _ ⟨s.toArray⟩ rfl
   have hda:=Lib.splitB_data ⟨#[c]⟩ 0 (Lib.countB ⟨s.toArray⟩ ⟨#[c]⟩) ⟨s.toArray⟩
   refine⟨?_,9,?_⟩
   ·rw[he,hle,splL_len,hcn]
   ·rw[hw]
    have e2:Lib.cellsOf (Lib.splitB ⟨#[c]⟩ 0 (Lib.countB ⟨s.toArray⟩ ⟨#[c]⟩) ⟨s.toArray⟩) (Lib.countB ⟨s.toArray⟩ ⟨#[c]⟩+1)=((splL s c).map fun s=>Value.string ⟨s.toArray⟩).toArray:=by
     rw[←hle,Lib.cellsOf_full]
     congr 1
     have:splL s c=(Lib.splitB ⟨#[c]⟩ 0 (Lib.countB ⟨s.toArray⟩ ⟨#[c]⟩) ⟨s.toArray⟩).map (·.data.toList):=by rw[hda];rfl
     rw[this,List.map_map]
     rfl
    rw[e2]
    rfl
theorem c46(s:List UInt8)(c:UInt8)(hs:s.length<4294967281):Con Tryd.prog 46 [.str s,.str [c]] (undefs [.str s,.str [c]]) (ownS (splL s c)):=by
 have k:=c56 s c hs
 refine Con.ev 8 T_ok mix Tryd.func46 rfl rfl rfl rfl [.tmp 4] rfl ?_
 conv=>whnf
 (iterate 9 ((first|refine rq_s (by solve|simp only[decide_eq_true_eq]|fail) ?_|apply rq_s rfl|refine fac_s (fun hf=> ?_)|apply lend_s|refine call_s (k ..) ?_);conv=>whnf));(refine rows_s (by((refine sub_all ?_;simp;done))) ?_;conv=>whnf);(refine sh_s ?_;(rfl))
end U4

/- strconv.Atoi, strings.TrimPrefix, strings.CutPrefix; the number that a text tells: contracts. -/
open Go Go.Abs Go.Proofs V1 U2
def U5.lays172_ren:Go.Shelf.Ren:=⟨fun|172=>48|244=>57|245=>58|247=>66|279=>67|280=>68|281=>69|282=>70|287=>79|316=>80|171=>39|205=>81|321=>92|322=>93|243=>53|246=>62|283=>71|284=>72|285=>73|286=>74|129=>83|317=>82|318=>84|319=>85|320=>86|337=>94|338=>95|n=>n,fun|9=>9|3=>3|75=>63|76=>64|4=>4|5=>5|167=>76|37=>28|0=>0|85=>77|2=>2|168=>79|53=>72|175=>91|46=>93|210=>96|127=>103|145=>106|143=>104|21=>21|171=>82|173=>85|212=>99|51=>71|20=>20|213=>100|232=>114|233=>115|80=>39|n=>n,fun|15=>0|16=>1|17=>2|18=>6|19=>7|n=>n⟩
theorem U5.lays172:Go.Proofs.LaysC.n172 Tryd.prog U5.lays172_ren where
 mixed:=by kernel_rfl
 f129:=Tryd.func83.trans (congrArg some (by kernel_rfl))
 f171:=Tryd.func39.trans (congrArg some (by kernel_rfl))
 f172:=Tryd.func48.trans (congrArg some (by kernel_rfl))
 f205:=Tryd.func81.trans (congrArg some (by kernel_rfl))
 f243:=Tryd.func53.trans (congrArg some (by kernel_rfl))
 f244:=Tryd.func57.trans (congrArg some (by kernel_rfl))
 f245:=Tryd.func58.trans (congrArg some (by kernel_rfl))
 f246:=Tryd.func62.trans (congrArg some (by kernel_rfl))
 f247:=Tryd.func66.trans (congrArg some (by kernel_rfl))
 f279:=Tryd.func67.trans (congrArg some (by kernel_rfl))
 f280:=Tryd.func68.trans (congrArg some (by kernel_rfl))
 f281:=Tryd.func69.trans (congrArg some (by kernel_rfl))
 f282:=Tryd.func70.trans (congrArg some (by kernel_rfl))
 f283:=Tryd.func71.trans (congrArg some (by kernel_rfl))
 f284:=Tryd.func72.trans (congrArg some (by kernel_rfl))
 f285:=Tryd.func73.trans (congrArg some (by kernel_rfl))
 f286:=Tryd.func74.trans (congrArg some (by kernel_rfl))
 f287:=Tryd.func79.trans (congrArg some (by kernel_rfl))
 f316:=Tryd.func80.trans (congrArg some (by kernel_rfl))
 f317:=Tryd.func82.trans (congrArg some (by kernel_rfl))
 f318:=Tryd.func84.trans (congrArg some (by kernel_rfl))
 f319:=Tryd.func85.trans (congrArg some (by kernel_rfl))
 f320:=Tryd.func86.trans (congrArg some (by kernel_rfl))
 f321:=Tryd.func92.trans (congrArg some (by kernel_rfl))
 f322:=Tryd.func93.trans (congrArg some (by kernel_rfl))
 f337:=Tryd.func94.trans (congrArg some (by kernel_rfl))
 f338:=Tryd.func95.trans (congrArg some (by kernel_rfl))
 t0:=Tryd.underlying0
 a0:=Tryd.isAgg0
 z0:=Tryd.sizeOf0
 v0:=Tryd.zeroValue0
 t2:=Tryd.underlying2
 a2:=Tryd.isAgg2
 z2:=Tryd.sizeOf2
 v2:=Tryd.zeroValue2
 t3:=Tryd.underlying3
 a3:=Tryd.isAgg3
 z3:=Tryd.sizeOf3
 v3:=Tryd.zeroValue3
 t4:=Tryd.underlying4
 a4:=Tryd.isAgg4
 z4:=Tryd.sizeOf4
 v4:=Tryd.zeroValue4
 t5:=Tryd.underlying5
 a5:=Tryd.isAgg5
 z5:=Tryd.sizeOf5
 v5:=Tryd.zeroValue5
 t9:=Tryd.underlying9
 a9:=Tryd.isAgg9
 z9:=Tryd.sizeOf9
 v9:=Tryd.zeroValue9
 t20:=Tryd.underlying20
 a20:=Tryd.isAgg20
 z20:=Tryd.sizeOf20
 v20:=Tryd.zeroValue20
 t21:=Tryd.underlying21
 a21:=Tryd.isAgg21
 z21:=Tryd.sizeOf21
 v21:=Tryd.zeroValue21
 t37:=Tryd.underlying28
 a37:=Tryd.isAgg28
 z37:=Tryd.sizeOf28
 v37:=Tryd.zeroValue28
 t46:=Tryd.underlying93
 a46:=Tryd.isAgg93
 z46:=Tryd.sizeOf93
 v46:=Tryd.zeroValue93
 t51:=Tryd.underlying71
 a51:=Tryd.isAgg71
 z51:=Tryd.sizeOf71
 v51:=Tryd.zeroValue71
 t53:=Tryd.underlying72
 a53:=Tryd.isAgg72
 z53:=Tryd.sizeOf72
 v53:=Tryd.zeroValue72
 t75:=Tryd.underlying63
 a75:=Tryd.isAgg63
 z75:=Tryd.sizeOf63
 v75:=Tryd.zeroValue63
 t76:=Tryd.underlying64
 a76:=Tryd.isAgg64
 z76:=Tryd.sizeOf64
 v76:=Tryd.zeroValue64
 t85:=Tryd.underlying77
 a85:=Tryd.isAgg77
 z85:=Tryd.sizeOf77
 v85:=Tryd.zeroValue77
 t127:=Tryd.underlying103
 a127:=Tryd.isAgg103
 z127:=Tryd.sizeOf103
 v127:=Tryd.zeroValue103
 t143:=Tryd.underlying104
 a143:=Tryd.isAgg104
 z143:=Tryd.sizeOf104
 v143:=Tryd.zeroValue104
 t145:=Tryd.underlying106
 a145:=Tryd.isAgg106
 z145:=Tryd.sizeOf106
 v145:=Tryd.zeroValue106
 t167:=Tryd.underlying76
 a167:=Tryd.isAgg76
 z167:=Tryd.sizeOf76
 v167:=Tryd.zeroValue76
 t168:=Tryd.underlying79
 a168:=Tryd.isAgg79
 z168:=Tryd.sizeOf79
 v168:=Tryd.zeroValue79
 t171:=Tryd.underlying82
 a171:=Tryd.isAgg82
 z171:=Tryd.sizeOf82
 v171:=Tryd.zeroValue82
 t173:=Tryd.underlying85
 a173:=Tryd.isAgg85
 z173:=Tryd.sizeOf85
 v173:=Tryd.zeroValue85
 t175:=Tryd.underlying91
 a175:=Tryd.isAgg91
 z175:=Tryd.sizeOf91
 v175:=Tryd.zeroValue91
 t210:=Tryd.underlying96
 a210:=Tryd.isAgg96
 z210:=Tryd.sizeOf96
 v210:=Tryd.zeroValue96
 t212:=Tryd.underlying99
 a212:=Tryd.isAgg99
 z212:=Tryd.sizeOf99
 v212:=Tryd.zeroValue99
 t213:=Tryd.underlying100
 a213:=Tryd.isAgg100
 z213:=Tryd.sizeOf100
 t232:=Tryd.underlying114
 a232:=Tryd.isAgg114
 z232:=Tryd.sizeOf114
 v232:=Tryd.zeroValue114
 t233:=Tryd.underlying115
 a233:=Tryd.isAgg115
 z233:=Tryd.sizeOf115
 v233:=Tryd.zeroValue115
 g15:=by kernel_rfl
 g16:=by kernel_rfl
 g17:=by kernel_rfl
 g18:=by kernel_rfl
 g19:=by kernel_rfl
 t80:=Tryd.underlying39
 a80:=Tryd.isAgg39
 z80:=Tryd.sizeOf39
 v80:=Tryd.zeroValue39
 i0:=by kernel_rfl
 i2:=by kernel_rfl
 i3:=by kernel_rfl
 i4:=by kernel_rfl
 i5:=by kernel_rfl
 i9:=by kernel_rfl
 i20:=by kernel_rfl
 i21:=by kernel_rfl
 i37:=by kernel_rfl
 i46:=by kernel_rfl
 i51:=by kernel_rfl
 i53:=by kernel_rfl
 i75:=by kernel_rfl
 i76:=by kernel_rfl
 i80:=by kernel_rfl
 i85:=by kernel_rfl
 i127:=by kernel_rfl
 i143:=by kernel_rfl
 i145:=by kernel_rfl
 i167:=by kernel_rfl
 i168:=by kernel_rfl
 i171:=by kernel_rfl
 i173:=by kernel_rfl
 i175:=by kernel_rfl
 i210:=by kernel_rfl
 i212:=by kernel_rfl
 i232:=by kernel_rfl
 i233:=by kernel_rfl
 m15:=by kernel_rfl
 m16:=by kernel_rfl
 m17:=by kernel_rfl
 m18:=by kernel_rfl
 m19:=by kernel_rfl
 c0:=by kernel_rfl
 c2:=by kernel_rfl
 c3:=by kernel_rfl
 c4:=by kernel_rfl
 c5:=by kernel_rfl
 c9:=by kernel_rfl
 c20:=by kernel_rfl
 c21:=by kernel_rfl
 c37:=by kernel_rfl
 c46:=by kernel_rfl
 c51:=by kernel_rfl
 c53:=by kernel_rfl
 c75:=by kernel_rfl
 c76:=by kernel_rfl
 c80:=by kernel_rfl
 c85:=by kernel_rfl
 c127:=by kernel_rfl
 c143:=by kernel_rfl
 c145:=by kernel_rfl
 c167:=by kernel_rfl
 c168:=by kernel_rfl
 c171:=by kernel_rfl
 c173:=by kernel_rfl
 c175:=by kernel_rfl
 c210:=by kernel_rfl
 c212:=by kernel_rfl
 c213:=by kernel_rfl
 c232:=by kernel_rfl
 c233:=by kernel_rfl
namespace U5
open Go.RowKit
theorem one_str{w:World}{R O:Cells}{s:List UInt8}{v:Value}(h:AR w R noLoc (.str s) v O):v=.string ⟨s.toArray⟩∧s.length≤maxLn:=by
 cases h with
 |sc h _=>exact h
def atoiV(s:List UInt8):AV:=match Lib.atoiAll s with
 | .ok v=>.tup [.int .i64 v,.nili]
 | .syntax=>.tup [.int .i64 0,.ifc]
 | .range=>.tup [.int .i64 (Lib.atoiSat s),.ifc]
theorem pair_ar{x y:AV}{u v:Value}(h1:SR x u)(h2:SR y v)(w:World)(R:Cells)(loc:Locs):AR w R loc (.tup [x,y]) (.tuple #[u,v]) none2:=by
 refine .tup (fun _=>none2) rfl (fun k z t hz ht=> ?_) ⟨fun g o=>⟨fun k=>k.elim,fun⟨j,_,hj⟩=>hj⟩,fun j k _ _ _=>emp_none2.disj⟩
 match k,hz,ht with
 |0,hz,ht=>simp at hz ht;subst hz;subst ht;exact .sc h1 emp_none2
 |1,hz,ht=>simp at hz ht;subst hz;subst ht;exact .sc h2 emp_none2
 |k+2,hz,_=>simp at hz
theorem Con.arB{P:Program}{f:FuncId}{xs:List AV}{res:AV}(ok:FnOk P f)
  (h: ∀(w:World)(vals:List Value),Parts w (fun _ _=>False) noLoc xs vals none2→Tabs P w none2→Calls P f vals.toArray w fun e w'=> ∃v,e=.returned v∧(∀(w:World)(R:Cells)(loc:Locs),AR w R loc res v none2)∧Below w.heap.size w w')
  (hs: ∀(w:World)(R O:Cells)(vals:List Value),Parts w R noLoc xs vals O→Parts w (fun _ _=>False) noLoc xs vals none2∧Emp O):Con P f xs (undefs xs) res:=by
 refine⟨ok,fun w R O vals hp hR hO tb=> ?_⟩
 obtain⟨hp0,hemp⟩:=hs w R O vals hp
 refine(h w vals hp0 tb.nil).mono fun e w' hb=> ?_
 obtain⟨v,rfl,hv,hw⟩:=hb
 refine⟨none2,(Frame.of_below hw).weak fun _ _ k=>k.elim,fun _ _ k=>k.elim,none2,none2,fun g o=>by simp[none2],emp_none2.disj,hv _ _ _,?_⟩
 have hl:=(uni_of_parts _ _ _ hp).1
 have: ∀(l:List AV)(vs:List Value)(w':World)(R':Cells),vs.length=l.length→Parts w' R' noLoc (undefs l) vs none2:=by
  intro l
  induction l with
  |nil=>intro vs w' R' hl;match vs,hl with|[],_=>exact emp_none2
  |cons x l ih=>
   intro vs w' R' hl
   match vs,hl with
   |v::vs,hl=>exact⟨none2,none2,fun g o=>by simp[none2],emp_none2.disj,.sc trivial emp_none2,ih vs w' R' (by simpa using hl)⟩
 exact this xs vals _ _ hl
theorem atoi_fits{s:List UInt8}{v:Int}(h:Lib.atoiAll s=.ok v):fitsK .i64 v=true:=by
 have: -9223372036854775808≤v∧v≤9223372036854775807:=by
  unfold Lib.atoiAll at h
  split at h
  ·cases h
  ·simp only at h
   split at h
   ·cases h
   ·cases h
   ·split at h
    ·cases h
    ·split at h
     ·cases h
     ·injection h with h
      split at h<;>omega
 simp[fitsK];omega
theorem sat_fits(s:List UInt8):fitsK .i64 (Lib.atoiSat s)=true:=by
 unfold Lib.atoiSat
 split<;>decide
theorem c48(s:List UInt8)(hs:s.length≤1000000):Con Tryd.prog 48 [.str s] (undefs [.str s]) (atoiV s):=by
 refine Con.arB ⟨_,Tryd.func48,rfl,rfl⟩ (fun w vals hp tb=> ?_) fun w R O vals hp=>parts_flat _ _ _ rfl hp
 obtain⟨hl,os,h4,_⟩:=uni_of_parts _ _ _ hp
 match vals,hl with
 |[v0],_=>
  obtain rfl:=(one_str (h4 0 _ v0 rfl rfl)).1
  have hsz:(⟨s.toArray⟩:ByteArray).size=s.length:=rfl
  cases ha:Lib.atoiAll s with
  |ok v=>
   refine(Any.strconv_Atoi_ok lays172 ⟨s.toArray⟩ (by omega) v ha w).mono fun e w' ⟨he,hw⟩=> ?_
   refine⟨_,he,?_,?_⟩
   ·unfold atoiV
    rw[ha]
    exact pair_ar ⟨rfl,atoi_fits ha⟩ rfl
   ·rcases hw with rfl|⟨t,rfl⟩
    ·exact Below.refl _ _
    ·exact Lib.bytesWorld_below w _ t
  |range=>
   obtain⟨te,pe,hc⟩:=tb.err (nm:= "strconv.ErrRange") (g:=lays172_ren.g 16) (by simp[errL]) (by kernel_rfl)
   refine(Any.strconv_Atoi_range lays172 ⟨s.toArray⟩ (by omega) ha _ w hc (.inr ⟨te,pe,rfl⟩)).mono fun e w' ⟨N,he,_,_,hw⟩=> ?_
   refine⟨_,he,?_,hw⟩
   unfold atoiV
   rw[ha]
   exact pair_ar ⟨rfl,sat_fits s⟩ ⟨_,_,rfl⟩
  |_=>
   obtain⟨te,pe,hc⟩:=tb.err (nm:= "strconv.ErrSyntax") (g:=lays172_ren.g 15) (by simp[errL]) (by kernel_rfl)
   refine(Any.strconv_Atoi_syntax lays172 ⟨s.toArray⟩ (by omega) ha _ w hc (.inr ⟨te,pe,rfl⟩)).mono fun e w' ⟨N,he,_,_,hw⟩=> ?_
   refine⟨_,he,?_,hw⟩
   unfold atoiV
   rw[ha]
   exact pair_ar ⟨rfl,rfl⟩ ⟨_,_,rfl⟩
end U5

/- Prefixes, the number that a text tells: contracts. -/
open Go Go.Abs Go.Proofs V1 U2 U5
namespace U6
def hasP(s p:List UInt8):Bool:=decide (p.length≤s.length)&&(s.take p.length==p)
theorem c54(s p:List UInt8):Con Tryd.prog 54 [.str s,.str p] (undefs [.str s,.str p]) (.bool (hasP s p)):=by
 refine Con.evF 18 T_ok mix Tryd.func54 rfl rfl rfl rfl [.tmp 4] rfl fun⟨hx,hy,_⟩=> ?_
 conv=>whnf
 (iterate 9 (first|(apply rq_s rfl;(conv=>whnf))|(refine rq_s (by refine and_s rfl ?_;simp only[lnm];omega) ?_;(conv=>whnf))|(apply br_t rfl;(conv=>whnf))|(refine br_s ?_ ?_<;>intro hb<;>(try simp only[cln]at hb)<;>conv=>whnf)));(focus (refine sh_s ?_;(first|(simp_all[hasP];done)|(refine congrArg AV.bool ?_;simp[hasP,hb];done)|(refine congrArg AV.bool ?_;simp[hasP];omega))));(iterate 7 ((first|apply rq_s rfl|apply br_f rfl);conv=>whnf));(focus (refine sh_s ?_;(first|(simp_all[hasP];done)|(refine congrArg AV.bool ?_;simp[hasP,hb];done)|(refine congrArg AV.bool ?_;simp[hasP];omega))))
def cutV(s p:List UInt8):AV:=.tup [.str (if hasP s p=true then s.drop p.length else s),.bool (hasP s p)]
theorem hasP_le{s p:List UInt8}(h:hasP s p=true):p.length≤s.length:=by
 simp only[hasP,Bool.and_eq_true,decide_eq_true_eq]at h;exact h.1
theorem c44(s p:List UInt8):Con Tryd.prog 44 [.str s,.str p] (undefs [.str s,.str p]) (cutV s p):=by
 unfold cutV
 cases hb:hasP s p with
 |true=>
  have hl:=hasP_le hb
  have k:=c54 s p
  rw[hb]at k
  refine Con.ev 15 T_ok mix Tryd.func44 rfl rfl rfl rfl [.tmp 4,.tmp 5] rfl ?_
  conv=>whnf
  (iterate 9 ((first|apply rq_s rfl|refine rq_s (by simp only[Bool.and_eq_true,decide_eq_true_eq,List.length_map];omega) ?_|apply br_f rfl|apply lend_s|refine call_s (k ..) ?_);conv=>whnf));(refine sh_s ?_;(simp[List.take_of_length_le]))
 |false=>
  have k:=c54 s p
  rw[hb]at k
  refine Con.ev 15 T_ok mix Tryd.func44 rfl rfl rfl rfl [.tmp 4,.tmp 5] rfl ?_
  conv=>whnf
  (iterate 7 ((first|apply rq_s rfl|apply br_t rfl|apply lend_s|refine call_s (k ..) ?_);conv=>whnf));(refine sh_s ?_;(rfl))
theorem c31(s p:List UInt8):Con Tryd.prog 31 [.str s,.str p] (undefs [.str s,.str p]) (cutV s p):=by
 have k:=c44 s p
 unfold cutV at k
 refine Con.ev 11 T_ok mix Tryd.func31 rfl rfl rfl rfl [.tmp 4,.tmp 5] rfl ?_
 conv=>whnf
 (iterate 7 ((first|apply rq_s rfl|refine fac_s (fun hf=> ?_)|apply lend_s|refine call_s (k ..) ?_);conv=>whnf));(refine sh_s ?_;(rfl))
def trimP(s p:List UInt8):List UInt8:=if hasP s p=true then s.drop p.length else s
theorem c59(s p:List UInt8):Con Tryd.prog 59 [.str s,.str p] (undefs [.str s,.str p]) (.str (trimP s p)):=by
 unfold trimP
 cases hb:hasP s p with
 |true=>
  have hl:=hasP_le hb
  have k:=c54 s p
  rw[hb]at k
  refine Con.ev 13 T_ok mix Tryd.func59 rfl rfl rfl rfl [.tmp 4] rfl ?_
  conv=>whnf
  (iterate 8 ((first|apply rq_s rfl|refine rq_s (by simp only[Bool.and_eq_true,decide_eq_true_eq,List.length_map];omega) ?_|apply br_t rfl|apply lend_s|refine call_s (k ..) ?_);conv=>whnf));(refine sh_s ?_;(simp[List.take_of_length_le]))
 |false=>
  have k:=c54 s p
  rw[hb]at k
  refine Con.ev 13 T_ok mix Tryd.func59 rfl rfl rfl rfl [.tmp 4] rfl ?_
  conv=>whnf
  (iterate 6 ((first|apply rq_s rfl|apply br_f rfl|apply lend_s|refine call_s (k ..) ?_);conv=>whnf));(refine sh_s ?_;(rfl))
theorem c49(s p:List UInt8):Con Tryd.prog 49 [.str s,.str p] (undefs [.str s,.str p]) (.str (trimP s p)):=by
 refine Con.ev 8 T_ok mix Tryd.func49 rfl rfl rfl rfl [.tmp 4] rfl ?_
 conv=>whnf
 (iterate 6 ((first|apply rq_s rfl|refine fac_s (fun hf=> ?_)|apply lend_s|refine call_s (c59 ..) ?_);conv=>whnf));(refine sh_s ?_;(rfl))
theorem hasP_neg(t:List UInt8):hasP t [45]=negT t:=by
 cases t with
 |nil=>rfl
 |cons c r=>simp[hasP,negT]
theorem trimP_neg(t:List UInt8):trimP t [45]=magT t:=by
 unfold trimP magT
 rw[hasP_neg];rfl
theorem c34(t:List UInt8)(h:t.length≤1000000):Con Tryd.prog 34 [.str t] (undefs [.str t]) (.tup [.int .i64 (numI t).1,.bool (numI t).2]):=by
 have ka:=c48 t h
 have kt:=c49 t [45]
 rw[trimP_neg]at kt
 unfold atoiV at ka
 cases ha:Lib.atoiAll t with
 |ok v=>
  rw[ha]at ka
  have e:numI t=(v,decide (Lib.itoa v=t)&&decide ((magT t).length≤18)):=by unfold numI;rw[ha]
  rw[e]
  refine Con.ev 26 T_ok mix Tryd.func34 rfl rfl rfl rfl [.tmp 2,.tmp 3] rfl ?_
  conv=>whnf
  (iterate 23 (first|(apply rq_s rfl;(conv=>whnf))|(refine fac_s (fun hf=> ?_);(conv=>whnf))|(apply br_t rfl;(conv=>whnf))|(refine br_s ?_ ?_<;>intro hb<;>(try simp only[cln]at hb)<;>conv=>whnf)|(apply lend_s;(conv=>whnf))|(refine call_s (ka ..) ?_;(conv=>whnf))|(refine call_s (kt ..) ?_;(conv=>whnf))|(refine call_s (c39 ..) ?_;(conv=>whnf))));(focus (refine sh_s ?_;(first|(simp_all;done)|(simp_all;omega))));(iterate 7 ((first|apply rq_s rfl|refine fac_s (fun hf=> ?_)|apply br_f rfl);conv=>whnf));(focus (refine sh_s ?_;(first|(simp_all;done)|(simp_all;omega))))
 |range=>
  rw[ha]at ka
  have e:numI t=(Lib.atoiSat t,false):=by unfold numI;rw[ha]
  rw[e]
  refine Con.ev 26 T_ok mix Tryd.func34 rfl rfl rfl rfl [.tmp 2,.tmp 3] rfl ?_
  conv=>whnf
  (iterate 16 ((first|apply rq_s rfl|refine fac_s (fun hf=> ?_)|apply br_f rfl|apply lend_s|refine call_s (ka ..) ?_);conv=>whnf));(focus (refine sh_s ?_;(first|rfl|(simp_all;done))))
 |_=>
  rw[ha]at ka
  have e:numI t=(0,false):=by unfold numI;rw[ha]
  rw[e]
  refine Con.ev 26 T_ok mix Tryd.func34 rfl rfl rfl rfl [.tmp 2,.tmp 3] rfl ?_
  conv=>whnf
  (iterate 16 ((first|apply rq_s rfl|refine fac_s (fun hf=> ?_)|apply br_f rfl|apply lend_s|refine call_s (ka ..) ?_);conv=>whnf));(focus (refine sh_s ?_;(first|rfl|(simp_all;done))))
end U6

/- slices.DeleteFunc on words, places in lists of words: contracts. -/
open Go Go.Abs Go.Proofs V1 U2 U4 U5 U6
namespace U7
def isE(s:List UInt8):Bool:=s==[]
theorem c47(s:List UInt8):Con Tryd.prog 47 [.str s] (undefs [.str s]) (.bool (isE s)):=by
 refine Con.ev 5 T_ok mix Tryd.func47 rfl rfl rfl rfl [.tmp 2] rfl ?_
 conv=>whnf
 (apply rq_s rfl;conv=>whnf);(refine sh_s ?_;(rfl))
theorem c55(rs:List (List UInt8)):Con Tryd.prog 55 [roS rs,.fn 47 []] (undefs [roS rs,.fn 47 []]) (.int .i64 (findI isE rs)):=by
 refine Con.evF 19 T_ok mix Tryd.func55 rfl rfl rfl rfl [.tmp 4] rfl fun⟨hx,_⟩=> ?_
 have hx:=facts_len hx
 conv=>whnf
 rotate_left
 refine LoopG.rounds (α:=Nat) T_ok mix [0,1,7,8] [] (fun i=>[(0,roS rs),(1,.fn 47 []),(7,.int .i64 rs.length),(8,.int .i64 i)]) (fun _=>[]) (fun i=>i≤rs.length∧ ∀j,j<i→isE (rs.getD j default)=false) (fun i=>rs.length-i) ?_ ?_
 ·conv=>whnf
  exact head_s 0 ⟨by simp,fun j hj=>by omega⟩ (by simp[roS]) rfl
 ·rintro i ⟨h1,h2⟩- -
  conv=>whnf
  (iterate 3 (first|(apply rq_s rfl;(conv=>whnf))|(refine rq_s (by refine and_s rfl ?_;simp only[lnm];omega) ?_;(conv=>whnf))|(refine br_s ?_ ?_<;>intro hb<;>(try simp only[cln]at hb)<;>conv=>whnf)));(refine row_s (by((try simp only[Int.toNat_natCast]);exact row_map strR _ _ _ default (by first|omega|(simp;omega)))) ?_;conv=>whnf);iterate 5 (first|(apply rq_s rfl;(conv=>whnf))|(refine br_s ?_ ?_<;>intro hb<;>(try simp only[cln]at hb)<;>conv=>whnf)|(apply lend_s;(conv=>whnf))|(refine call_s (c47 ..) ?_;(conv=>whnf)))
  iterate 2 (rotate_left)
  (apply rq_s rfl;conv=>whnf)
  rotate_left
  ·refine sh_s ?_
   rw[findI_hit default (by assumption) hb h2]
  ·refine head_s (i+1) ⟨⟨by omega,fun j hj=> ?_⟩,by omega⟩ (by rw[wrap64 (by omega) (by omega)];rfl) rfl
   by_cases hji:j=i
   ·subst hji;exact hb
   ·exact h2 j (by omega)
  ·refine sh_s ?_
   rw[findI_none default fun j hj=>h2 j (by omega)]
theorem c33(rs:List (List UInt8))(t:List UInt8):Con Tryd.prog 33 [roS rs,.str t] (undefs [roS rs,.str t]) (.int .i64 (findI (fun y=>t==y) rs)):=by
 refine Con.evF 19 T_ok mix Tryd.func33 rfl rfl rfl rfl [.tmp 4] rfl fun⟨hx,_⟩=> ?_
 have hx:=facts_len hx
 conv=>whnf
 rotate_left
 refine LoopG.rounds (α:=Nat) T_ok mix [0,1,7,8] [] (fun i=>[(0,roS rs),(1,.str t),(7,.int .i64 rs.length),(8,.int .i64 i)]) (fun _=>[]) (fun i=>i≤rs.length∧ ∀j,j<i→(fun y=>t==y) (rs.getD j default)=false) (fun i=>rs.length-i) ?_ ?_
 ·conv=>whnf
  exact head_s 0 ⟨by simp,fun j hj=>by omega⟩ (by simp[roS]) rfl
 ·rintro i ⟨h1,h2⟩- -
  conv=>whnf
  (iterate 3 (first|(apply rq_s rfl;(conv=>whnf))|(refine rq_s (by refine and_s rfl ?_;simp only[lnm];omega) ?_;(conv=>whnf))|(refine br_s ?_ ?_<;>intro hb<;>(try simp only[cln]at hb)<;>conv=>whnf)));(refine row_s (by((try simp only[Int.toNat_natCast]);exact row_map strR _ _ _ default (by first|omega|(simp;omega)))) ?_;conv=>whnf);(refine br_s ?_ ?_<;>intro hb<;>(try simp only[cln]at hb)<;>conv=>whnf);(apply rq_s rfl;conv=>whnf)
  iterate 2 (rotate_left)
  (apply rq_s rfl;conv=>whnf)
  rotate_left
  ·refine sh_s ?_
   rw[findI_hit default (by assumption) (by simpa using hb) h2]
  ·refine head_s (i+1) ⟨⟨by omega,fun j hj=> ?_⟩,by omega⟩ (by rw[wrap64 (by omega) (by omega)];rfl) rfl
   by_cases hji:j=i
   ·subst hji;simpa using hb
   ·exact h2 j (by omega)
  ·refine sh_s ?_
   rw[findI_none default fun j hj=>h2 j (by omega)]
theorem c27(rs:List (List UInt8))(t:List UInt8):Con Tryd.prog 27 [roS rs,.str t] (undefs [roS rs,.str t]) (.int .i64 (findI (fun y=>y==t) rs)):=by
 refine Con.evF 19 T_ok mix Tryd.func27 rfl rfl rfl rfl [.tmp 4] rfl fun⟨hx,_⟩=> ?_
 have hx:=facts_len hx
 conv=>whnf
 rotate_left
 refine LoopG.rounds (α:=Nat) T_ok mix [0,1,5] [] (fun i=>[(0,roS rs),(1,.str t),(5,.int .i64 i)]) (fun _=>[]) (fun i=>i≤rs.length∧ ∀j,j<i→(fun y=>y==t) (rs.getD j default)=false) (fun i=>rs.length-i) ?_ ?_
 ·conv=>whnf
  exact head_s 0 ⟨by simp,fun j hj=>by omega⟩ (by simp[roS]) rfl
 ·rintro i ⟨h1,h2⟩- -
  conv=>whnf
  (iterate 3 (first|(apply rq_s rfl;(conv=>whnf))|(refine rq_s (by refine and_s rfl ?_;simp only[lnm];omega) ?_;(conv=>whnf))|(refine br_s ?_ ?_<;>intro hb<;>(try simp only[cln]at hb)<;>conv=>whnf)));(refine row_s (by((try simp only[Int.toNat_natCast]);exact row_map strR _ _ _ default (by first|omega|(simp;omega)))) ?_;conv=>whnf);(refine br_s ?_ ?_<;>intro hb<;>(try simp only[cln]at hb)<;>conv=>whnf);(apply rq_s rfl;conv=>whnf)
  iterate 2 (rotate_left)
  (apply rq_s rfl;conv=>whnf)
  rotate_left
  ·refine sh_s ?_
   rw[findI_hit default (by assumption) (by simpa using hb) h2]
  ·refine head_s (i+1) ⟨⟨by omega,fun j hj=> ?_⟩,by omega⟩ (by rw[wrap64 (by omega) (by omega)];rfl) rfl
   by_cases hji:j=i
   ·subst hji;simpa using hb
   ·exact h2 j (by omega)
  ·refine sh_s ?_
   rw[findI_none default fun j hj=>h2 j (by omega)]
end U7

/- slices.DeleteFunc on words: contract. -/
open Go Go.Abs Go.Proofs V1 U2 U4 U5 U6 U7
namespace U8
def keepE(s:List UInt8):Bool:= !isE s
def fD(xs:List (List UInt8))(j:Nat):List (List UInt8):=(xs.take j).filter keepE
def arrD(xs:List (List UInt8))(j:Nat):List (List UInt8):=fD xs j++xs.drop (fD xs j).length
theorem fD_len(xs:List (List UInt8))(j:Nat):(fD xs j).length≤j:=Nat.le_trans (List.length_filter_le _ _) (by simp;omega)
theorem fD_le(xs:List (List UInt8))(j:Nat):(fD xs j).length≤xs.length:=Nat.le_trans (List.length_filter_le _ _) (by simp;omega)
theorem arrD_len(xs:List (List UInt8))(j:Nat):(arrD xs j).length=xs.length:=by
 have:=fD_le xs j
 simp only[arrD,List.length_append,List.length_drop];omega
theorem arrD_at{xs:List (List UInt8)}{j:Nat}(h:j<xs.length):(arrD xs j).getD j default=xs[j]:=by
 have:=fD_len xs j
 rw[List.getD_eq_getElem?_getD,arrD,List.getElem?_append_right (by omega),List.getElem?_drop,show(fD xs j).length+(j-(fD xs j).length)=j by omega,List.getElem?_eq_getElem h];rfl
theorem fD_yes{xs:List (List UInt8)}{j:Nat}(h:j<xs.length)(hk:isE xs[j]=false):fD xs (j+1)=fD xs j++[xs[j]]:=by
 unfold fD
 rw[List.take_succ_eq_append_getElem h,List.filter_append]
 simp[keepE,hk]
theorem fD_no{xs:List (List UInt8)}{j:Nat}(h:j<xs.length)(hk:isE xs[j]=true):fD xs (j+1)=fD xs j:=by
 unfold fD
 rw[List.take_succ_eq_append_getElem h,List.filter_append]
 simp[keepE,hk]
theorem arrD_yes{xs:List (List UInt8)}{j:Nat}(h:j<xs.length)(hk:isE xs[j]=false):(arrD xs j).set (fD xs j).length xs[j]=arrD xs (j+1):=by
 have hl:=fD_len xs j
 unfold arrD
 rw[fD_yes h hk,List.set_append_right _ _ (by omega),Nat.sub_self]
 have hd:xs.drop (fD xs j).length=xs[(fD xs j).length]'(by omega)::xs.drop ((fD xs j).length+1):=List.drop_eq_getElem_cons (by omega)
 rw[hd,List.set_cons_zero,List.length_append,List.append_assoc]
 rfl
theorem set_str(ys:List (List UInt8))(i:Nat)(z:List AV)(v:List UInt8)(h:i<ys.length):setRow (ys.map strR) i 0 z [.str v]=(ys.set i v).map strR:=by
 simp[setRow,setCells,rowA,List.getD_eq_getElem?_getD,h,strR,List.map_set]
theorem fD_first{xs:List (List UInt8)}{i:Nat}(h:i<xs.length)(hn: ∀j,j<i→isE (xs.getD j default)=false): ∀k,k≤i→fD xs k=xs.take k
 |0,_=>rfl
 |k+1,hk=>by
  have hkx:k<xs.length:=by omega
  have e:isE xs[k]=false:=by
   have:=hn k (by omega)
   rwa [List.getD_eq_getElem?_getD,List.getElem?_eq_getElem hkx]at this
  rw[fD_yes hkx e,fD_first h hn k (by omega),List.take_succ_eq_append_getElem hkx]
theorem find_at{xs:List (List UInt8)}(h:findI isE xs≠ -1): ∃i:Nat,findI isE xs=i∧i<xs.length∧(fD xs (i+1)).length=i∧arrD xs (i+1)=xs:=by
 unfold findI at h⊢
 cases hf:xs.findIdx? isE with
 |none=>rw[hf]at h;exact absurd rfl h
 |some i=>
  obtain⟨hi,he,hn⟩:=List.findIdx?_eq_some_iff_getElem.1 hf
  have hfi:fD xs i=xs.take i:=fD_first hi (fun j hj=>by
   have hjx:j<xs.length:=by omega
   have:=hn j hj
   rw[List.getD_eq_getElem?_getD,List.getElem?_eq_getElem hjx]
   simpa using this) i (Nat.le_refl _)
  have hl:(fD xs i).length=i:=by rw[hfi];simp;omega
  refine⟨i,rfl,hi,by rw[fD_no hi he,hl],?_⟩
  unfold arrD
  rw[fD_no hi he,hl,hfi,List.take_append_drop]
theorem find_none{xs:List (List UInt8)}(h:findI isE xs= -1):xs.filter keepE=xs:=by
 unfold findI at h
 cases hf:xs.findIdx? isE with
 |some i=>rw[hf]at h;simp at h
 |none=>
  rw[List.findIdx?_eq_none_iff]at hf
  exact List.filter_eq_self.2 fun x hx=>by simp[keepE,hf x hx]
theorem c45(xs:List (List UInt8))(h:xs.length≤1000000):Con Tryd.prog 45 [ownS xs,.fn 47 []] (undefs [ownS xs,.fn 47 []]) (ownS (xs.filter keepE)):=by
 have ki:=c55 xs
 refine Con.ev 42 T_ok mix Tryd.func45 rfl rfl rfl rfl [.tmp 4] rfl ?_
 conv=>whnf
 (iterate 4 ((first|refine rq_s (by solve|simp only[lnm]|fail) ?_|apply rq_s rfl|apply lend_s);conv=>whnf));(refine rows_s (by((refine sub_all ?_;simp[List.length_map];done))) ?_;conv=>whnf);(iterate 5 (first|(refine rq_s (by solve|simp only[lnm]|fail) ?_;(conv=>whnf))|(apply rq_s rfl;(conv=>whnf))|(refine fac_s (fun hf=> ?_);(conv=>whnf))|(refine br_s ?_ ?_<;>intro hb<;>(try simp only[cln]at hb)<;>conv=>whnf)|(refine call_s (ki ..) ?_;(conv=>whnf))));(refine rows_s (by((refine sub_all ?_;simp[List.length_map];done))) ?_;conv=>whnf)
 iterate 2 (rotate_left)
 ·rw[find_none hb];exact sh_s rfl
 ·obtain⟨i0,e0,hi0,hl0,ha0⟩:=find_at hb
  refine LoopG.auto (α:=Nat) T_ok mix [0,1,5,6] (fun j=>[(0,.ref 1 0 xs.length),(1,.fn 47 []),(5,.int .i64 (fD xs j).length),(6,.int .i64 j)]) (fun j=>[(1,.live ⟨true,0,[.str []],(arrD xs j).map strR⟩)]) (fun j=>j≤xs.length) (fun j=>xs.length-j) ?_ ?_
  ·conv=>whnf
   (apply ChkS.mk (by kernel_rfl);conv=>whnf)
   rotate_left
   refine head_s (i0+1) (by omega) ?_ ?_
   ·rw[e0,hl0,wrap64 (by omega) (by omega)];simp
   ·rw[ha0]
  ·intro j hj _ _
   have hfl:=fD_len xs j
   have hal:=arrD_len xs j
   conv=>whnf
   (iterate 4 (first|(refine rq_s (by solve|simp only[lnm]|fail) ?_;(conv=>whnf))|(apply rq_s rfl;(conv=>whnf))|(refine rq_s (by refine and_s rfl ?_;simp only[lnm];omega) ?_;(conv=>whnf))|(refine br_s ?_ ?_<;>intro hb<;>(try simp only[cln]at hb)<;>conv=>whnf)));(refine row_s (by((try simp only[Int.toNat_natCast]);exact row_map strR _ _ _ default (by first|omega|(simp;omega)))) ?_;conv=>whnf);iterate 9 (first|(refine rq_s (by solve|simp only[lnm]|fail) ?_;(conv=>whnf))|(apply rq_s rfl;(conv=>whnf))|(refine rq_s (by refine and_s rfl ?_;simp only[lnm];omega) ?_;(conv=>whnf))|(apply rows_s rfl;(conv=>whnf))|(refine ChkS.mk (by kernel_rfl) ?_;(conv=>whnf))|(refine br_s ?_ ?_<;>intro hb<;>(try simp only[cln]at hb)<;>conv=>whnf)|(apply lend_s;(conv=>whnf))|(refine call_s (c47 ..) ?_;(conv=>whnf)))
   rotate_left
   (apply ChkS.mk (by kernel_rfl);conv=>whnf)
   rotate_left
   iterate 14 ((first|refine rq_s (by solve|simp only[lnm]|fail) ?_|apply rq_s rfl|refine rq_s (by refine and_s rfl ?_;simp only[lnm];omega) ?_|refine rq_s (by simp only[Bool.and_eq_true,decide_eq_true_eq,List.length_map];omega) ?_|apply rows_s rfl);conv=>whnf)
   rotate_left
   ·have hjx:j<xs.length:=by assumption
    have hx:=arrD_at hjx
    simp only[Nat.zero_add]at hb
    rw[hx]at hb
    refine head_s (j+1) ⟨by omega,by omega⟩ ?_ (congrArg (fun r=>[(1,MB.live ⟨true,0,[.str []],r⟩)]) ?_)
    ·rw[fD_yes hjx hb,List.length_append,wrap64 (by omega) (by omega),wrap64 (by omega) (by omega)];rfl
    ·simp only[Nat.zero_add,Int.toNat_natCast]
     rw[set_str _ _ _ _ (by omega),hx,arrD_yes hjx hb]
   ·have hjx:j<xs.length:=by assumption
    have hx:=arrD_at hjx
    simp only[Nat.zero_add]at hb
    rw[hx]at hb
    refine head_s (j+1) ⟨by omega,by omega⟩ ?_ (congrArg (fun r=>[(1,MB.live ⟨true,0,[.str []],r⟩)]) ?_)
    ·rw[fD_no hjx hb,wrap64 (by omega) (by omega)];rfl
    ·unfold arrD
     rw[fD_no hjx hb]
   ·obtain rfl:j=xs.length:=by omega
    refine sh_s (congrArg (AV.own 0 [.str []]) ?_)
    have he:fD xs xs.length=xs.filter keepE:=by unfold fD;rw[List.take_length]
    have ht:(arrD xs xs.length).take (fD xs xs.length).length=fD xs xs.length:=by unfold arrD;exact List.take_left' rfl
    simp only[subA,Nat.zero_add,Nat.sub_zero,Int.toNat_natCast,List.drop_zero,List.append_assoc]
    rw[List.take_append_of_le_length (by simp[hal];omega),List.take_take,Nat.min_self,←List.map_take,ht,he]
end U8
