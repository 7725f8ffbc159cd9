import Derived.Test.YtiadohfbemjfkaaDoorRaA
import Derived.Test.YtiadohfbemjfkaaDoorAbsq
import Derived.Shelf.Strconv.AtoiAll
import Derived.Shelf.LaysC
import Derived.Test.YtiadohfbemjfkaaDoorAbsi
/- strconv.Atoi, strings.TrimPrefix, strings.CutPrefix; the number that a text tells: contracts. -/
set_option linter.unusedVariables false
set_option linter.unusedSimpArgs false
set_option maxRecDepth 100000
open Go Go.Abs Go.Proofs V1 U2
def U5.lays172_ren:Go.Shelf.Ren:=⟨fun|172=>48|244=>57|245=>58|247=>66|279=>67|280=>68|281=>69|282=>70|287=>79|316=>80|171=>39|205=>81|321=>92|322=>93|243=>53|246=>62|283=>71|284=>72|285=>73|286=>74|129=>83|317=>82|318=>84|319=>85|320=>86|337=>94|338=>95|n=>n,fun|9=>9|3=>3|75=>63|76=>64|4=>4|5=>5|167=>76|37=>28|0=>0|85=>77|2=>2|168=>79|53=>72|175=>91|46=>93|210=>96|127=>103|145=>106|143=>104|21=>21|171=>82|173=>85|212=>99|51=>71|20=>20|213=>100|232=>114|233=>115|80=>39|n=>n,fun|15=>0|16=>1|17=>2|18=>6|19=>7|n=>n⟩
theorem U5.lays172:Go.Proofs.LaysC.n172 Tryd.prog U5.lays172_ren where
 mixed:=by kernel_rfl
 f129:=Tryd.func83.trans (congrArg some (by kernel_rfl))
 f171:=Tryd.func39.trans (congrArg some (by kernel_rfl))
 f172:=Tryd.func48.trans (congrArg some (by kernel_rfl))
 f205:=Tryd.func81.trans (congrArg some (by kernel_rfl))
 f243:=Tryd.func53.trans (congrArg some (by kernel_rfl))
 f244:=Tryd.func57.trans (congrArg some (by kernel_rfl))
 f245:=Tryd.func58.trans (congrArg some (by kernel_rfl))
 f246:=Tryd.func62.trans (congrArg some (by kernel_rfl))
 f247:=Tryd.func66.trans (congrArg some (by kernel_rfl))
 f279:=Tryd.func67.trans (congrArg some (by kernel_rfl))
 f280:=Tryd.func68.trans (congrArg some (by kernel_rfl))
 f281:=Tryd.func69.trans (congrArg some (by kernel_rfl))
 f282:=Tryd.func70.trans (congrArg some (by kernel_rfl))
 f283:=Tryd.func71.trans (congrArg some (by kernel_rfl))
 f284:=Tryd.func72.trans (congrArg some (by kernel_rfl))
 f285:=Tryd.func73.trans (congrArg some (by kernel_rfl))
 f286:=Tryd.func74.trans (congrArg some (by kernel_rfl))
 f287:=Tryd.func79.trans (congrArg some (by kernel_rfl))
 f316:=Tryd.func80.trans (congrArg some (by kernel_rfl))
 f317:=Tryd.func82.trans (congrArg some (by kernel_rfl))
 f318:=Tryd.func84.trans (congrArg some (by kernel_rfl))
 f319:=Tryd.func85.trans (congrArg some (by kernel_rfl))
 f320:=Tryd.func86.trans (congrArg some (by kernel_rfl))
 f321:=Tryd.func92.trans (congrArg some (by kernel_rfl))
 f322:=Tryd.func93.trans (congrArg some (by kernel_rfl))
 f337:=Tryd.func94.trans (congrArg some (by kernel_rfl))
 f338:=Tryd.func95.trans (congrArg some (by kernel_rfl))
 t0:=Tryd.underlying0
 a0:=Tryd.isAgg0
 z0:=Tryd.sizeOf0
 v0:=Tryd.zeroValue0
 t2:=Tryd.underlying2
 a2:=Tryd.isAgg2
 z2:=Tryd.sizeOf2
 v2:=Tryd.zeroValue2
 t3:=Tryd.underlying3
 a3:=Tryd.isAgg3
 z3:=Tryd.sizeOf3
 v3:=Tryd.zeroValue3
 t4:=Tryd.underlying4
 a4:=Tryd.isAgg4
 z4:=Tryd.sizeOf4
 v4:=Tryd.zeroValue4
 t5:=Tryd.underlying5
 a5:=Tryd.isAgg5
 z5:=Tryd.sizeOf5
 v5:=Tryd.zeroValue5
 t9:=Tryd.underlying9
 a9:=Tryd.isAgg9
 z9:=Tryd.sizeOf9
 v9:=Tryd.zeroValue9
 t20:=Tryd.underlying20
 a20:=Tryd.isAgg20
 z20:=Tryd.sizeOf20
 v20:=Tryd.zeroValue20
 t21:=Tryd.underlying21
 a21:=Tryd.isAgg21
 z21:=Tryd.sizeOf21
 v21:=Tryd.zeroValue21
 t37:=Tryd.underlying28
 a37:=Tryd.isAgg28
 z37:=Tryd.sizeOf28
 v37:=Tryd.zeroValue28
 t46:=Tryd.underlying93
 a46:=Tryd.isAgg93
 z46:=Tryd.sizeOf93
 v46:=Tryd.zeroValue93
 t51:=Tryd.underlying71
 a51:=Tryd.isAgg71
 z51:=Tryd.sizeOf71
 v51:=Tryd.zeroValue71
 t53:=Tryd.underlying72
 a53:=Tryd.isAgg72
 z53:=Tryd.sizeOf72
 v53:=Tryd.zeroValue72
 t75:=Tryd.underlying63
 a75:=Tryd.isAgg63
 z75:=Tryd.sizeOf63
 v75:=Tryd.zeroValue63
 t76:=Tryd.underlying64
 a76:=Tryd.isAgg64
 z76:=Tryd.sizeOf64
 v76:=Tryd.zeroValue64
 t85:=Tryd.underlying77
 a85:=Tryd.isAgg77
 z85:=Tryd.sizeOf77
 v85:=Tryd.zeroValue77
 t127:=Tryd.underlying103
 a127:=Tryd.isAgg103
 z127:=Tryd.sizeOf103
 v127:=Tryd.zeroValue103
 t143:=Tryd.underlying104
 a143:=Tryd.isAgg104
 z143:=Tryd.sizeOf104
 v143:=Tryd.zeroValue104
 t145:=Tryd.underlying106
 a145:=Tryd.isAgg106
 z145:=Tryd.sizeOf106
 v145:=Tryd.zeroValue106
 t167:=Tryd.underlying76
 a167:=Tryd.isAgg76
 z167:=Tryd.sizeOf76
 v167:=Tryd.zeroValue76
 t168:=Tryd.underlying79
 a168:=Tryd.isAgg79
 z168:=Tryd.sizeOf79
 v168:=Tryd.zeroValue79
 t171:=Tryd.underlying82
 a171:=Tryd.isAgg82
 z171:=Tryd.sizeOf82
 v171:=Tryd.zeroValue82
 t173:=Tryd.underlying85
 a173:=Tryd.isAgg85
 z173:=Tryd.sizeOf85
 v173:=Tryd.zeroValue85
 t175:=Tryd.underlying91
 a175:=Tryd.isAgg91
 z175:=Tryd.sizeOf91
 v175:=Tryd.zeroValue91
 t210:=Tryd.underlying96
 a210:=Tryd.isAgg96
 z210:=Tryd.sizeOf96
 v210:=Tryd.zeroValue96
 t212:=Tryd.underlying99
 a212:=Tryd.isAgg99
 z212:=Tryd.sizeOf99
 v212:=Tryd.zeroValue99
 t213:=Tryd.underlying100
 a213:=Tryd.isAgg100
 z213:=Tryd.sizeOf100
 t232:=Tryd.underlying114
 a232:=Tryd.isAgg114
 z232:=Tryd.sizeOf114
 v232:=Tryd.zeroValue114
 t233:=Tryd.underlying115
 a233:=Tryd.isAgg115
 z233:=Tryd.sizeOf115
 v233:=Tryd.zeroValue115
 g15:=by kernel_rfl
 g16:=by kernel_rfl
 g17:=by kernel_rfl
 g18:=by kernel_rfl
 g19:=by kernel_rfl
 t80:=Tryd.underlying39
 a80:=Tryd.isAgg39
 z80:=Tryd.sizeOf39
 v80:=Tryd.zeroValue39
 i0:=by kernel_rfl
 i2:=by kernel_rfl
 i3:=by kernel_rfl
 i4:=by kernel_rfl
 i5:=by kernel_rfl
 i9:=by kernel_rfl
 i20:=by kernel_rfl
 i21:=by kernel_rfl
 i37:=by kernel_rfl
 i46:=by kernel_rfl
 i51:=by kernel_rfl
 i53:=by kernel_rfl
 i75:=by kernel_rfl
 i76:=by kernel_rfl
 i80:=by kernel_rfl
 i85:=by kernel_rfl
 i127:=by kernel_rfl
 i143:=by kernel_rfl
 i145:=by kernel_rfl
 i167:=by kernel_rfl
 i168:=by kernel_rfl
 i171:=by kernel_rfl
 i173:=by kernel_rfl
 i175:=by kernel_rfl
 i210:=by kernel_rfl
 i212:=by kernel_rfl
 i232:=by kernel_rfl
 i233:=by kernel_rfl
 m15:=by kernel_rfl
 m16:=by kernel_rfl
 m17:=by kernel_rfl
 m18:=by kernel_rfl
 m19:=by kernel_rfl
 c0:=by kernel_rfl
 c2:=by kernel_rfl
 c3:=by kernel_rfl
 c4:=by kernel_rfl
 c5:=by kernel_rfl
 c9:=by kernel_rfl
 c20:=by kernel_rfl
 c21:=by kernel_rfl
 c37:=by kernel_rfl
 c46:=by kernel_rfl
 c51:=by kernel_rfl
 c53:=by kernel_rfl
 c75:=by kernel_rfl
 c76:=by kernel_rfl
 c80:=by kernel_rfl
 c85:=by kernel_rfl
 c127:=by kernel_rfl
 c143:=by kernel_rfl
 c145:=by kernel_rfl
 c167:=by kernel_rfl
 c168:=by kernel_rfl
 c171:=by kernel_rfl
 c173:=by kernel_rfl
 c175:=by kernel_rfl
 c210:=by kernel_rfl
 c212:=by kernel_rfl
 c213:=by kernel_rfl
 c232:=by kernel_rfl
 c233:=by kernel_rfl
namespace U5
open Go.RowKit
theorem one_str{w:World}{R O:Cells}{s:List UInt8}{v:Value}(h:AR w R noLoc (.str s) v O):v=.string ⟨s.toArray⟩∧s.length≤maxLn:=by
 cases h with
 |sc h _=>exact h
def atoiV(s:List UInt8):AV:=match Lib.atoiAll s with
 | .ok v=>.tup [.int .i64 v,.nili]
 | .syntax=>.tup [.int .i64 0,.ifc]
 | .range=>.tup [.int .i64 (Lib.atoiSat s),.ifc]
theorem pair_ar{x y:AV}{u v:Value}(h1:SR x u)(h2:SR y v)(w:World)(R:Cells)(loc:Locs):AR w R loc (.tup [x,y]) (.tuple #[u,v]) none2:=by
 refine .tup (fun _=>none2) rfl (fun k z t hz ht=> ?_) ⟨fun g o=>⟨fun k=>k.elim,fun⟨j,_,hj⟩=>hj⟩,fun j k _ _ _=>emp_none2.disj⟩
 match k,hz,ht with
 |0,hz,ht=>simp at hz ht;subst hz;subst ht;exact .sc h1 emp_none2
 |1,hz,ht=>simp at hz ht;subst hz;subst ht;exact .sc h2 emp_none2
 |k+2,hz,_=>simp at hz
theorem Con.arB{P:Program}{f:FuncId}{xs:List AV}{res:AV}(ok:FnOk P f)
  (h: ∀(w:World)(vals:List Value),Parts w (fun _ _=>False) noLoc xs vals none2→Tabs P w none2→Calls P f vals.toArray w fun e w'=> ∃v,e=.returned v∧(∀(w:World)(R:Cells)(loc:Locs),AR w R loc res v none2)∧Below w.heap.size w w')
  (hs: ∀(w:World)(R O:Cells)(vals:List Value),Parts w R noLoc xs vals O→Parts w (fun _ _=>False) noLoc xs vals none2∧Emp O):Con P f xs (undefs xs) res:=by
 refine⟨ok,fun w R O vals hp hR hO tb=> ?_⟩
 obtain⟨hp0,hemp⟩:=hs w R O vals hp
 refine(h w vals hp0 tb.nil).mono fun e w' hb=> ?_
 obtain⟨v,rfl,hv,hw⟩:=hb
 refine⟨none2,(Frame.of_below hw).weak fun _ _ k=>k.elim,fun _ _ k=>k.elim,none2,none2,fun g o=>by simp[none2],emp_none2.disj,hv _ _ _,?_⟩
 have hl:=(uni_of_parts _ _ _ hp).1
 have: ∀(l:List AV)(vs:List Value)(w':World)(R':Cells),vs.length=l.length→Parts w' R' noLoc (undefs l) vs none2:=by
  intro l
  induction l with
  |nil=>intro vs w' R' hl;match vs,hl with|[],_=>exact emp_none2
  |cons x l ih=>
   intro vs w' R' hl
   match vs,hl with
   |v::vs,hl=>exact⟨none2,none2,fun g o=>by simp[none2],emp_none2.disj,.sc trivial emp_none2,ih vs w' R' (by simpa using hl)⟩
 exact this xs vals _ _ hl
theorem atoi_fits{s:List UInt8}{v:Int}(h:Lib.atoiAll s=.ok v):fitsK .i64 v=true:=by
 have: -9223372036854775808≤v∧v≤9223372036854775807:=by
  unfold Lib.atoiAll at h
  split at h
  ·cases h
  ·simp only at h
   split at h
   ·cases h
   ·cases h
   ·split at h
    ·cases h
    ·split at h
     ·cases h
     ·injection h with h
      split at h<;>omega
 simp[fitsK];omega
theorem sat_fits(s:List UInt8):fitsK .i64 (Lib.atoiSat s)=true:=by
 unfold Lib.atoiSat
 split<;>decide
theorem c48(s:List UInt8)(hs:s.length≤1000000):Con Tryd.prog 48 [.str s] (undefs [.str s]) (atoiV s):=by
 refine Con.arB ⟨_,Tryd.func48,rfl,rfl⟩ (fun w vals hp tb=> ?_) fun w R O vals hp=>parts_flat _ _ _ rfl hp
 obtain⟨hl,os,h4,_⟩:=uni_of_parts _ _ _ hp
 match vals,hl with
 |[v0],_=>
  obtain rfl:=(one_str (h4 0 _ v0 rfl rfl)).1
  have hsz:(⟨s.toArray⟩:ByteArray).size=s.length:=rfl
  cases ha:Lib.atoiAll s with
  |ok v=>
   refine(Any.strconv_Atoi_ok lays172 ⟨s.toArray⟩ (by omega) v ha w).mono fun e w' ⟨he,hw⟩=> ?_
   refine⟨_,he,?_,?_⟩
   ·unfold atoiV
    rw[ha]
    exact pair_ar ⟨rfl,atoi_fits ha⟩ rfl
   ·rcases hw with rfl|⟨t,rfl⟩
    ·exact Below.refl _ _
    ·exact Lib.bytesWorld_below w _ t
  |range=>
   obtain⟨te,pe,hc⟩:=tb.err (nm:= "strconv.ErrRange") (g:=lays172_ren.g 16) (by simp[errL]) (by kernel_rfl)
   refine(Any.strconv_Atoi_range lays172 ⟨s.toArray⟩ (by omega) ha _ w hc (.inr ⟨te,pe,rfl⟩)).mono fun e w' ⟨N,he,_,_,hw⟩=> ?_
   refine⟨_,he,?_,hw⟩
   unfold atoiV
   rw[ha]
   exact pair_ar ⟨rfl,sat_fits s⟩ ⟨_,_,rfl⟩
  |_=>
   obtain⟨te,pe,hc⟩:=tb.err (nm:= "strconv.ErrSyntax") (g:=lays172_ren.g 15) (by simp[errL]) (by kernel_rfl)
   refine(Any.strconv_Atoi_syntax lays172 ⟨s.toArray⟩ (by omega) ha _ w hc (.inr ⟨te,pe,rfl⟩)).mono fun e w' ⟨N,he,_,_,hw⟩=> ?_
   refine⟨_,he,?_,hw⟩
   unfold atoiV
   rw[ha]
   exact pair_ar ⟨rfl,rfl⟩ ⟨_,_,rfl⟩
end U5

/- Prefixes, the number that a text tells: contracts. -/
open Go Go.Abs Go.Proofs V1 U2 U5
namespace U6
def hasP(s p:List UInt8):Bool:=decide (p.length≤s.length)&&(s.take p.length==p)
theorem c54(s p:List UInt8):Con Tryd.prog 54 [.str s,.str p] (undefs [.str s,.str p]) (.bool (hasP s p)):=by
 refine Con.evF 18 T_ok mix Tryd.func54 rfl rfl rfl rfl [.tmp 4] rfl fun⟨hx,hy,_⟩=> ?_
 conv=>whnf
 (iterate 9 (first|(apply rq_s rfl;(conv=>whnf))|(refine rq_s (by refine and_s rfl ?_;simp only[lnm];omega) ?_;(conv=>whnf))|(apply br_t rfl;(conv=>whnf))|(refine br_s ?_ ?_<;>intro hb<;>(try simp only[cln]at hb)<;>conv=>whnf)));(focus (refine sh_s ?_;(first|(simp_all[hasP];done)|(refine congrArg AV.bool ?_;simp[hasP,hb];done)|(refine congrArg AV.bool ?_;simp[hasP];omega))));(iterate 7 ((first|apply rq_s rfl|apply br_f rfl);conv=>whnf));(focus (refine sh_s ?_;(first|(simp_all[hasP];done)|(refine congrArg AV.bool ?_;simp[hasP,hb];done)|(refine congrArg AV.bool ?_;simp[hasP];omega))))
def cutV(s p:List UInt8):AV:=.tup [.str (if hasP s p=true then s.drop p.length else s),.bool (hasP s p)]
theorem hasP_le{s p:List UInt8}(h:hasP s p=true):p.length≤s.length:=by
 simp only[hasP,Bool.and_eq_true,decide_eq_true_eq]at h;exact h.1
theorem c44(s p:List UInt8):Con Tryd.prog 44 [.str s,.str p] (undefs [.str s,.str p]) (cutV s p):=by
 unfold cutV
 cases hb:hasP s p with
 |true=>
  have hl:=hasP_le hb
  have k:=c54 s p
  rw[hb]at k
  refine Con.ev 15 T_ok mix Tryd.func44 rfl rfl rfl rfl [.tmp 4,.tmp 5] rfl ?_
  conv=>whnf
  (iterate 9 ((first|apply rq_s rfl|refine rq_s (by simp only[Bool.and_eq_true,decide_eq_true_eq,List.length_map];omega) ?_|apply br_f rfl|apply lend_s|refine call_s (k ..) ?_);conv=>whnf));(refine sh_s ?_;(simp[List.take_of_length_le]))
 |false=>
  have k:=c54 s p
  rw[hb]at k
  refine Con.ev 15 T_ok mix Tryd.func44 rfl rfl rfl rfl [.tmp 4,.tmp 5] rfl ?_
  conv=>whnf
  (iterate 7 ((first|apply rq_s rfl|apply br_t rfl|apply lend_s|refine call_s (k ..) ?_);conv=>whnf));(refine sh_s ?_;(rfl))
theorem c31(s p:List UInt8):Con Tryd.prog 31 [.str s,.str p] (undefs [.str s,.str p]) (cutV s p):=by
 have k:=c44 s p
 unfold cutV at k
 refine Con.ev 11 T_ok mix Tryd.func31 rfl rfl rfl rfl [.tmp 4,.tmp 5] rfl ?_
 conv=>whnf
 (iterate 7 ((first|apply rq_s rfl|refine fac_s (fun hf=> ?_)|apply lend_s|refine call_s (k ..) ?_);conv=>whnf));(refine sh_s ?_;(rfl))
def trimP(s p:List UInt8):List UInt8:=if hasP s p=true then s.drop p.length else s
theorem c59(s p:List UInt8):Con Tryd.prog 59 [.str s,.str p] (undefs [.str s,.str p]) (.str (trimP s p)):=by
 unfold trimP
 cases hb:hasP s p with
 |true=>
  have hl:=hasP_le hb
  have k:=c54 s p
  rw[hb]at k
  refine Con.ev 13 T_ok mix Tryd.func59 rfl rfl rfl rfl [.tmp 4] rfl ?_
  conv=>whnf
  (iterate 8 ((first|apply rq_s rfl|refine rq_s (by simp only[Bool.and_eq_true,decide_eq_true_eq,List.length_map];omega) ?_|apply br_t rfl|apply lend_s|refine call_s (k ..) ?_);conv=>whnf));(refine sh_s ?_;(simp[List.take_of_length_le]))
 |false=>
  have k:=c54 s p
  rw[hb]at k
  refine Con.ev 13 T_ok mix Tryd.func59 rfl rfl rfl rfl [.tmp 4] rfl ?_
  conv=>whnf
  (iterate 6 ((first|apply rq_s rfl|apply br_f rfl|apply lend_s|refine call_s (k ..) ?_);conv=>whnf));(refine sh_s ?_;(rfl))
theorem c49(s p:List UInt8):Con Tryd.prog 49 [.str s,.str p] (undefs [.str s,.str p]) (.str (trimP s p)):=by
 refine Con.ev 8 T_ok mix Tryd.func49 rfl rfl rfl rfl [.tmp 4] rfl ?_
 conv=>whnf
 (iterate 6 ((first|apply rq_s rfl|refine fac_s (fun hf=> ?_)|apply lend_s|refine call_s (c59 ..) ?_);conv=>whnf));(refine sh_s ?_;(rfl))
theorem hasP_neg(t:List UInt8):hasP t [45]=negT t:=by
 cases t with
 |nil=>rfl
 |cons c r=>simp[hasP,negT]
theorem trimP_neg(t:List UInt8):trimP t [45]=magT t:=by
 unfold trimP magT
 rw[hasP_neg];rfl
theorem c34(t:List UInt8)(h:t.length≤1000000):Con Tryd.prog 34 [.str t] (undefs [.str t]) (.tup [.int .i64 (numI t).1,.bool (numI t).2]):=by
 have ka:=c48 t h
 have kt:=c49 t [45]
 rw[trimP_neg]at kt
 unfold atoiV at ka
 cases ha:Lib.atoiAll t with
 |ok v=>
  rw[ha]at ka
  have e:numI t=(v,decide (Lib.itoa v=t)&&decide ((magT t).length≤18)):=by unfold numI;rw[ha]
  rw[e]
  refine Con.ev 26 T_ok mix Tryd.func34 rfl rfl rfl rfl [.tmp 2,.tmp 3] rfl ?_
  conv=>whnf
  (iterate 23 (first|(apply rq_s rfl;(conv=>whnf))|(refine fac_s (fun hf=> ?_);(conv=>whnf))|(apply br_t rfl;(conv=>whnf))|(refine br_s ?_ ?_<;>intro hb<;>(try simp only[cln]at hb)<;>conv=>whnf)|(apply lend_s;(conv=>whnf))|(refine call_s (ka ..) ?_;(conv=>whnf))|(refine call_s (kt ..) ?_;(conv=>whnf))|(refine call_s (c39 ..) ?_;(conv=>whnf))));(focus (refine sh_s ?_;(first|(simp_all;done)|(simp_all;omega))));(iterate 7 ((first|apply rq_s rfl|refine fac_s (fun hf=> ?_)|apply br_f rfl);conv=>whnf));(focus (refine sh_s ?_;(first|(simp_all;done)|(simp_all;omega))))
 |range=>
  rw[ha]at ka
  have e:numI t=(Lib.atoiSat t,false):=by unfold numI;rw[ha]
  rw[e]
  refine Con.ev 26 T_ok mix Tryd.func34 rfl rfl rfl rfl [.tmp 2,.tmp 3] rfl ?_
  conv=>whnf
  (iterate 16 ((first|apply rq_s rfl|refine fac_s (fun hf=> ?_)|apply br_f rfl|apply lend_s|refine call_s (ka ..) ?_);conv=>whnf));(focus (refine sh_s ?_;(first|rfl|(simp_all;done))))
 |_=>
  rw[ha]at ka
  have e:numI t=(0,false):=by unfold numI;rw[ha]
  rw[e]
  refine Con.ev 26 T_ok mix Tryd.func34 rfl rfl rfl rfl [.tmp 2,.tmp 3] rfl ?_
  conv=>whnf
  (iterate 16 ((first|apply rq_s rfl|refine fac_s (fun hf=> ?_)|apply br_f rfl|apply lend_s|refine call_s (ka ..) ?_);conv=>whnf));(focus (refine sh_s ?_;(first|rfl|(simp_all;done))))
end U6

/- slices.DeleteFunc on words, places in lists of words: contracts. -/
open Go Go.Abs Go.Proofs V1 U2 U4 U5 U6
namespace U7
def isE(s:List UInt8):Bool:=s==[]
theorem c47(s:List UInt8):Con Tryd.prog 47 [.str s] (undefs [.str s]) (.bool (isE s)):=by
 refine Con.ev 5 T_ok mix Tryd.func47 rfl rfl rfl rfl [.tmp 2] rfl ?_
 conv=>whnf
 (apply rq_s rfl;conv=>whnf);(refine sh_s ?_;(rfl))
theorem c55(rs:List (List UInt8)):Con Tryd.prog 55 [roS rs,.fn 47 []] (undefs [roS rs,.fn 47 []]) (.int .i64 (findI isE rs)):=by
 refine Con.evF 19 T_ok mix Tryd.func55 rfl rfl rfl rfl [.tmp 4] rfl fun⟨hx,_⟩=> ?_
 have hx:=facts_len hx
 conv=>whnf
 rotate_left
 refine LoopG.rounds (α:=Nat) T_ok mix [0,1,7,8] [] (fun i=>[(0,roS rs),(1,.fn 47 []),(7,.int .i64 rs.length),(8,.int .i64 i)]) (fun _=>[]) (fun i=>i≤rs.length∧ ∀j,j<i→isE (rs.getD j default)=false) (fun i=>rs.length-i) ?_ ?_
 ·conv=>whnf
  exact head_s 0 ⟨by simp,fun j hj=>by omega⟩ (by simp[roS]) rfl
 ·rintro i ⟨h1,h2⟩- -
  conv=>whnf
  (iterate 3 (first|(apply rq_s rfl;(conv=>whnf))|(refine rq_s (by refine and_s rfl ?_;simp only[lnm];omega) ?_;(conv=>whnf))|(refine br_s ?_ ?_<;>intro hb<;>(try simp only[cln]at hb)<;>conv=>whnf)));(refine row_s (by((try simp only[Int.toNat_natCast]);exact row_map strR _ _ _ default (by first|omega|(simp;omega)))) ?_;conv=>whnf);iterate 5 (first|(apply rq_s rfl;(conv=>whnf))|(refine br_s ?_ ?_<;>intro hb<;>(try simp only[cln]at hb)<;>conv=>whnf)|(apply lend_s;(conv=>whnf))|(refine call_s (c47 ..) ?_;(conv=>whnf)))
  iterate 2 (rotate_left)
  (apply rq_s rfl;conv=>whnf)
  rotate_left
  ·refine sh_s ?_
   rw[findI_hit default (by assumption) hb h2]
  ·refine head_s (i+1) ⟨⟨by omega,fun j hj=> ?_⟩,by omega⟩ (by rw[wrap64 (by omega) (by omega)];rfl) rfl
   by_cases hji:j=i
   ·subst hji;exact hb
   ·exact h2 j (by omega)
  ·refine sh_s ?_
   rw[findI_none default fun j hj=>h2 j (by omega)]
theorem c33(rs:List (List UInt8))(t:List UInt8):Con Tryd.prog 33 [roS rs,.str t] (undefs [roS rs,.str t]) (.int .i64 (findI (fun y=>t==y) rs)):=by
 refine Con.evF 19 T_ok mix Tryd.func33 rfl rfl rfl rfl [.tmp 4] rfl fun⟨hx,_⟩=> ?_
 have hx:=facts_len hx
 conv=>whnf
 rotate_left
 refine LoopG.rounds (α:=Nat) T_ok mix [0,1,7,8] [] (fun i=>[(0,roS rs),(1,.str t),(7,.int .i64 rs.length),(8,.int .i64 i)]) (fun _=>[]) (fun i=>i≤rs.length∧ ∀j,j<i→(fun y=>t==y) (rs.getD j default)=false) (fun i=>rs.length-i) ?_ ?_
 ·conv=>whnf
  exact head_s 0 ⟨by simp,fun j hj=>by omega⟩ (by simp[roS]) rfl
 ·rintro i ⟨h1,h2⟩- -
  conv=>whnf
  (iterate 3 (first|(apply rq_s rfl;(conv=>whnf))|(refine rq_s (by refine and_s rfl ?_;simp only[lnm];omega) ?_;(conv=>whnf))|(refine br_s ?_ ?_<;>intro hb<;>(try simp only[cln]at hb)<;>conv=>whnf)));(refine row_s (by((try simp only[Int.toNat_natCast]);exact row_map strR _ _ _ default (by first|omega|(simp;omega)))) ?_;conv=>whnf);(refine br_s ?_ ?_<;>intro hb<;>(try simp only[cln]at hb)<;>conv=>whnf);(apply rq_s rfl;conv=>whnf)
  iterate 2 (rotate_left)
  (apply rq_s rfl;conv=>whnf)
  rotate_left
  ·refine sh_s ?_
   rw[findI_hit default (by assumption) (by simpa using hb) h2]
  ·refine head_s (i+1) ⟨⟨by omega,fun j hj=> ?_⟩,by omega⟩ (by rw[wrap64 (by omega) (by omega)];rfl) rfl
   by_cases hji:j=i
   ·subst hji;simpa using hb
   ·exact h2 j (by omega)
  ·refine sh_s ?_
   rw[findI_none default fun j hj=>h2 j (by omega)]
theorem c27(rs:List (List UInt8))(t:List UInt8):Con Tryd.prog 27 [roS rs,.str t] (undefs [roS rs,.str t]) (.int .i64 (findI (fun y=>y==t) rs)):=by
 refine Con.evF 19 T_ok mix Tryd.func27 rfl rfl rfl rfl [.tmp 4] rfl fun⟨hx,_⟩=> ?_
 have hx:=facts_len hx
 conv=>whnf
 rotate_left
 refine LoopG.rounds (α:=Nat) T_ok mix [0,1,5] [] (fun i=>[(0,roS rs),(1,.str t),(5,.int .i64 i)]) (fun _=>[]) (fun i=>i≤rs.length∧ ∀j,j<i→(fun y=>y==t) (rs.getD j default)=false) (fun i=>rs.length-i) ?_ ?_
 ·conv=>whnf
  exact head_s 0 ⟨by simp,fun j hj=>by omega⟩ (by simp[roS]) rfl
 ·rintro i ⟨h1,h2⟩- -
  conv=>whnf
  (iterate 3 (first|(apply rq_s rfl;(conv=>whnf))|(refine rq_s (by refine and_s rfl ?_;simp only[lnm];omega) ?_;(conv=>whnf))|(refine br_s ?_ ?_<;>intro hb<;>(try simp only[cln]at hb)<;>conv=>whnf)));(refine row_s (by((try simp only[Int.toNat_natCast]);exact row_map strR _ _ _ default (by first|omega|(simp;omega)))) ?_;conv=>whnf);(refine br_s ?_ ?_<;>intro hb<;>(try simp only[cln]at hb)<;>conv=>whnf);(apply rq_s rfl;conv=>whnf)
  iterate 2 (rotate_left)
  (apply rq_s rfl;conv=>whnf)
  rotate_left
  ·refine sh_s ?_
   rw[findI_hit default (by assumption) (by simpa using hb) h2]
  ·refine head_s (i+1) ⟨⟨by omega,fun j hj=> ?_⟩,by omega⟩ (by rw[wrap64 (by omega) (by omega)];rfl) rfl
   by_cases hji:j=i
   ·subst hji;simpa using hb
   ·exact h2 j (by omega)
  ·refine sh_s ?_
   rw[findI_none default fun j hj=>h2 j (by omega)]
end U7

/- slices.DeleteFunc on words: contract. -/
open Go Go.Abs Go.Proofs V1 U2 U4 U5 U6 U7
namespace U8
def keepE(s:List UInt8):Bool:= !isE s
def fD(xs:List (List UInt8))(j:Nat):List (List UInt8):=(xs.take j).filter keepE
def arrD(xs:List (List UInt8))(j:Nat):List (List UInt8):=fD xs j++xs.drop (fD xs j).length
theorem fD_len(xs:List (List UInt8))(j:Nat):(fD xs j).length≤j:=Nat.le_trans (List.length_filter_le _ _) (by simp;omega)
theorem fD_le(xs:List (List UInt8))(j:Nat):(fD xs j).length≤xs.length:=Nat.le_trans (List.length_filter_le _ _) (by simp;omega)
theorem arrD_len(xs:List (List UInt8))(j:Nat):(arrD xs j).length=xs.length:=by
 have:=fD_le xs j
 simp only[arrD,List.length_append,List.length_drop];omega
theorem arrD_at{xs:List (List UInt8)}{j:Nat}(h:j<xs.length):(arrD xs j).getD j default=xs[j]:=by
 have:=fD_len xs j
 rw[List.getD_eq_getElem?_getD,arrD,List.getElem?_append_right (by omega),List.getElem?_drop,show(fD xs j).length+(j-(fD xs j).length)=j by omega,List.getElem?_eq_getElem h];rfl
theorem fD_yes{xs:List (List UInt8)}{j:Nat}(h:j<xs.length)(hk:isE xs[j]=false):fD xs (j+1)=fD xs j++[xs[j]]:=by
 unfold fD
 rw[List.take_succ_eq_append_getElem h,List.filter_append]
 simp[keepE,hk]
theorem fD_no{xs:List (List UInt8)}{j:Nat}(h:j<xs.length)(hk:isE xs[j]=true):fD xs (j+1)=fD xs j:=by
 unfold fD
 rw[List.take_succ_eq_append_getElem h,List.filter_append]
 simp[keepE,hk]
theorem arrD_yes{xs:List (List UInt8)}{j:Nat}(h:j<xs.length)(hk:isE xs[j]=false):(arrD xs j).set (fD xs j).length xs[j]=arrD xs (j+1):=by
 have hl:=fD_len xs j
 unfold arrD
 rw[fD_yes h hk,List.set_append_right _ _ (by omega),Nat.sub_self]
 have hd:xs.drop (fD xs j).length=xs[(fD xs j).length]'(by omega)::xs.drop ((fD xs j).length+1):=List.drop_eq_getElem_cons (by omega)
 rw[hd,List.set_cons_zero,List.length_append,List.append_assoc]
 rfl
theorem set_str(ys:List (List UInt8))(i:Nat)(z:List AV)(v:List UInt8)(h:i<ys.length):setRow (ys.map strR) i 0 z [.str v]=(ys.set i v).map strR:=by
 simp[setRow,setCells,rowA,List.getD_eq_getElem?_getD,h,strR,List.map_set]
theorem fD_first{xs:List (List UInt8)}{i:Nat}(h:i<xs.length)(hn: ∀j,j<i→isE (xs.getD j default)=false): ∀k,k≤i→fD xs k=xs.take k
 |0,_=>rfl
 |k+1,hk=>by
  have hkx:k<xs.length:=by omega
  have e:isE xs[k]=false:=by
   have:=hn k (by omega)
   rwa [List.getD_eq_getElem?_getD,List.getElem?_eq_getElem hkx]at this
  rw[fD_yes hkx e,fD_first h hn k (by omega),List.take_succ_eq_append_getElem hkx]
theorem find_at{xs:List (List UInt8)}(h:findI isE xs≠ -1): ∃i:Nat,findI isE xs=i∧i<xs.length∧(fD xs (i+1)).length=i∧arrD xs (i+1)=xs:=by
 unfold findI at h⊢
 cases hf:xs.findIdx? isE with
 |none=>rw[hf]at h;exact absurd rfl h
 |some i=>
  obtain⟨hi,he,hn⟩:=List.findIdx?_eq_some_iff_getElem.1 hf
  have hfi:fD xs i=xs.take i:=fD_first hi (fun j hj=>by
   have hjx:j<xs.length:=by omega
   have:=hn j hj
   rw[List.getD_eq_getElem?_getD,List.getElem?_eq_getElem hjx]
   simpa using this) i (Nat.le_refl _)
  have hl:(fD xs i).length=i:=by rw[hfi];simp;omega
  refine⟨i,rfl,hi,by rw[fD_no hi he,hl],?_⟩
  unfold arrD
  rw[fD_no hi he,hl,hfi,List.take_append_drop]
theorem find_none{xs:List (List UInt8)}(h:findI isE xs= -1):xs.filter keepE=xs:=by
 unfold findI at h
 cases hf:xs.findIdx? isE with
 |some i=>rw[hf]at h;simp at h
 |none=>
  rw[List.findIdx?_eq_none_iff]at hf
  exact List.filter_eq_self.2 fun x hx=>by simp[keepE,hf x hx]
theorem c45(xs:List (List UInt8))(h:xs.length≤1000000):Con Tryd.prog 45 [ownS xs,.fn 47 []] (undefs [ownS xs,.fn 47 []]) (ownS (xs.filter keepE)):=by
 have ki:=c55 xs
 refine Con.ev 42 T_ok mix Tryd.func45 rfl rfl rfl rfl [.tmp 4] rfl ?_
 conv=>whnf
 (iterate 4 ((first|refine rq_s (by solve|simp only[lnm]|fail) ?_|apply rq_s rfl|apply lend_s);conv=>whnf));(refine rows_s (by((refine sub_all ?_;simp[List.length_map];done))) ?_;conv=>whnf);(iterate 5 (first|(refine rq_s (by solve|simp only[lnm]|fail) ?_;(conv=>whnf))|(apply rq_s rfl;(conv=>whnf))|(refine fac_s (fun hf=> ?_);(conv=>whnf))|(refine br_s ?_ ?_<;>intro hb<;>(try simp only[cln]at hb)<;>conv=>whnf)|(refine call_s (ki ..) ?_;(conv=>whnf))));(refine rows_s (by((refine sub_all ?_;simp[List.length_map];done))) ?_;conv=>whnf)
 iterate 2 (rotate_left)
 ·rw[find_none hb];exact sh_s rfl
 ·obtain⟨i0,e0,hi0,hl0,ha0⟩:=find_at hb
  refine LoopG.auto (α:=Nat) T_ok mix [0,1,5,6] (fun j=>[(0,.ref 1 0 xs.length),(1,.fn 47 []),(5,.int .i64 (fD xs j).length),(6,.int .i64 j)]) (fun j=>[(1,.live ⟨true,0,[.str []],(arrD xs j).map strR⟩)]) (fun j=>j≤xs.length) (fun j=>xs.length-j) ?_ ?_
  ·conv=>whnf
   (apply ChkS.mk (by kernel_rfl);conv=>whnf)
   rotate_left
   refine head_s (i0+1) (by omega) ?_ ?_
   ·rw[e0,hl0,wrap64 (by omega) (by omega)];simp
   ·rw[ha0]
  ·intro j hj _ _
   have hfl:=fD_len xs j
   have hal:=arrD_len xs j
   conv=>whnf
   (iterate 4 (first|(refine rq_s (by solve|simp only[lnm]|fail) ?_;(conv=>whnf))|(apply rq_s rfl;(conv=>whnf))|(refine rq_s (by refine and_s rfl ?_;simp only[lnm];omega) ?_;(conv=>whnf))|(refine br_s ?_ ?_<;>intro hb<;>(try simp only[cln]at hb)<;>conv=>whnf)));(refine row_s (by((try simp only[Int.toNat_natCast]);exact row_map strR _ _ _ default (by first|omega|(simp;omega)))) ?_;conv=>whnf);iterate 9 (first|(refine rq_s (by solve|simp only[lnm]|fail) ?_;(conv=>whnf))|(apply rq_s rfl;(conv=>whnf))|(refine rq_s (by refine and_s rfl ?_;simp only[lnm];omega) ?_;(conv=>whnf))|(apply rows_s rfl;(conv=>whnf))|(refine ChkS.mk (by kernel_rfl) ?_;(conv=>whnf))|(refine br_s ?_ ?_<;>intro hb<;>(try simp only[cln]at hb)<;>conv=>whnf)|(apply lend_s;(conv=>whnf))|(refine call_s (c47 ..) ?_;(conv=>whnf)))
   rotate_left
   (apply ChkS.mk (by kernel_rfl);conv=>whnf)
   rotate_left
   iterate 14 ((first|refine rq_s (by solve|simp only[lnm]|fail) ?_|apply rq_s rfl|refine rq_s (by refine and_s rfl ?_;simp only[lnm];omega) ?_|refine rq_s (by simp only[Bool.and_eq_true,decide_eq_true_eq,List.length_map];omega) ?_|apply rows_s rfl);conv=>whnf)
   rotate_left
   ·have hjx:j<xs.length:=by assumption
    have hx:=arrD_at hjx
    simp only[Nat.zero_add]at hb
    rw[hx]at hb
    refine head_s (j+1) ⟨by omega,by omega⟩ ?_ (congrArg (fun r=>[(1,MB.live ⟨true,0,[.str []],r⟩)]) ?_)
    ·rw[fD_yes hjx hb,List.length_append,wrap64 (by omega) (by omega),wrap64 (by omega) (by omega)];rfl
    ·simp only[Nat.zero_add,Int.toNat_natCast]
     rw[set_str _ _ _ _ (by omega),hx,arrD_yes hjx hb]
   ·have hjx:j<xs.length:=by assumption
    have hx:=arrD_at hjx
    simp only[Nat.zero_add]at hb
    rw[hx]at hb
    refine head_s (j+1) ⟨by omega,by omega⟩ ?_ (congrArg (fun r=>[(1,MB.live ⟨true,0,[.str []],r⟩)]) ?_)
    ·rw[fD_no hjx hb,wrap64 (by omega) (by omega)];rfl
    ·unfold arrD
     rw[fD_no hjx hb]
   ·obtain rfl:j=xs.length:=by omega
    refine sh_s (congrArg (AV.own 0 [.str []]) ?_)
    have he:fD xs xs.length=xs.filter keepE:=by unfold fD;rw[List.take_length]
    have ht:(arrD xs xs.length).take (fD xs xs.length).length=fD xs xs.length:=by unfold arrD;exact List.take_left' rfl
    simp only[subA,Nat.zero_add,Nat.sub_zero,Int.toNat_natCast,List.drop_zero,List.append_assoc]
    rw[List.take_append_of_le_length (by simp[hal];omega),List.take_take,Nat.min_self,←List.map_take,ht,he]
end U8
