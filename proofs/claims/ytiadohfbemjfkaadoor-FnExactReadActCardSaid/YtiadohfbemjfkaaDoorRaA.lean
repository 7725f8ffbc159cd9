import Derived.Test.YtiadohfbemjfkaaDoorRaV
import Derived.Lib.ItoaLen
import Derived.Test.YtiadohfbemjfkaaDoorAbsk
import Derived.Test.YtiadohfbemjfkaaDoorAbs7
import Derived.Test.YtiadohfbemjfkaaDoorAbsi
import Derived.Test.YtiadohfbemjfkaaDoorAbsn
import Derived.Shelf.Strings.Search3
import Derived.Shelf.Strings.Count
import Derived.Shelf.Strings.SplitCore
import Derived.Shelf.LaysM
/- Numbers in digits: contracts. -/
set_option linter.unusedVariables false
set_option linter.unusedSimpArgs false
set_option maxRecDepth 100000
open Go Go.Abs Go.Proofs V1
namespace U2
end U2
open Go.Proofs
def U2.laid_ren:Go.Shelf.Ren:=⟨fun|171=>39|243=>53|246=>62|283=>71|284=>72|285=>73|286=>74|129=>83|317=>82|318=>84|319=>85|320=>86|337=>94|338=>95|n=>n,fun|3=>3|9=>9|2=>2|4=>4|171=>82|0=>0|53=>72|37=>28|5=>5|173=>85|212=>99|51=>71|20=>20|213=>100|46=>93|232=>114|233=>115|n=>n,fun|17=>2|18=>6|19=>7|n=>n⟩
theorem U2.laid:Go.Proofs.LaysM.n171 Tryd.prog U2.laid_ren where
 mixed:=by kernel_rfl
 f129:=Tryd.func83.trans (congrArg some (by kernel_rfl))
 f171:=Tryd.func39.trans (congrArg some (by kernel_rfl))
 f243:=Tryd.func53.trans (congrArg some (by kernel_rfl))
 f246:=Tryd.func62.trans (congrArg some (by kernel_rfl))
 f283:=Tryd.func71.trans (congrArg some (by kernel_rfl))
 f284:=Tryd.func72.trans (congrArg some (by kernel_rfl))
 f285:=Tryd.func73.trans (congrArg some (by kernel_rfl))
 f286:=Tryd.func74.trans (congrArg some (by kernel_rfl))
 f317:=Tryd.func82.trans (congrArg some (by kernel_rfl))
 f318:=Tryd.func84.trans (congrArg some (by kernel_rfl))
 f319:=Tryd.func85.trans (congrArg some (by kernel_rfl))
 f320:=Tryd.func86.trans (congrArg some (by kernel_rfl))
 f337:=Tryd.func94.trans (congrArg some (by kernel_rfl))
 f338:=Tryd.func95.trans (congrArg some (by kernel_rfl))
 t0:=Tryd.underlying0
 a0:=Tryd.isAgg0
 z0:=Tryd.sizeOf0
 v0:=Tryd.zeroValue0
 t2:=Tryd.underlying2
 a2:=Tryd.isAgg2
 z2:=Tryd.sizeOf2
 v2:=Tryd.zeroValue2
 t3:=Tryd.underlying3
 a3:=Tryd.isAgg3
 z3:=Tryd.sizeOf3
 v3:=Tryd.zeroValue3
 t4:=Tryd.underlying4
 a4:=Tryd.isAgg4
 z4:=Tryd.sizeOf4
 v4:=Tryd.zeroValue4
 t5:=Tryd.underlying5
 a5:=Tryd.isAgg5
 z5:=Tryd.sizeOf5
 v5:=Tryd.zeroValue5
 t9:=Tryd.underlying9
 a9:=Tryd.isAgg9
 z9:=Tryd.sizeOf9
 v9:=Tryd.zeroValue9
 t20:=Tryd.underlying20
 a20:=Tryd.isAgg20
 z20:=Tryd.sizeOf20
 v20:=Tryd.zeroValue20
 t37:=Tryd.underlying28
 a37:=Tryd.isAgg28
 z37:=Tryd.sizeOf28
 v37:=Tryd.zeroValue28
 t46:=Tryd.underlying93
 a46:=Tryd.isAgg93
 z46:=Tryd.sizeOf93
 v46:=Tryd.zeroValue93
 t51:=Tryd.underlying71
 a51:=Tryd.isAgg71
 z51:=Tryd.sizeOf71
 v51:=Tryd.zeroValue71
 t53:=Tryd.underlying72
 a53:=Tryd.isAgg72
 z53:=Tryd.sizeOf72
 v53:=Tryd.zeroValue72
 t171:=Tryd.underlying82
 a171:=Tryd.isAgg82
 z171:=Tryd.sizeOf82
 v171:=Tryd.zeroValue82
 t173:=Tryd.underlying85
 a173:=Tryd.isAgg85
 z173:=Tryd.sizeOf85
 v173:=Tryd.zeroValue85
 t212:=Tryd.underlying99
 a212:=Tryd.isAgg99
 z212:=Tryd.sizeOf99
 v212:=Tryd.zeroValue99
 t213:=Tryd.underlying100
 a213:=Tryd.isAgg100
 z213:=Tryd.sizeOf100
 t232:=Tryd.underlying114
 a232:=Tryd.isAgg114
 z232:=Tryd.sizeOf114
 v232:=Tryd.zeroValue114
 t233:=Tryd.underlying115
 a233:=Tryd.isAgg115
 z233:=Tryd.sizeOf115
 v233:=Tryd.zeroValue115
 g17:=by kernel_rfl
 g18:=by kernel_rfl
 g19:=by kernel_rfl
 i0:=by kernel_rfl
 i2:=by kernel_rfl
 i3:=by kernel_rfl
 i4:=by kernel_rfl
 i5:=by kernel_rfl
 i9:=by kernel_rfl
 i20:=by kernel_rfl
 i37:=by kernel_rfl
 i46:=by kernel_rfl
 i51:=by kernel_rfl
 i53:=by kernel_rfl
 i171:=by kernel_rfl
 i173:=by kernel_rfl
 i212:=by kernel_rfl
 i232:=by kernel_rfl
 i233:=by kernel_rfl
 m17:=by kernel_rfl
 m18:=by kernel_rfl
 m19:=by kernel_rfl
namespace U2
theorem c39(n:Int):Con Tryd.prog 39 [.int .i64 n] (undefs [.int .i64 n]) (.str (Lib.itoa n)):=by
 refine Con.scal ⟨_,Tryd.func39,rfl,rfl⟩ (fun w vals hp tb=> ?_) fun w R O vals hp=> ?_
 ·obtain⟨hl,os,h4,_⟩:=uni_of_parts _ _ _ hp
  match vals,hl with
  |[v],_=>
   have hv:=h4 0 _ v rfl rfl
   cases hv with
   |sc hv _=>
    obtain⟨rfl,hf⟩:=hv
    simp[fitsK]at hf
    refine(Any.strconv_Itoa laid n (by omega) (by omega) w (tb.is (g:=2) (by simp[tabL]) (by kernel_rfl))).mono ?_
    rintro e w' ⟨rfl,k,os,rfl⟩
    exact⟨_,rfl,⟨rfl,Nat.le_trans (Lib.itoa_length_le n (by omega) (by omega)) (by simp[maxLn])⟩,k,os,rfl⟩
 ·obtain⟨hl,os,h4,h5⟩:=uni_of_parts _ _ _ hp
  match vals,hl with
  |[v],_=>
   have hv:=h4 0 _ v rfl rfl
   cases hv with
   |sc hv he=>
    refine⟨⟨none2,none2,fun g o=>by simp[none2],emp_none2.disj,.sc hv emp_none2,emp_none2⟩,fun g o k=> ?_⟩
    obtain⟨j,hj,m⟩:=(h5.iff g o).1 k
    have:j=0:=by simpa using hj
    subst this
    exact he g o m
end U2

/- The texts of actions: contracts. -/
open Go Go.Abs Go.Proofs V1 U2
namespace U3
theorem c18:Con Tryd.prog 18 [] (undefs []) (.own 0 [.str []] (actW.map strR)):=by
 refine Con.ev 2 T_ok mix Tryd.func18 rfl rfl rfl rfl [.tmp 0] rfl ?_
 conv=>whnf
 (iterate 3 ((first|refine rq_s (by solve|simp only[lnm]|fail) ?_|apply rq_s rfl);conv=>whnf));(refine rows_s (by((refine sub_all ?_;simp[List.length_map];done))) ?_;conv=>whnf);(refine sh_s ?_;(rfl))
theorem c28:Con Tryd.prog 28 [] (undefs []) (.own 0 [.str []] (actX.map strR)):=by
 refine Con.ev 2 T_ok mix Tryd.func28 rfl rfl rfl rfl [.tmp 0] rfl ?_
 conv=>whnf
 (iterate 3 ((first|refine rq_s (by solve|simp only[lnm]|fail) ?_|apply rq_s rfl);conv=>whnf));(refine rows_s (by((refine sub_all ?_;simp[List.length_map];done))) ?_;conv=>whnf);(refine sh_s ?_;(rfl))
theorem c19:Con Tryd.prog 19 [] (undefs []) (.own 0 [.str []] (capW.map strR)):=by
 refine Con.ev 2 T_ok mix Tryd.func19 rfl rfl rfl rfl [.tmp 0] rfl ?_
 conv=>whnf
 (iterate 3 ((first|refine rq_s (by solve|simp only[lnm]|fail) ?_|apply rq_s rfl);conv=>whnf));(refine rows_s (by((refine sub_all ?_;simp[List.length_map];done))) ?_;conv=>whnf);(refine sh_s ?_;(rfl))
theorem c29:Con Tryd.prog 29 [] (undefs []) (.own 0 [.str []] (capW.map strR)):=by
 refine Con.ev 2 T_ok mix Tryd.func29 rfl rfl rfl rfl [.tmp 0] rfl ?_
 conv=>whnf
 (iterate 3 ((first|refine rq_s (by solve|simp only[lnm]|fail) ?_|apply rq_s rfl);conv=>whnf));(refine rows_s (by((refine sub_all ?_;simp[List.length_map];done))) ?_;conv=>whnf);(refine sh_s ?_;(rfl))
theorem c20(xs:List Int)(hl:xs.length≤1000)(hx: ∀x∈xs,-9223372036854775808≤x∧x≤9223372036854775807):Con Tryd.prog 20 [roI xs] (undefs [roI xs]) (.str (spacedL xs)):=by
 refine Con.ev 19 T_ok mix Tryd.func20 rfl rfl rfl rfl [.tmp 2] rfl ?_
 conv=>whnf
 rotate_left
 refine LoopG.rounds (α:=Nat) T_ok mix [3,6,7,8] [] (fun i=>[(3,.str (spacedL (xs.take i))),(6,roI xs),(7,.int .i64 xs.length),(8,.int .i64 i)]) (fun _=>[]) (fun i=>i≤xs.length) (fun i=>xs.length-i) ?_ ?_
 ·conv=>whnf
  exact head_s 0 (by simp) (by simp[roI,spacedL]) rfl
 ·intro i hi _ _
  have hsl:=spaced_len (xs.take i) fun x h=>hx x (List.mem_of_mem_take h)
  have hti:(xs.take i).length≤1000:=by simp;omega
  conv=>whnf
  (iterate 3 (first|(apply rq_s rfl;(conv=>whnf))|(refine rq_s (by refine and_s rfl ?_;simp only[lnm];omega) ?_;(conv=>whnf))|(refine br_s ?_ ?_<;>intro hb<;>(try simp only[cln]at hb)<;>conv=>whnf)));(refine row_s (by((try simp only[Int.toNat_natCast]);exact row_map intR _ _ _ default (by first|omega|(simp;omega)))) ?_;conv=>whnf);(apply rq_s rfl;conv=>whnf);(apply lend_s;conv=>whnf)
  rotate_left
  (apply rq_s rfl;conv=>whnf)
  rotate_left
  ·have hi2:i<xs.length:=by omega
   have hxi:xs.getD i default=xs[i]:=by simp[hi2]
   have hil:=itoa_len (hx xs[i] (List.getElem_mem hi2)).1 (hx xs[i] (List.getElem_mem hi2)).2
   iterate 4 ((first|refine rq_s (by(((simp only[maxStr,List.length_append,List.length_cons,hxi,decide_eq_true_eq];simp;omega)))) ?_|refine fac_s (fun hf=> ?_)|refine call_s (c39 ..) ?_);conv=>whnf)
   rotate_left
   have e:spacedL (xs.take (i+1))=spacedL (xs.take i)++(32::Lib.itoa (xs.getD i default)):=by
    rw[hxi,List.take_succ_eq_append_getElem hi2,spacedL,List.flatMap_append]
    simp only[List.flatMap_cons,List.flatMap_nil,List.append_nil]
    rfl
   refine head_s (i+1) ⟨by omega,by omega⟩ ?_ rfl
   rw[wrap64 (by omega) (by omega),e]
   rfl
  ·obtain rfl:i=xs.length:=by omega
   refine sh_s ?_
   rw[List.take_length]
end U3

/- strings.Split at one byte, contracts, from the kit's shelf. -/
open Go Go.Abs Go.Proofs V1
def U4.lays221_ren:Go.Shelf.Ren:=⟨fun|221=>56|268=>63|138=>64|143=>65|195=>75|197=>76|218=>77|219=>78|260=>87|217=>88|225=>89|224=>90|267=>91|266=>96|314=>97|n=>n,fun|9=>9|3=>3|31=>41|4=>4|0=>0|105=>88|21=>21|5=>5|46=>93|119=>108|139=>111|138=>110|146=>112|51=>71|n=>n,fun|1=>3|3=>4|4=>5|n=>n⟩
theorem U4.lays221:Go.Proofs.LaysM.n221 Tryd.prog U4.lays221_ren where
 mixed:=by kernel_rfl
 f138:=Tryd.func64.trans (congrArg some (by kernel_rfl))
 f143:=Tryd.func65.trans (congrArg some (by kernel_rfl))
 f195:=Tryd.func75.trans (congrArg some (by kernel_rfl))
 f197:=Tryd.func76.trans (congrArg some (by kernel_rfl))
 f217:=Tryd.func88.trans (congrArg some (by kernel_rfl))
 f218:=Tryd.func77.trans (congrArg some (by kernel_rfl))
 f219:=Tryd.func78.trans (congrArg some (by kernel_rfl))
 f221:=Tryd.func56.trans (congrArg some (by kernel_rfl))
 f224:=Tryd.func90.trans (congrArg some (by kernel_rfl))
 f225:=Tryd.func89.trans (congrArg some (by kernel_rfl))
 f260:=Tryd.func87.trans (congrArg some (by kernel_rfl))
 f266:=Tryd.func96.trans (congrArg some (by kernel_rfl))
 f267:=Tryd.func91.trans (congrArg some (by kernel_rfl))
 f268:=Tryd.func63.trans (congrArg some (by kernel_rfl))
 f314:=Tryd.func97.trans (congrArg some (by kernel_rfl))
 t0:=Tryd.underlying0
 a0:=Tryd.isAgg0
 z0:=Tryd.sizeOf0
 v0:=Tryd.zeroValue0
 t3:=Tryd.underlying3
 a3:=Tryd.isAgg3
 z3:=Tryd.sizeOf3
 v3:=Tryd.zeroValue3
 t4:=Tryd.underlying4
 a4:=Tryd.isAgg4
 z4:=Tryd.sizeOf4
 v4:=Tryd.zeroValue4
 t5:=Tryd.underlying5
 a5:=Tryd.isAgg5
 z5:=Tryd.sizeOf5
 v5:=Tryd.zeroValue5
 t9:=Tryd.underlying9
 a9:=Tryd.isAgg9
 z9:=Tryd.sizeOf9
 v9:=Tryd.zeroValue9
 t21:=Tryd.underlying21
 a21:=Tryd.isAgg21
 z21:=Tryd.sizeOf21
 v21:=Tryd.zeroValue21
 t31:=Tryd.underlying41
 a31:=Tryd.isAgg41
 z31:=Tryd.sizeOf41
 v31:=Tryd.zeroValue41
 t46:=Tryd.underlying93
 a46:=Tryd.isAgg93
 z46:=Tryd.sizeOf93
 v46:=Tryd.zeroValue93
 t51:=Tryd.underlying71
 a51:=Tryd.isAgg71
 z51:=Tryd.sizeOf71
 v51:=Tryd.zeroValue71
 t105:=Tryd.underlying88
 a105:=Tryd.isAgg88
 z105:=Tryd.sizeOf88
 v105:=Tryd.zeroValue88
 t119:=Tryd.underlying108
 a119:=Tryd.isAgg108
 z119:=Tryd.sizeOf108
 t138:=Tryd.underlying110
 a138:=Tryd.isAgg110
 z138:=Tryd.sizeOf110
 v138:=Tryd.zeroValue110
 t139:=Tryd.underlying111
 a139:=Tryd.isAgg111
 z139:=Tryd.sizeOf111
 v139:=Tryd.zeroValue111
 t146:=Tryd.underlying112
 a146:=Tryd.isAgg112
 z146:=Tryd.sizeOf112
 v146:=Tryd.zeroValue112
 g1:=by kernel_rfl
 g3:=by kernel_rfl
 g4:=by kernel_rfl
 i0:=by kernel_rfl
 i3:=by kernel_rfl
 i4:=by kernel_rfl
 i5:=by kernel_rfl
 i9:=by kernel_rfl
 i21:=by kernel_rfl
 i31:=by kernel_rfl
 i46:=by kernel_rfl
 i51:=by kernel_rfl
 i105:=by kernel_rfl
 i138:=by kernel_rfl
 i139:=by kernel_rfl
 i146:=by kernel_rfl
 m1:=by kernel_rfl
 s1_3:=fun w h=>Go.Proofs.cell_of_shapedOpen_int (zero:=#[.int .i64 0]) (t:=3) h (of_decide_eq_true (by kernel_rfl)) (by kernel_rfl) rfl (by kernel_rfl) (by kernel_rfl) Tryd.underlying3
 m3:=by kernel_rfl
 m4:=by kernel_rfl
namespace U4
theorem flat_ar{w w':World}{R R' O:Cells}{loc loc':Locs}{x:AV}{v:Value}(hx:x.flat=true)(h:AR w R loc x v O):AR w' R' loc' x v none2∧Emp O:=by
 cases h with
 |sc h e=>exact⟨.sc h emp_none2,e⟩
 |_=>simp[AV.flat]at hx
theorem parts_flat{w:World}{R R':Cells}: ∀(l:List AV)(vals:List Value)(O:Cells),l.all AV.flat=true→Parts w R noLoc l vals O→Parts w R' noLoc l vals none2∧Emp O
 |[],[],O,_,h=>⟨emp_none2,h⟩
 |[],_::_,_,_,h=>h.elim
 |_::_,[],_,_,h=>h.elim
 |x::l,v::vs,O,hf,h=>by
  simp only[List.all_cons,Bool.and_eq_true]at hf
  obtain⟨O1,O2,hO,hd,hx,hp⟩:=h
  obtain⟨h1,e1⟩:=flat_ar (w':=w) (R':=R') (loc':=noLoc) hf.1 hx
  obtain⟨h2,e2⟩:=parts_flat l vs O2 hf.2 hp
  exact⟨⟨none2,none2,fun g o=>by simp[none2],emp_none2.disj,h1,h2⟩,fun g o k=>((hO g o).1 k).elim (e1 g o) (e2 g o)⟩
def splL(s:List UInt8)(c:UInt8):List (List UInt8):=Lib.split s [c]
theorem one_str{w:World}{R O:Cells}{s:List UInt8}{v:Value}(h:AR w R noLoc (.str s) v O):v=.string ⟨s.toArray⟩∧s.length≤maxLn:=by
 cases h with
 |sc h _=>exact h
theorem one_int{w:World}{R O:Cells}{k:IntKind}{n:Int}{v:Value}(h:AR w R noLoc (.int k n) v O):v=.int k n:=by
 cases h with
 |sc h _=>exact h.1
theorem splitK_piece(sep:List UInt8): ∀(k:Nat)(s:List UInt8),∀x∈Lib.splitK sep 0 k s,x.length≤s.length
 |0,s,x,h=>by simp[Lib.splitK]at h;subst h;exact Nat.le_refl _
 |k+1,s,x,h=>by
  unfold Lib.splitK at h
  split at h
  ·simp at h;subst h;exact Nat.le_refl _
  ·rcases List.mem_cons.1 h with rfl|h
   ·simp;omega
   ·have:=splitK_piece sep k _ x h
    simp at this
    omega
theorem splL_len(s:List UInt8)(c:UInt8):(splL s c).length=s.count c+1:=by
 have:=Lib.splitB_all ⟨#[c]⟩ (show 1≤1 by omega) 0 _ ⟨s.toArray⟩ rfl
 have e:=Lib.splitB_data ⟨#[c]⟩ 0 (Lib.countB ⟨s.toArray⟩ ⟨#[c]⟩) ⟨s.toArray⟩
 unfold splL Lib.split
 rw[←Lib.count_one]
 have e2:=congrArg List.length e
 rw[List.length_map,this]at e2
 exact e2.symm
theorem count_lib(s:List UInt8)(c:UInt8):Lib.count s [c]=s.count c:=Lib.count_one c s
set_option maxHeartbeats 1000000 in
theorem c56(s:List UInt8)(c:UInt8)(hs:s.length<4294967281):Con Tryd.prog 56 [.str s,.str [c],.int .i64 0,.int .i64 (-1)] (undefs [.str s,.str [c],.int .i64 0,.int .i64 (-1)]) (ownS (splL s c)):=by
 have hcl:s.count c≤s.length:=List.count_le_length
 refine Con.fresh (splL s c) ⟨_,Tryd.func56,rfl,rfl⟩ (by rw[splL_len];unfold maxLn;omega) (fun x hx=> ?_) (fun w vals hp tb=> ?_) fun w R O vals hp=>parts_flat _ _ _ rfl hp
 ·have:=splitK_piece [c] _ s x hx
  unfold maxLn;omega
 ·obtain⟨hl,os,h4,_⟩:=uni_of_parts _ _ _ hp
  match vals,hl with
  |[v0,v1,v2,v3],_=>
   obtain rfl:=(one_str (h4 0 _ v0 rfl rfl)).1
   obtain rfl:=(one_str (h4 1 _ v1 rfl rfl)).1
   obtain rfl:=one_int (h4 2 _ v2 rfl rfl)
   obtain rfl:=one_int (h4 3 _ v3 rfl rfl)
   have hcn:Lib.countB ⟨s.toArray⟩ ⟨#[c]⟩=s.count c:=Lib.count_one c s
   have k:=Any.strings_genSplit_core (L:={lays221 with}) lays221.i9 ⟨s.toArray⟩ ⟨#[c]⟩ 0 (-1) (Lib.countB ⟨s.toArray⟩ ⟨#[c]⟩+1) w hs (show 1≤1 by omega) (Nat.zero_le _)
    (fun x cc hx=>(Any.strings_Index_one {lays221 with} x c _).mono fun e w' ⟨he,hw⟩=>⟨by rw[he,←Lib.index_one],hw⟩)
    ((Any.strings_Count_one {lays221 with} ⟨s.toArray⟩ c w).mono fun e w' ⟨he,hw⟩=>⟨by rw[he,hcn];rfl,hw⟩) (by decide) (by decide) (by
     rw[if_pos (by decide),hcn]
     have:((⟨s.toArray⟩:ByteArray).size:Int)=s.length:=rfl
     omega)
   refine k.mono fun e w' ⟨he,hw⟩=> ?_
   rw[Nat.add_sub_cancel]at he hw
   have hle:=Lib.splitB_all ⟨#[c]⟩ (show 1≤1 by omega) 0 _ ⟨s.toArray⟩ rfl
   have hda:=Lib.splitB_data ⟨#[c]⟩ 0 (Lib.countB ⟨s.toArray⟩ ⟨#[c]⟩) ⟨s.toArray⟩
   refine⟨?_,9,?_⟩
   ·rw[he,hle,splL_len,hcn]
   ·rw[hw]
    have e2:Lib.cellsOf (Lib.splitB ⟨#[c]⟩ 0 (Lib.countB ⟨s.toArray⟩ ⟨#[c]⟩) ⟨s.toArray⟩) (Lib.countB ⟨s.toArray⟩ ⟨#[c]⟩+1)=((splL s c).map fun s=>Value.string ⟨s.toArray⟩).toArray:=by
     rw[←hle,Lib.cellsOf_full]
     congr 1
     have:splL s c=(Lib.splitB ⟨#[c]⟩ 0 (Lib.countB ⟨s.toArray⟩ ⟨#[c]⟩) ⟨s.toArray⟩).map (·.data.toList):=by rw[hda];rfl
     rw[this,List.map_map]
     rfl
    rw[e2]
    rfl
theorem c46(s:List UInt8)(c:UInt8)(hs:s.length<4294967281):Con Tryd.prog 46 [.str s,.str [c]] (undefs [.str s,.str [c]]) (ownS (splL s c)):=by
 have k:=c56 s c hs
 refine Con.ev 8 T_ok mix Tryd.func46 rfl rfl rfl rfl [.tmp 4] rfl ?_
 conv=>whnf
 (iterate 9 ((first|refine rq_s (by solve|simp only[decide_eq_true_eq]|fail) ?_|apply rq_s rfl|refine fac_s (fun hf=> ?_)|apply lend_s|refine call_s (k ..) ?_);conv=>whnf));(refine rows_s (by((refine sub_all ?_;simp;done))) ?_;conv=>whnf);(refine sh_s ?_;(rfl))
end U4
