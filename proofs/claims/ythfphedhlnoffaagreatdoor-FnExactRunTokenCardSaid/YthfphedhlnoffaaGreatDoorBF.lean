import Derived.Test.YthfphedhlnoffaaGreatDoorBV
import Derived.Test.YthfphedhlnoffaaGreatDoorLK
import Derived.Shelf.Strings.Search3
import Derived.Shelf.Strings.Count
import Derived.Shelf.Strings.SplitCore
import Derived.Shelf.LaysM
import Derived.Test.YthfphedhlnoffaaGreatDoorBA
/- strings.Split at one byte, strings.Fields on ASCII bytes: contracts, from the kit's shelf. -/
set_option linter.unusedVariables false
set_option linter.unusedSimpArgs false
set_option maxRecDepth 100000
open Go Go.Abs Go.Proofs V1
def K1.lays221_ren:Go.Shelf.Ren:=⟨fun|221=>198|268=>208|138=>209|143=>210|195=>223|197=>214|218=>224|219=>225|260=>230|217=>238|225=>239|224=>240|267=>241|266=>247|314=>248|n=>n,fun|9=>9|3=>3|31=>166|4=>4|0=>0|105=>210|21=>21|5=>5|46=>182|119=>188|139=>246|138=>245|146=>251|51=>181|n=>n,fun|1=>4|3=>5|4=>6|n=>n⟩
theorem K1.lays221:Go.Proofs.LaysM.n221 Tryz.prog K1.lays221_ren where
 mixed:=by kernel_rfl
 f138:=Tryz.func209.trans (congrArg some (by kernel_rfl))
 f143:=Tryz.func210.trans (congrArg some (by kernel_rfl))
 f195:=Tryz.func223.trans (congrArg some (by kernel_rfl))
 f197:=Tryz.func214.trans (congrArg some (by kernel_rfl))
 f217:=Tryz.func238.trans (congrArg some (by kernel_rfl))
 f218:=Tryz.func224.trans (congrArg some (by kernel_rfl))
 f219:=Tryz.func225.trans (congrArg some (by kernel_rfl))
 f221:=Tryz.func198.trans (congrArg some (by kernel_rfl))
 f224:=Tryz.func240.trans (congrArg some (by kernel_rfl))
 f225:=Tryz.func239.trans (congrArg some (by kernel_rfl))
 f260:=Tryz.func230.trans (congrArg some (by kernel_rfl))
 f266:=Tryz.func247.trans (congrArg some (by kernel_rfl))
 f267:=Tryz.func241.trans (congrArg some (by kernel_rfl))
 f268:=Tryz.func208.trans (congrArg some (by kernel_rfl))
 f314:=Tryz.func248.trans (congrArg some (by kernel_rfl))
 t0:=Tryz.underlying0
 a0:=Tryz.isAgg0
 z0:=Tryz.sizeOf0
 v0:=Tryz.zeroValue0
 t3:=Tryz.underlying3
 a3:=Tryz.isAgg3
 z3:=Tryz.sizeOf3
 v3:=Tryz.zeroValue3
 t4:=Tryz.underlying4
 a4:=Tryz.isAgg4
 z4:=Tryz.sizeOf4
 v4:=Tryz.zeroValue4
 t5:=Tryz.underlying5
 a5:=Tryz.isAgg5
 z5:=Tryz.sizeOf5
 v5:=Tryz.zeroValue5
 t9:=Tryz.underlying9
 a9:=Tryz.isAgg9
 z9:=Tryz.sizeOf9
 v9:=Tryz.zeroValue9
 t21:=Tryz.underlying21
 a21:=Tryz.isAgg21
 z21:=Tryz.sizeOf21
 v21:=Tryz.zeroValue21
 t31:=Tryz.underlying166
 a31:=Tryz.isAgg166
 z31:=Tryz.sizeOf166
 v31:=Tryz.zeroValue166
 t46:=Tryz.underlying182
 a46:=Tryz.isAgg182
 z46:=Tryz.sizeOf182
 v46:=Tryz.zeroValue182
 t51:=Tryz.underlying181
 a51:=Tryz.isAgg181
 z51:=Tryz.sizeOf181
 v51:=Tryz.zeroValue181
 t105:=Tryz.underlying210
 a105:=Tryz.isAgg210
 z105:=Tryz.sizeOf210
 v105:=Tryz.zeroValue210
 t119:=Tryz.underlying188
 a119:=Tryz.isAgg188
 z119:=Tryz.sizeOf188
 t138:=Tryz.underlying245
 a138:=Tryz.isAgg245
 z138:=Tryz.sizeOf245
 v138:=Tryz.zeroValue245
 t139:=Tryz.underlying246
 a139:=Tryz.isAgg246
 z139:=Tryz.sizeOf246
 v139:=Tryz.zeroValue246
 t146:=Tryz.underlying251
 a146:=Tryz.isAgg251
 z146:=Tryz.sizeOf251
 v146:=Tryz.zeroValue251
 g1:=by kernel_rfl
 g3:=by kernel_rfl
 g4:=by kernel_rfl
 i0:=by kernel_rfl
 i3:=by kernel_rfl
 i4:=by kernel_rfl
 i5:=by kernel_rfl
 i9:=by kernel_rfl
 i21:=by kernel_rfl
 i31:=by kernel_rfl
 i46:=by kernel_rfl
 i51:=by kernel_rfl
 i105:=by kernel_rfl
 i138:=by kernel_rfl
 i139:=by kernel_rfl
 i146:=by kernel_rfl
 m1:=by kernel_rfl
 s1_3:=fun w h=>Go.Proofs.cell_of_shapedOpen_int (zero:=#[.int .i64 0]) (t:=3) h (of_decide_eq_true (by kernel_rfl)) (by kernel_rfl) rfl (by kernel_rfl) (by kernel_rfl) Tryz.underlying3
 m3:=by kernel_rfl
 m4:=by kernel_rfl
def K1.lays157_ren:Go.Shelf.Ren:=⟨fun|157=>193|229=>199|199=>200|261=>211|311=>226|312=>227|n=>n,fun|9=>9|31=>166|3=>3|5=>5|4=>4|119=>188|0=>0|40=>190|152=>204|21=>21|154=>206|51=>181|141=>208|196=>224|193=>221|198=>227|49=>225|194=>222|201=>230|226=>242|46=>182|227=>243|n=>n,fun|0=>0|6=>1|n=>n⟩
theorem K1.lays157:Go.Proofs.LaysM.n157 Tryz.prog K1.lays157_ren where
 mixed:=by kernel_rfl
 f157:=Tryz.func193.trans (congrArg some (by kernel_rfl))
 f199:=Tryz.func200.trans (congrArg some (by kernel_rfl))
 f229:=Tryz.func199.trans (congrArg some (by kernel_rfl))
 f261:=Tryz.func211.trans (congrArg some (by kernel_rfl))
 f311:=Tryz.func226.trans (congrArg some (by kernel_rfl))
 f312:=Tryz.func227.trans (congrArg some (by kernel_rfl))
 t0:=Tryz.underlying0
 a0:=Tryz.isAgg0
 z0:=Tryz.sizeOf0
 v0:=Tryz.zeroValue0
 t3:=Tryz.underlying3
 a3:=Tryz.isAgg3
 z3:=Tryz.sizeOf3
 v3:=Tryz.zeroValue3
 t4:=Tryz.underlying4
 a4:=Tryz.isAgg4
 z4:=Tryz.sizeOf4
 v4:=Tryz.zeroValue4
 t5:=Tryz.underlying5
 a5:=Tryz.isAgg5
 z5:=Tryz.sizeOf5
 v5:=Tryz.zeroValue5
 t9:=Tryz.underlying9
 a9:=Tryz.isAgg9
 z9:=Tryz.sizeOf9
 v9:=Tryz.zeroValue9
 t21:=Tryz.underlying21
 a21:=Tryz.isAgg21
 z21:=Tryz.sizeOf21
 v21:=Tryz.zeroValue21
 t31:=Tryz.underlying166
 a31:=Tryz.isAgg166
 z31:=Tryz.sizeOf166
 v31:=Tryz.zeroValue166
 t40:=Tryz.underlying190
 a40:=Tryz.isAgg190
 z40:=Tryz.sizeOf190
 v40:=Tryz.zeroValue190
 t46:=Tryz.underlying182
 a46:=Tryz.isAgg182
 z46:=Tryz.sizeOf182
 v46:=Tryz.zeroValue182
 t49:=Tryz.underlying225
 a49:=Tryz.isAgg225
 z49:=Tryz.sizeOf225
 v49:=Tryz.zeroValue225
 t51:=Tryz.underlying181
 a51:=Tryz.isAgg181
 z51:=Tryz.sizeOf181
 v51:=Tryz.zeroValue181
 t119:=Tryz.underlying188
 a119:=Tryz.isAgg188
 z119:=Tryz.sizeOf188
 t141:=Tryz.underlying208
 a141:=Tryz.isAgg208
 z141:=Tryz.sizeOf208
 v141:=Tryz.zeroValue208
 t152:=Tryz.underlying204
 a152:=Tryz.isAgg204
 z152:=Tryz.sizeOf204
 v152:=Tryz.zeroValue204
 t154:=Tryz.underlying206
 a154:=Tryz.isAgg206
 z154:=Tryz.sizeOf206
 v154:=Tryz.zeroValue206
 t193:=Tryz.underlying221
 a193:=Tryz.isAgg221
 z193:=Tryz.sizeOf221
 v193:=Tryz.zeroValue221
 t194:=Tryz.underlying222
 a194:=Tryz.isAgg222
 z194:=Tryz.sizeOf222
 v194:=Tryz.zeroValue222
 t196:=Tryz.underlying224
 a196:=Tryz.isAgg224
 z196:=Tryz.sizeOf224
 v196:=Tryz.zeroValue224
 t198:=Tryz.underlying227
 a198:=Tryz.isAgg227
 z198:=Tryz.sizeOf227
 v198:=Tryz.zeroValue227
 t201:=Tryz.underlying230
 a201:=Tryz.isAgg230
 z201:=Tryz.sizeOf230
 v201:=Tryz.zeroValue230
 t226:=Tryz.underlying242
 a226:=Tryz.isAgg242
 z226:=Tryz.sizeOf242
 v226:=Tryz.zeroValue242
 t227:=Tryz.underlying243
 a227:=Tryz.isAgg243
 z227:=Tryz.sizeOf243
 v227:=Tryz.zeroValue243
 g0:=by kernel_rfl
 g6:=by kernel_rfl
 i0:=by kernel_rfl
 i3:=by kernel_rfl
 i4:=by kernel_rfl
 i5:=by kernel_rfl
 i9:=by kernel_rfl
 i21:=by kernel_rfl
 i31:=by kernel_rfl
 i40:=by kernel_rfl
 i46:=by kernel_rfl
 i49:=by kernel_rfl
 i51:=by kernel_rfl
 i141:=by kernel_rfl
 i152:=by kernel_rfl
 i154:=by kernel_rfl
 i193:=by kernel_rfl
 i194:=by kernel_rfl
 i196:=by kernel_rfl
 i198:=by kernel_rfl
 i201:=by kernel_rfl
 i226:=by kernel_rfl
 i227:=by kernel_rfl
 m0:=by kernel_rfl
 m6:=by kernel_rfl
namespace K1
theorem tW{w w':World}{R R' O:Cells}{loc loc':bG}{x:AV}{v:Value}(hx:x.flat=true)(h:AR w R loc x v O):AR w' R' loc' x v ae∧Emp O:=by
 cases h with
 |sc h e=>exact⟨.sc h ah,e⟩
 |_=>simp[AV.flat]at hx
theorem eJ{w:World}{R R':Cells}: ∀(l:List AV)(vals:List Value)(O:Cells),l.all AV.flat=true→Parts w R aC l vals O→Parts w R' aC l vals ae∧Emp O
 |[],[],O,_,h=>⟨ah,h⟩
 |[],_::_,_,_,h=>h.elim
 |_::_,[],_,_,h=>h.elim
 |x::l,v::vs,O,hf,h=>by
  simp only[List.all_cons,Bool.and_eq_true]at hf
  obtain⟨O1,O2,hO,hd,hx,hp⟩:=h
  obtain⟨h1,e1⟩:=tW (w':=w) (R':=R') (loc':=aC) hf.1 hx
  obtain⟨h2,e2⟩:=eJ l vs O2 hf.2 hp
  exact⟨⟨ae,ae,fun g o=>by simp[ae],ah.disj,h1,h2⟩,fun g o k=>((hO g o).1 k).elim (e1 g o) (e2 g o)⟩
def uG(s:List UInt8)(c:UInt8):List (List UInt8):=Lib.split s [c]
theorem ug{w:World}{R O:Cells}{s:List UInt8}{v:Value}(h:AR w R aC (.str s) v O):v=.string ⟨s.toArray⟩∧s.length≤cj:=by
 cases h with
 |sc h _=>exact h
theorem yE{w:World}{R O:Cells}{k:IntKind}{n:Int}{v:Value}(h:AR w R aC (.int k n) v O):v=.int k n:=by
 cases h with
 |sc h _=>exact h.1
theorem mZ(sep:List UInt8): ∀(k:Nat)(s:List UInt8),∀x∈Lib.splitK sep 0 k s,x.length≤s.length
 |0,s,x,h=>by simp[Lib.splitK]at h;subst h;exact Nat.le_refl _
 |k+1,s,x,h=>by
  unfold Lib.splitK at h
  split at h
  ·simp at h;subst h;exact Nat.le_refl _
  ·rcases List.mem_cons.1 h with rfl|h
   ·simp;omega
   ·have:=mZ sep k _ x h
    simp at this
    omega
theorem vx(s:List UInt8)(c:UInt8):(uG s c).length=s.count c+1:=by
 have:=Lib.splitB_all ⟨#[c]⟩ (show 1≤1 by omega) 0 _ ⟨s.toArray⟩ rfl
 have e:=Lib.splitB_data ⟨#[c]⟩ 0 (Lib.countB ⟨s.toArray⟩ ⟨#[c]⟩) ⟨s.toArray⟩
 unfold uG Lib.split
 rw[←Lib.count_one]
 have e2:=congrArg List.length e
 rw[List.length_map,this]at e2
 exact e2.symm
set_option maxHeartbeats 1000000 in
theorem c198(s:List UInt8)(c:UInt8)(hs:s.length<4294967281):Con Tryz.prog 198 [.str s,.str [c],.int .i64 0,.int .i64 (-1)] (aa [.str s,.str [c],.int .i64 0,.int .i64 (-1)]) (gA (uG s c)):=by
 have hcl:s.count c≤s.length:=List.count_le_length
 refine Con.fresh (uG s c) ⟨_,Tryz.func198,rfl,rfl⟩ (by rw[vx];unfold cj;omega) (fun x hx=> ?_) (fun w vals hp tb=> ?_) fun w R O vals hp=>eJ _ _ _ rfl hp
 ·have:=mZ [c] _ s x hx
  unfold cj;omega
 ·obtain⟨hl,os,h4,_⟩:=aL _ _ _ hp
  match vals,hl with
  |[v0,v1,v2,v3],_=>
   obtain rfl:=(ug (h4 0 _ v0 rfl rfl)).1
   obtain rfl:=(ug (h4 1 _ v1 rfl rfl)).1
   obtain rfl:=yE (h4 2 _ v2 rfl rfl)
   obtain rfl:=yE (h4 3 _ v3 rfl rfl)
   have hcn:Lib.countB ⟨s.toArray⟩ ⟨#[c]⟩=s.count c:=Lib.count_one c s
   have k:=Any.strings_genSplit_core (L:={lays221 with}) lays221.i9 ⟨s.toArray⟩ ⟨#[c]⟩ 0 (-1) (Lib.countB ⟨s.toArray⟩ ⟨#[c]⟩+1) w hs (show 1≤1 by omega) (Nat.zero_le _)
    (fun x cc hx=>(Any.strings_Index_one {lays221 with} x c _).mono fun e w' ⟨he,hw⟩=>⟨by rw[he,←Lib.index_one],hw⟩)
    ((Any.strings_Count_one {lays221 with} ⟨s.toArray⟩ c w).mono fun e w' ⟨he,hw⟩=>⟨by rw[he,hcn];rfl,hw⟩) (by decide) (by decide) (by
     rw[if_pos (by decide),hcn]
     have:((⟨s.toArray⟩:ByteArray).size:Int)=s.length:=rfl
     omega)
   refine k.mono fun e w' ⟨he,hw⟩=> ?_
   rw[Nat.add_sub_cancel]at he hw
   have hle:=Lib.splitB_all ⟨#[c]⟩ (show 1≤1 by omega) 0 _ ⟨s.toArray⟩ rfl
   have hda:=Lib.splitB_data ⟨#[c]⟩ 0 (Lib.countB ⟨s.toArray⟩ ⟨#[c]⟩) ⟨s.toArray⟩
   refine⟨?_,9,?_⟩
   ·rw[he,hle,vx,hcn]
   ·rw[hw]
    have e2:Lib.cellsOf (Lib.splitB ⟨#[c]⟩ 0 (Lib.countB ⟨s.toArray⟩ ⟨#[c]⟩) ⟨s.toArray⟩) (Lib.countB ⟨s.toArray⟩ ⟨#[c]⟩+1)=((uG s c).map fun s=>Value.string ⟨s.toArray⟩).toArray:=by
     rw[←hle,Lib.cellsOf_full]
     congr 1
     have:uG s c=(Lib.splitB ⟨#[c]⟩ 0 (Lib.countB ⟨s.toArray⟩ ⟨#[c]⟩) ⟨s.toArray⟩).map (·.data.toList):=by rw[hda];rfl
     rw[this,List.map_map]
     rfl
    rw[e2]
    rfl
instance:CC 198:=⟨_,@c198⟩
theorem c192(s:List UInt8)(c:UInt8)(hs:s.length<4294967281):Con Tryz.prog 192 [.str s,.str [c]] (aa [.str s,.str [c]]) (gA (uG s c)):=by
 have k:=c198 s c hs
 refine rn 8 Tryz.func192 [.tmp 4] (g:= ?_)
 conv=>whnf
 repeat' (first|(apply ac (by solve|simp only[decide_eq_true_eq]|fail);conv=>whnf)|(focus (refine af (by((refine ak ?_;simp;done))) ?_;conv=>whnf))|(focus (refine aA ?_;(rfl)))|refine bN ?_)
instance:CC 192:=⟨_,@c192⟩
theorem gE: ∀(l cur:List UInt8)(n:Nat),cur.length+l.length≤n→ ∀x∈Lib.fieldsGo cur l,x.length≤n
 |[],cur,n,h,x,hx=>by
  unfold Lib.fieldsGo at hx
  split at hx
  ·simp at hx
  ·simp at hx;subst hx;simpa using h
 |b::l,cur,n,h,x,hx=>by
  unfold Lib.fieldsGo at hx
  simp only[List.length_cons]at h
  split at hx
  ·split at hx
   ·exact gE l [] n (by simp;omega) x hx
   ·rcases List.mem_cons.1 hx with rfl|hx
    ·omega
    ·exact gE l [] n (by simp;omega) x hx
  ·exact gE l (cur++[b]) n (by simp;omega) x hx
theorem ye: ∀(l:List UInt8)(ws:Bool),Lib.cntF ws l≤l.length
 |[],ws=>by simp[Lib.cntF]
 |b::l,ws=>by
  have:=ye l (Lib.isSp b)
  simp only[Lib.cntF,List.length_cons]
  split<;>omega
theorem c193(s:List UInt8)(hs:s.length<4294967281)(ha: ∀b∈s,b.toNat<128):Con Tryz.prog 193 [.str s] (aa [.str s]) (gA (Lib.fields s)):=by
 have hlen:(Lib.fields s).length≤s.length:=by
  unfold Lib.fields
  rw[Lib.fieldsGo_length]
  have:=ye s true
  simp
  exact this
 refine Con.fresh (Lib.fields s) ⟨_,Tryz.func193,rfl,rfl⟩ (by unfold cj;omega) (fun x hx=> ?_) (fun w vals hp tb=> ?_) fun w R O vals hp=>eJ _ _ _ rfl hp
 ·have:=gE s [] s.length (by simp) x hx
  unfold cj;omega
 ·obtain⟨hl,os,h4,_⟩:=aL _ _ _ hp
  match vals,hl with
  |[v0],_=>
   obtain rfl:=(ug (h4 0 _ v0 rfl rfl)).1
   have ht:Lib.TabIs Tryz.prog w "strings.asciiSpace" .u8 Lib.asciiSpaceTab:=by
    have:=tb.is (nm:= "strings.asciiSpace") (g:=0) (cs:=(Lib.asciiSpaceTab.map fun z=>Value.int .u8 z).toArray) (by simp[uP]) (by kernel_rfl)
    exact this
   refine(Any.strings_Fields {lays157 with} lays157.i9 lays157.m0 ⟨s.toArray⟩ w hs (fun j b hb=>ha b (List.mem_of_getElem? (by simpa using hb))) ht).mono fun e w' ⟨he,hw⟩=> ?_
   exact⟨he,_,hw⟩
instance:CC 193:=⟨_,@c193⟩
end K1

/- Words of a dictionary: what is valid; contracts. -/
open Go Go.Abs Go.Proofs V1 H1
namespace K2
def mc(c:UInt8):Bool:=decide (33≤c.toNat)&&decide (c.toNat≤126)
theorem gI(s:List UInt8):oH s=(bm s.length 1 12&&s.all mc):=rfl
theorem c163(s:List UInt8):Con Tryz.prog 163 [.str s] (aa [.str s]) (.bool (oH s)):=by
 refine Con.evF 23 bH dI Tryz.func163 rfl rfl rfl rfl [.tmp 2] rfl fun⟨hx,_⟩=> ?_
 have hx:s.length≤cj:=hx 0
 unfold cj at hx
 conv=>whnf
 rotate_left
 refine LoopG.rounds (α:=Nat) bH dI [0,5,6] [] (fun i=>[(0,.str s),(5,.int .i64 s.length),(6,.int .i64 i)]) (fun _=>[]) (fun i=>i≤s.length∧ ∀j,j<i→mc (s.getD j 0)=true) (fun i=>s.length-i) ?_ ?_
 ·conv=>whnf
  exact aE 0 ⟨by simp,fun j hj=>by omega⟩ rfl rfl
 ·rintro i ⟨h1,h2⟩- -
  conv=>whnf
  iterate 4 (first|refine aO ?_|(refine bS ?_ ?_<;>intro hb))
  rotate_left
  iterate 3 (first|refine aO ?_|(refine bS ?_ ?_<;>intro hb))
  iterate 2 (rotate_left)
  refine aO ?_
  rotate_left
  ·simp only[Int.toNat_natCast]at hb
   have:s.all mc=false:=lT (i:=i) (by assumption) (show mc (s.getD i 0)=false by simp[mc]at*;omega)
   exact aA (by rw[gI,this,Bool.and_false])
  ·simp only[Int.toNat_natCast]at hb
   have:s.all mc=false:=lT (i:=i) (by assumption) (show mc (s.getD i 0)=false by simp[mc]at*;omega)
   exact aA (by rw[gI,this,Bool.and_false])
  ·rename_i hb1 hb2
   simp only[Int.toNat_natCast]at hb hb2
   refine aE (i+1) ⟨⟨by omega,fun j hj=> ?_⟩,by omega⟩ (by rw[ai (by omega) (by omega)];rfl) rfl
   by_cases hji:j=i
   ·subst hji;simp[mc]at*;omega
   ·exact h2 j (by omega)
  ·have:s.all mc=true:=kW fun j hj=>h2 j (by omega)
   exact aA (by rw[gI,this,Bool.and_true])
instance:CC 163:=⟨_,@c163⟩
theorem c134(s:List UInt8):Con Tryz.prog 134 [.str s] (aa [.str s]) (.bool (oH s)):=by
 have hw: ∀i,IntKind.i64.wrap (((s.getD i 0).toNat:Nat):Int)=((s.getD i 0).toNat:Int):=fun i=>by
  have:=(s.getD i 0).toNat_lt
  exact ai (by omega) (by omega)
 refine Con.evF 20 bH dI Tryz.func134 rfl rfl rfl rfl [.tmp 2] rfl fun⟨hx,_⟩=> ?_
 have hx:s.length≤cj:=hx 0
 unfold cj at hx
 conv=>whnf
 refine aO ?_
 (refine bS ?_ ?_<;>intro hb)
 refine aO ?_
 iterate 2 (rotate_left)
 ·exact aA (by rw[gI,hb,Bool.false_and])
 refine LoopG.rounds (α:=Nat) bH dI [0,3] [] (fun i=>[(0,.str s),(3,.int .i64 i)]) (fun _=>[]) (fun i=>i≤s.length∧ ∀j,j<i→mc (s.getD j 0)=true) (fun i=>s.length-i) ?_ ?_
 ·conv=>whnf
  exact aE 0 ⟨by simp,fun j hj=>by omega⟩ rfl rfl
 ·rintro i ⟨h1,h2⟩- -
  have hin:=hb
  conv=>whnf
  iterate 4 (first|refine aO ?_|(refine bS ?_ ?_<;>intro hb))
  iterate 2 (rotate_left)
  refine aO ?_
  rotate_left
  ·simp only[Int.toNat_natCast]at hb
   rw[hw]at hb
   have:s.all mc=false:=lT (i:=i) (by assumption) (show mc (s.getD i 0)=false by simp[mc,bm]at*;omega)
   exact aA (by rw[gI,this,Bool.and_false])
  ·simp only[Int.toNat_natCast]at hb
   rw[hw]at hb
   refine aE (i+1) ⟨⟨by omega,fun j hj=> ?_⟩,by omega⟩ (by rw[ai (by omega) (by omega)];rfl) rfl
   by_cases hji:j=i
   ·subst hji;simp[mc,bm]at*;omega
   ·exact h2 j (by omega)
  ·have:s.all mc=true:=kW fun j hj=>h2 j (by omega)
   exact aA (by rw[gI,this,hin];rfl)
instance:CC 134:=⟨_,@c134⟩
theorem c124(x:Wd):Con Tryz.prog 124 [wu x] (aa [wu x]) (.bool (cw x)):=by
 refine rn 44 Tryz.func124 [.tmp 2] (g:= ?_)
 conv=>whnf
 repeat' (first|(focus (refine aA ?_;(first|(simp_all[cw];done)|(simp_all[cw];rfl))))|refine aO ?_|(refine bS ?_ ?_<;>intro hb))
instance:CC 124:=⟨_,@c124⟩
theorem c97(x:Wd):Con Tryz.prog 97 [wu x] (aa [wu x]) (.bool (cw x)):=by
 have h4: ∀v:Int,(bm v 4096 4220&&(v.tmod 4==0))=(bm v 4096 4223&&decide (v.tmod 4=0)):=fun v=>by
  rw[Bool.eq_iff_iff]
  simp only[bm,Bool.and_eq_true,decide_eq_true_eq,beq_iff_eq]
  constructor
  ·rintro ⟨⟨h1,h2⟩,h3⟩
   exact⟨⟨h1,by omega⟩,h3⟩
  ·rintro ⟨⟨h1,h2⟩,h3⟩
   refine⟨⟨h1,?_⟩,h3⟩
   rw[Int.tmod_eq_emod_of_nonneg (by omega)]at h3
   omega
 refine rn 30 Tryz.func97 [.tmp 2] (g:= ?_)
 conv=>whnf
 refine aO ?_
 (refine bS ?_ ?_<;>intro hb)
 refine aO ?_
 rotate_left
 refine aO ?_
 (refine bS ?_ ?_<;>intro hb)
 refine aO ?_
 rotate_left
 iterate 4 (first|refine aO ?_|(refine bS ?_ ?_<;>intro hb))
 rotate_left
 refine aO ?_
 rotate_left
 (refine bS ?_ ?_<;>intro hb)
 refine aO ?_
 rotate_left
 refine aO ?_
 rotate_left
 ·exact aA (by simp[cw,hb])
 ·exact aA (by simp_all[cw])
 ·rename_i q1 q2 q3
  have:=h4 x.v
  rw[hb,Bool.true_and]at this
  exact aA (by rw[if_pos rfl,this,cw,if_neg q2,if_pos q3,q1,Bool.true_and])
 ·rename_i q1 q2 q3
  have:=h4 x.v
  rw[hb,Bool.false_and]at this
  exact aA (by rw[cw,if_neg q2,if_pos q3,q1,Bool.true_and,←this])
 ·exact aA (by simp_all[cw])
 ·exact aA (by simp_all[cw])
instance:CC 97:=⟨_,@c97⟩
theorem c123(x:Wd):Con Tryz.prog 123 [wu x] (aa [wu x]) (.bool (jh x)):=
 rn 6 Tryz.func123 [.tmp 2] (g:=go)
instance:CC 123:=⟨_,@c123⟩
end K2

/- The words of the kernel, by both: contracts. -/
open Go Go.Abs Go.Proofs V1 H1 K1 K2
namespace K3
def zw(g:List (List UInt8)):AV:=.ro [.str []] (g.map mF)
theorem c168:Con Tryz.prog 168 [] (aa []) (zw (bw.getD 0 [])):=by
 refine rn 2 Tryz.func168 [.tmp 0] (g:= ?_)
 conv=>whnf
 refine aO ?_
 rotate_left
 exact⟨Sh.own_ro (by omega) _ _⟩
instance:CC 168:=⟨_,@c168⟩
theorem c169:Con Tryz.prog 169 [] (aa []) (zw (bw.getD 1 [])):=by
 refine rn 2 Tryz.func169 [.tmp 0] (g:= ?_)
 conv=>whnf
 refine aO ?_
 rotate_left
 exact⟨Sh.own_ro (by omega) _ _⟩
instance:CC 169:=⟨_,@c169⟩
theorem c170:Con Tryz.prog 170 [] (aa []) (zw (bw.getD 2 [])):=by
 refine rn 2 Tryz.func170 [.tmp 0] (g:= ?_)
 conv=>whnf
 refine aO ?_
 rotate_left
 exact⟨Sh.own_ro (by omega) _ _⟩
instance:CC 170:=⟨_,@c170⟩
theorem c171:Con Tryz.prog 171 [] (aa []) (zw (bw.getD 3 [])):=by
 refine rn 2 Tryz.func171 [.tmp 0] (g:= ?_)
 conv=>whnf
 refine aO ?_
 rotate_left
 exact⟨Sh.own_ro (by omega) _ _⟩
instance:CC 171:=⟨_,@c171⟩
theorem c172:Con Tryz.prog 172 [] (aa []) (zw (bw.getD 4 [])):=by
 refine rn 2 Tryz.func172 [.tmp 0] (g:= ?_)
 conv=>whnf
 refine aO ?_
 rotate_left
 exact⟨Sh.own_ro (by omega) _ _⟩
instance:CC 172:=⟨_,@c172⟩
def kg(i:Nat):List Wd:=(bw.getD i []).zipIdx.map fun p=>⟨p.1,(i:Int)+1,(p.2:Int)+1⟩
def oU(i:Nat):List Wd:=(List.range i).flatMap kg
theorem AE:oU 5=dX:=by decide+kernel
theorem lM(i:Nat):oU (i+1)=oU i++kg i:=by simp[oU,List.range_succ]
theorem tu(i:Nat):(kg i).length=(bw.getD i []).length:=by simp[kg]
theorem pG{i j:Nat}(h:j<(bw.getD i []).length):(kg i).take (j+1)=(kg i).take j++[⟨(bw.getD i []).getD j [],(i:Int)+1,(j:Int)+1⟩]:=by
 rw[List.take_succ_eq_append_getElem (by rw[tu];exact h)]
 have hl:j<(kg i).length:=by rw[tu];exact h
 have:(kg i)[j]=⟨(bw.getD i []).getD j [],(i:Int)+1,(j:Int)+1⟩:=by
  unfold kg at hl⊢
  generalize bw.getD i []=g at h hl⊢
  simp[h]
 rw[this]
theorem uE(i:Nat)(h:i≤5):(oU i).length≤260:=by
 have:i=0∨i=1∨i=2∨i=3∨i=4∨i=5:=by omega
 rcases this with rfl|rfl|rfl|rfl|rfl|rfl<;>decide+kernel
def gR(g:List (List UInt8)):List AV:=[zw g]
theorem Ay(i:Nat):(bw.getD i []).length≤52:=by
 by_cases h:i<5
 ·have:i=0∨i=1∨i=2∨i=3∨i=4:=by omega
  rcases this with rfl|rfl|rfl|rfl|rfl<;>decide+kernel
 ·have:bw.getD i []=[]:=by
   rw[List.getD_eq_getElem?_getD,List.getElem?_eq_none (by show 5≤i;omega)]
   rfl
  rw[this];simp
theorem c133:Con Tryz.prog 133 [] (aa []) (bO dX):=by
 refine rn 43 Tryz.func133 [.tmp 0] (g:= ?_)
 conv=>whnf
 refine aO ?_
 rotate_left
 refine LoopG.frz 2 ?_
 conv=>whnf
 refine LoopG.bearT 1 101 zW rfl rfl ?_
 refine LoopG.auto (α:=Nat) bH dI [1,2,3] (fun i=>[(1,.ref 1 0 (oU i).length),(2,.ro [.emp] (bw.map gR)),(3,.int .i64 i)]) (fun i=>[(1,.live ⟨true,0,zW,(oU i).map dl⟩)]) (fun i=>i≤5) (fun i=>5-i) ?_ ?_
 ·conv=>whnf
  refine aO ?_
  rotate_left
  exact aE 0 (by omega) rfl rfl
 ·intro i hi _ _
  conv=>whnf
  (refine bS ?_ ?_<;>intro hb)
  rotate_left
  refine aO ?_
  rotate_left
  ·have hi5:i<5:=by simpa[bw]using hb
   refine LoopG.auto (α:=Nat) bH dI [1,2,3,4] (fun j=>[(1,.ref 1 0 (oU i++(kg i).take j).length),(2,.ro [.emp] (bw.map gR)),(3,.int .i64 i),(4,.int .i64 j)]) (fun j=>[(1,.live ⟨true,0,zW,(oU i++(kg i).take j).map dl⟩)]) (fun j=>j≤(bw.getD i []).length) (fun j=>(bw.getD i []).length-j) ?_ ?_
   ·conv=>whnf
    refine aO ?_
    rotate_left
    exact aE 0 (by omega) (by simp) (by simp)
   ·intro j hj _ _
    have h52:=Ay i
    have h26:=uE i hi
    conv=>whnf
    refine bN ?_
    (refine aH (by((try simp only[Int.toNat_natCast]);exact aI gR bw _ _ [] (by show _<5;omega))) ?_;conv=>whnf);(refine bS ?_ ?_<;>intro hb)
    refine bN ?_
    (refine aH (by((try simp only[Int.toNat_natCast]);exact aI gR bw _ _ [] (by show _<5;omega))) ?_;conv=>whnf)
    refine bN ?_
    (refine aH (by((try simp only[Int.toNat_natCast]);exact aI mF _ _ _ [] (by omega))) ?_;conv=>whnf);iterate 3 (first|(refine BG dl (y:=⟨(bw.getD i []).getD j [],IntKind.i64.wrap ((i:Int)+1),IntKind.i64.wrap ((j:Int)+1)⟩) rfl ?_;conv=>whnf)|refine bN ?_)
    rotate_left
    refine bN ?_
    rotate_left
    ·have hj2:j<(bw.getD i []).length:=by simpa using hb
     exact aE (j+1) ⟨by omega,by omega⟩ (by rw[pG hj2,ai (n:=(j:Int)+1) (by omega) (by omega),ai (by omega) (by omega),←List.append_assoc];rfl) (by rw[pG hj2,←List.append_assoc,ai (by omega) (by omega),ai (by omega) (by omega)])
    ·obtain rfl:j=(bw.getD i []).length:=(by have: ¬j<(bw.getD i []).length:=(by simpa using hb);omega)
     have e:(kg i).take (bw.getD i []).length=kg i:=by rw[←tu,List.take_length]
     exact aE (i+1) ⟨by omega,by omega⟩ (by rw[e,←lM,ai (by omega) (by omega)];first|done|rfl) (by rw[e,←lM])
  ·have h5: ¬i<5:=by simpa[bw]using hb
   obtain rfl:i=5:=by omega
   exact⟨by rw[AE];exact Sh.refl _⟩
instance:CC 133:=⟨_,@c133⟩
def Ga:List UInt8:=(bw.map fun g=>(g.intersperse [32]).flatten).intersperse [124] |>.flatten
theorem E7:uG Ga 124=bw.map fun g=>(g.intersperse [32]).flatten:=by decide+kernel
def gT(i:Nat):List UInt8:=(bw.map fun g=>(g.intersperse [32]).flatten).getD i []
theorem DH(i:Nat)(h:i<5):Lib.fields (gT i)=bw.getD i []:=by
 have:i=0∨i=1∨i=2∨i=3∨i=4:=by omega
 rcases this with rfl|rfl|rfl|rfl|rfl<;>decide+kernel
theorem kS(s:List UInt8)(h:s=Ga):Con Tryz.prog 192 [.str s,.str [124]] (aa [.str s,.str [124]]) (gA (bw.map fun g=>(g.intersperse [32]).flatten)):=by
 subst h
 have:=c192 Ga 124 (by decide+kernel)
 rw[E7]at this
 exact this
theorem kF(i:Nat)(h:i<5):Con Tryz.prog 193 [.str (gT i)] (aa [.str (gT i)]) (gA (bw.getD i [])):=by
 have:=c193 (gT i) (by
  have:i=0∨i=1∨i=2∨i=3∨i=4:=by omega
  rcases this with rfl|rfl|rfl|rfl|rfl<;>decide+kernel) (by
  have:i=0∨i=1∨i=2∨i=3∨i=4:=by omega
  rcases this with rfl|rfl|rfl|rfl|rfl<;>decide+kernel)
 rw[DH i h]at this
 exact this
abbrev JI:List (List UInt8):=bw.map fun g=>(g.intersperse [32]).flatten
theorem c161:Con Tryz.prog 161 [] (aa []) (bO dX):=by
 refine rn 34 Tryz.func161 [.tmp 0] (g:= ?_)
 conv=>whnf
 iterate 6 ((first|apply ac rfl|refine aG (fun hf=> ?_)|apply aB|refine ag (kS _ (by decide+kernel)) ?_);conv=>whnf)
 rotate_left
 refine LoopG.frz 7 ?_
 conv=>whnf
 refine LoopG.bearT 1 101 zW rfl rfl ?_
 refine LoopG.auto (α:=Nat) bH dI [1,7,8,9] (fun i=>[(1,.ref 1 0 (oU i).length),(7,.ro [.str []] (JI.map mF)),(8,.int .i64 5),(9,.int .i64 i)]) (fun i=>[(1,.live ⟨true,0,zW,(oU i).map dl⟩)]) (fun i=>i≤5) (fun i=>5-i) ?_ ?_
 ·conv=>whnf
  refine aO ?_
  rotate_left
  exact aE 0 (by omega) (by rfl) (by rfl)
 ·intro i hi _ _
  by_cases hi5:i<5
  ·have hbi:decide ((i:Int)<5)=true:=by simp;omega
   conv=>whnf
   (iterate 3 ((first|apply ac rfl|refine ac (by(((refine aU rfl ?_;rw[Int.toNat_natCast];exact decide_eq_true (show i<5 from hi5))))) ?_|refine bL (by assumption) ?_);conv=>whnf));(refine aH (by((try simp only[Int.toNat_natCast]);exact aI mF JI _ _ [] (by show _<5;omega))) ?_;conv=>whnf);iterate 4 ((first|apply ac rfl|refine aG (fun hf=> ?_)|apply aB|refine ag (kF _ hi5) ?_);conv=>whnf)
   rotate_left
   refine LoopG.frz 15 ?_
   conv=>whnf
   refine LoopG.auto (α:=Nat) bH dI [1,2,7,8,9,15,16,17] (fun j=>[(1,.ref 1 0 (oU i++(kg i).take j).length),(2,.int .i64 i),(7,.ro [.str []] (JI.map mF)),(8,.int .i64 5),(9,.int .i64 i),(15,.ro [.str []] ((bw.getD i []).map mF)),(16,.int .i64 (bw.getD i []).length),(17,.int .i64 j)]) (fun j=>[(1,.live ⟨true,0,zW,(oU i++(kg i).take j).map dl⟩)]) (fun j=>j≤(bw.getD i []).length) (fun j=>(bw.getD i []).length-j) ?_ ?_
   ·conv=>whnf
    refine aO ?_
    rotate_left
    exact aE 0 (by omega) (by simp[am,List.take_of_length_le]) (by simp)
   ·intro j hj _ _
    have h52:=Ay i
    have h26:=uE i hi
    conv=>whnf
    (refine bS ?_ ?_<;>intro hb)
    refine bN ?_
    (refine aH (by((try simp only[Int.toNat_natCast]);exact aI mF _ _ _ [] (by omega))) ?_;conv=>whnf);iterate 3 (first|(refine BG dl (y:=⟨(bw.getD i []).getD j [],IntKind.i64.wrap ((i:Int)+1),IntKind.i64.wrap ((j:Int)+1)⟩) rfl ?_;conv=>whnf)|refine bN ?_)
    rotate_left
    refine bN ?_
    rotate_left
    ·have hj2:j<(bw.getD i []).length:=by simpa using hb
     exact aE (j+1) ⟨by omega,by omega⟩ (by rw[pG hj2,ai (n:=(j:Int)+1) (by omega) (by omega),ai (by omega) (by omega),←List.append_assoc];rfl) (by rw[pG hj2,←List.append_assoc,ai (by omega) (by omega),ai (by omega) (by omega)])
    ·obtain rfl:j=(bw.getD i []).length:=(by have: ¬j<(bw.getD i []).length:=(by simpa using hb);omega)
     have e:(kg i).take (bw.getD i []).length=kg i:=by rw[←tu,List.take_length]
     exact aE (i+1) ⟨by omega,by omega⟩ (by rw[e,←lM,ai (by omega) (by omega)];first|done|rfl) (by rw[e,←lM])
  ·obtain rfl:i=5:=by omega
   have hbi:decide (((5:Nat):Int)<5)=false:=by decide
   conv=>whnf
   refine aO ?_
   rotate_left
   exact⟨by rw[AE];exact Sh.refl _⟩
instance:CC 161:=⟨_,@c161⟩
end K3

/- Dictionaries: what is valid; contracts. -/
open Go Go.Abs Go.Proofs V1 H1 K1 K2 K3
namespace K4
theorem wq(a b:Wd):((a.nm==b.nm)&&((a.k==b.k)&&((a.v==b.v)&&true)))=decide (a=b):=by
 cases a;cases b
 rw[Bool.eq_iff_iff]
 simp
theorem Lz(xs ys:List Wd):Con Tryz.prog 160 [fq xs,fq ys] (aa [fq xs,fq ys]) (.bool (decide (xs=ys))):=by
 refine Con.evF 26 bH dI Tryz.func160 rfl rfl rfl rfl [.tmp 4] rfl fun⟨hx,_⟩=> ?_
 have hx:=facts_len hx
 conv=>whnf
 (refine bS ?_ ?_<;>intro hb)
 refine aO ?_
 iterate 2 (rotate_left)
 ·refine aA ?_
  have:xs≠ys:=fun e=>hb (by rw[e])
  simp[this]
 ·refine LoopG.rounds (α:=Nat) bH dI [0,1,12,13] [] (fun i=>[(0,fq xs),(1,fq ys),(12,.int .i64 xs.length),(13,.int .i64 i)]) (fun _=>[]) (fun i=>i≤xs.length∧xs.take i=ys.take i) (fun i=>xs.length-i) ?_ ?_
  ·conv=>whnf
   exact aE 0 ⟨by simp,by simp⟩ (by simp[fq]) rfl
  ·rintro i ⟨h1,h2⟩- -
   conv=>whnf
   (refine bS ?_ ?_<;>intro hb)
   refine bN ?_
   (refine aH (by((try simp only[Int.toNat_natCast]);exact aI dl _ _ _ default (by first|omega|(simp;omega)))) ?_;conv=>whnf)
   refine bN ?_
   (refine aH (by((try simp only[Int.toNat_natCast]);exact aI dl _ _ _ default (by first|omega|(simp;omega)))) ?_;conv=>whnf);iterate 3 (first|refine bN ?_|(refine bS ?_ ?_<;>intro hb))
   iterate 2 (rotate_left)
   refine bN ?_
   rotate_left
   ·rw[wq]at hb
    refine aA ?_
    have:xs≠ys:=fun e=>by rw[e]at hb;simp at hb
    simp[this]
   ·rw[wq]at hb
    exact aE (i+1) ⟨⟨by omega,fX default h2 (by omega) (by omega) (of_decide_eq_true hb)⟩,by omega⟩ (by rw[ai (by omega) (by omega)];rfl) rfl
   ·refine aA ?_
    simp[gK h2 (by omega) (by omega)]
def qe(rs:List Wd):Bool:=decide (4096<rs.length)
theorem c191(rs:List Wd):Con Tryz.prog 191 [fq rs] (aa [fq rs]) (.bool (qe rs)):=by
 refine rn 6 Tryz.func191 [.tmp 2] (g:= ?_)
 conv=>whnf
 refine aO ?_
 (refine aA ?_;((simp[qe];omega)))
instance:CC 191:=⟨_,@c191⟩
def Li(rs:List Wd):List AV:=[fq rs]
def pC(rss:List (List Wd)):AV:=.ro [.emp] (rss.map Li)
theorem c197(rss:List (List Wd)):Con Tryz.prog 197 [pC rss,.fn 191 []] (aa [pC rss,.fn 191 []]) (.int .i64 (ml qe rss)):=by
 refine Con.evF 19 bH dI Tryz.func197 rfl rfl rfl rfl [.tmp 4] rfl fun⟨hx,_⟩=> ?_
 have hx:=facts_len hx
 conv=>whnf
 rotate_left
 refine LoopG.rounds (α:=Nat) bH dI [0,1,7,8] [] (fun i=>[(0,pC rss),(1,.fn 191 []),(7,.int .i64 rss.length),(8,.int .i64 i)]) (fun _=>[]) (fun i=>i≤rss.length∧ ∀j,j<i→qe (rss.getD j default)=false) (fun i=>rss.length-i) ?_ ?_
 ·conv=>whnf
  exact aE 0 ⟨by simp,fun j hj=>by omega⟩ (by simp[pC]) rfl
 ·rintro i ⟨h1,h2⟩- -
  conv=>whnf
  (refine bS ?_ ?_<;>intro hb)
  refine bN ?_
  (refine aH (by((try simp only[Int.toNat_natCast]);exact aI Li _ _ _ default (by first|omega|(simp;omega)))) ?_;conv=>whnf);iterate 5 (first|refine im ?_|refine bN ?_|(refine bS ?_ ?_<;>intro hb))
  iterate 2 (rotate_left)
  refine bN ?_
  rotate_left
  ·refine aA ?_
   rw[lJ default (by assumption) hb h2]
  ·refine aE (i+1) ⟨⟨by omega,fun j hj=> ?_⟩,by omega⟩ (by rw[ai (by omega) (by omega)];rfl) rfl
   by_cases hji:j=i
   ·subst hji;exact hb
   ·exact h2 j (by omega)
  ·refine aA ?_
   rw[jA default fun j hj=>h2 j (by omega)]
instance:CC 197:=⟨_,@c197⟩
theorem c190(rss:List (List Wd)):Con Tryz.prog 190 [pC rss,.fn 191 []] (aa [pC rss,.fn 191 []]) (.bool (rss.any qe)):=by
 refine rn 9 Tryz.func190 [.tmp 4] (g:= ?_)
 conv=>whnf
 refine aO ?_
 (refine aA ?_;((rw[←lS])))
instance:CC 190:=⟨_,@c190⟩
theorem c159(rs:List Wd):Con Tryz.prog 159 [.ro [.emp] [[fq rs]]] (aa [.ro [.emp] [[fq rs]]]) (.bool (decide (4096<rs.length))):=by
 have e:(.bool (decide (4096<rs.length)):AV)=.bool ([rs].any qe):=by simp[qe]
 rw[e]
 show Con Tryz.prog 159 [pC [rs]] (aa [pC [rs]]) _
 exact rn 5 Tryz.func159 [.tmp 2] (g:=go)
instance:CC 159:=⟨_,@c159⟩
theorem c121(xs:List Wd):Con Tryz.prog 121 [fq xs] (aa [fq xs]) (.bool (eh xs)):=by
 have k1:=Lz (xs.take 83) dX
 have k0:=c159 xs
 by_cases h1:83≤xs.length
 ·have hb1:decide (((xs.map dl).length:Int)≥83)=true:=by simp;omega
  by_cases h2:4096<xs.length
  ·rw[show decide (4096<xs.length)=true by simpa using h2]at k0
   have hg:(if decide (((xs.map dl).length:Int)≥83)=true then !true else false)=false:=by rw[hb1];rfl
   have e:eh xs=false:=by simp[eh];omega
   rw[e]
   refine rn 18 Tryz.func121 [.tmp 2] (g:= ?_)
   conv=>whnf
   (iterate 13 ((first|refine ac (by solve|simp only[cB]|fail) ?_|apply ac rfl|refine ChkS.mk (by kernel_rfl) ?_|refine bL (by assumption) ?_);conv=>whnf));(refine af (by((refine ak ?_;simp[List.length_map];done))) ?_;conv=>whnf);(iterate 18 (first|(apply ac rfl;(conv=>whnf))|(refine ChkS.mk (by kernel_rfl) ?_;(conv=>whnf))|(focus (apply aJ (by solve|simp|fail);(conv=>whnf)))|(refine bL (by assumption) ?_;(conv=>whnf))|(refine ag (k0 ..) ?_;(conv=>whnf))));(refine aA ?_;(rfl))
  ·rw[show decide (4096<xs.length)=false by simpa using h2]at k0
   have hg:(if decide (((xs.map dl).length:Int)≥83)=true then !false else false)=true:=by rw[hb1];rfl
   have e:eh xs=decide (xs.take 83=dX):=by simp[eh,h1];omega
   have hs:am (xs.map dl) 0 (Int.toNat 83-0)=(xs.take 83).map dl:=by simp[am,List.map_take]
   rw[e]
   refine rn 18 Tryz.func121 [.tmp 2] (g:= ?_)
   conv=>whnf
   (iterate 13 ((first|refine ac (by solve|simp only[cB]|fail) ?_|apply ac rfl|refine ChkS.mk (by kernel_rfl) ?_|refine bL (by assumption) ?_);conv=>whnf));(refine af (by((refine ak ?_;simp[List.length_map];done))) ?_;conv=>whnf);(iterate 21 ((first|refine ac (by solve|simp only[cB]|fail) ?_|apply ac rfl|refine ac (by refine aU rfl ?_;simp only[cB];omega) ?_|refine af (by(exact be _ _ _ _)) ?_|refine ChkS.mk (by kernel_rfl) ?_|refine bL (by assumption) ?_|refine ag (k0 ..) ?_|refine ag (c161 ..) ?_);conv=>whnf));(refine af (by((refine ak ?_;simp[List.length_map];done))) ?_;conv=>whnf);iterate 6 ((first|apply ac rfl|refine aG (fun hf=> ?_)|refine ChkS.mk (by kernel_rfl) ?_|refine ag (k1 ..) ?_);conv=>whnf)
   rotate_left
   exact aA (by rw[hb1];rfl)
 ·have hb1:decide (((xs.map dl).length:Int)≥83)=false:=by simp;omega
  have e:eh xs=false:=by simp[eh];omega
  rw[e]
  exact rn 18 Tryz.func121 [.tmp 2] (g:=go)
instance:CC 121:=⟨_,@c121⟩
theorem za(xs:List Wd):xs.any jh= !xs.all cw:=by
 have:=gn cw xs
 rw[←this,Bool.not_not]
 rfl
theorem c162(rs:List (Wd)):Con Tryz.prog 162 [fq rs,.fn 123 []] (aa [fq rs,.fn 123 []]) (.int .i64 (ml jh rs)):=by
 refine Con.evF 19 bH dI Tryz.func162 rfl rfl rfl rfl [.tmp 4] rfl fun⟨hx,_⟩=> ?_
 have hx:=facts_len hx
 conv=>whnf
 rotate_left
 refine LoopG.rounds (α:=Nat) bH dI [0,1,7,8] [] (fun i=>[(0,fq rs),(1,.fn 123 []),(7,.int .i64 rs.length),(8,.int .i64 i)]) (fun _=>[]) (fun i=>i≤rs.length∧ ∀j,j<i→jh (rs.getD j default)=false) (fun i=>rs.length-i) ?_ ?_
 ·conv=>whnf
  exact aE 0 ⟨by simp,fun j hj=>by omega⟩ (by simp[fq]) rfl
 ·rintro i ⟨h1,h2⟩- -
  conv=>whnf
  (refine bS ?_ ?_<;>intro hb)
  refine bN ?_
  (refine aH (by((try simp only[Int.toNat_natCast]);exact aI dl _ _ _ default (by first|omega|(simp;omega)))) ?_;conv=>whnf);iterate 3 (first|refine bN ?_|(refine bS ?_ ?_<;>intro hb))
  iterate 2 (rotate_left)
  refine bN ?_
  rotate_left
  ·refine aA ?_
   rw[lJ default (by assumption) hb h2]
  ·refine aE (i+1) ⟨⟨by omega,fun j hj=> ?_⟩,by omega⟩ (by rw[ai (by omega) (by omega)];rfl) rfl
   by_cases hji:j=i
   ·subst hji;exact hb
   ·exact h2 j (by omega)
  ·refine aA ?_
   rw[jA default fun j hj=>h2 j (by omega)]
instance:CC 162:=⟨_,@c162⟩
theorem c122(rs:List (Wd)):Con Tryz.prog 122 [fq rs,.fn 123 []] (aa [fq rs,.fn 123 []]) (.bool (rs.any jh)):=by
 refine rn 9 Tryz.func122 [.tmp 4] (g:= ?_)
 conv=>whnf
 refine aO ?_
 (refine aA ?_;((rw[←lS])))
instance:CC 122:=⟨_,@c122⟩
theorem Bv(xs:List Wd):Con Tryz.prog 122 [fq xs,.fn 123 []] (aa [fq xs,.fn 123 []]) (.bool (!xs.all cw)):=za xs▸c122 xs
theorem Bi{xs:List Wd}(h:eh xs=true):83≤xs.length:=by
 simp only[eh,Bool.and_eq_true,decide_eq_true_eq]at h
 exact h.1.1
theorem c91(xs:List Wd):Con Tryz.prog 91 [fq xs] (aa [fq xs]) (.bool (fJ xs)):=by
 have hs:am (xs.map dl) (Int.toNat 83) ((xs.map dl).length-Int.toNat 83)=(xs.drop 83).map dl:=by
  simp[am,List.map_drop,List.take_of_length_le]
 refine rn 16 Tryz.func91 [.tmp 2] (g:= ?_)
 conv=>whnf
 iterate 11 (first|(refine ag (Bv (xs.drop 83) ..) ?_;conv=>whnf)|(apply af (by(exact hs));conv=>whnf)|(apply ac (by(((have h83:=Bi (by assumption);simp;omega))));conv=>whnf)|refine im ?_|refine bN ?_|(refine bS ?_ ?_<;>intro hb))
 rotate_left
 refine bN ?_
 rotate_left
 refine bN ?_
 rotate_left
 ·have h103:xs.length≤103:=by omega
  exact aA (by simp[fJ,hb,h103])
 ·exact aA (by simp[fJ,hb])
 ·have h103: ¬xs.length≤103:=by omega
  exact aA (by simp[fJ,h103])
instance:CC 91:=⟨_,@c91⟩
def qr(xs:List Wd):Bool:=decide (83≤xs.length)&&decide (xs.take 83=dX)
theorem c96(xs:List Wd):Con Tryz.prog 96 [fq xs] (aa [fq xs]) (.bool (qr xs)):=by
 have h83:=vD
 refine rn 26 Tryz.func96 [.tmp 2] (g:= ?_)
 conv=>whnf
 refine aO ?_
 (refine bS ?_ ?_<;>intro hb)
 refine aO ?_
 iterate 2 (rotate_left)
 ·exact aA (by have: ¬83≤xs.length:=(by omega);simp[qr,this])
 refine LoopG.frz 3 ?_
 conv=>whnf
 refine LoopG.rounds (α:=Nat) bH dI [0,3,4] [] (fun i=>[(0,fq xs),(3,fq dX),(4,.int .i64 i)]) (fun _=>[]) (fun i=>i≤83∧xs.take i=dX.take i) (fun i=>83-i) ?_ ?_
 ·conv=>whnf
  exact aE 0 ⟨by simp,by simp⟩ (by simp[fq,am,List.take_of_length_le]) rfl
 ·rintro i ⟨h1,h2⟩- -
  conv=>whnf
  (refine bS ?_ ?_<;>intro hb)
  refine bN ?_
  (refine aH (by((try simp only[Int.toNat_natCast]);exact aI dl _ _ _ default (by first|omega|(simp;omega)))) ?_;conv=>whnf)
  refine bN ?_
  (refine aH (by((try simp only[Int.toNat_natCast]);exact aI dl _ _ _ default (by first|omega|(simp;omega)))) ?_;conv=>whnf);iterate 3 (first|refine bN ?_|(refine bS ?_ ?_<;>intro hb))
  iterate 2 (rotate_left)
  refine bN ?_
  rotate_left
  ·rw[wq]at hb
   have:xs.take 83≠dX:=fun e=>by
    have hk:xs.getD i default=dX.getD i default:=by
     rw[←e];simp[List.getElem?_take,show i<83 by omega]
    rw[hk]at hb
    simp at hb
   exact aA (by simp[qr,this])
  ·rw[wq]at hb
   exact aE (i+1) ⟨⟨by omega,fX default h2 (by omega) (by omega) (of_decide_eq_true hb)⟩,by omega⟩ (by rw[ai (by omega) (by omega)];rfl) rfl
  ·obtain rfl:i=83:=by omega
   have e:xs.take 83=dX:=by rw[h2,←h83,List.take_length]
   have hl:83≤xs.length:=by omega
   exact aA (by simp[qr,e,hl])
instance:CC 96:=⟨_,@c96⟩
theorem sI(xs:List Wd)(j:Nat):(xs.drop 83).getD j default=xs.getD (83+j) default:=by simp
theorem oM(xs:List Wd)(h:xs.length≤103):fJ xs=(qr xs&&(xs.drop 83).all cw):=by
 have h2:xs.length≤4096:=by omega
 simp[fJ,eh,qr,h,h2]
theorem c57(xs:List Wd):Con Tryz.prog 57 [fq xs] (aa [fq xs]) (.bool (fJ xs)):=by
 refine rn 24 Tryz.func57 [.tmp 2] (g:= ?_)
 conv=>whnf
 (refine bS ?_ ?_<;>intro hb)
 refine aO ?_
 rotate_left
 refine aO ?_
 (refine bS ?_ ?_<;>intro hb)
 refine aO ?_
 iterate 2 (rotate_left)
 ·have h103: ¬xs.length≤103:=by omega
  exact aA (by simp[fJ,h103])
 ·exact aA (by rw[oM xs (by omega),hb];rfl)
 rename_i q103
 have hsm:=hb
 have h83:83≤xs.length:=by simp only[qr,Bool.and_eq_true,decide_eq_true_eq]at hb;exact hb.1
 refine LoopG.rounds (α:=Nat) bH dI [0,3] [] (fun i=>[(0,fq xs),(3,.int .i64 i)]) (fun _=>[]) (fun i=>(83≤i∧i≤xs.length)∧ ∀j,83≤j→j<i→cw (xs.getD j default)=true) (fun i=>xs.length-i) ?_ ?_
 ·conv=>whnf
  exact aE 83 ⟨⟨by omega,by omega⟩,fun j h1 h2=>by omega⟩ rfl rfl
 ·rintro i ⟨h1,h2⟩- -
  conv=>whnf
  (refine bS ?_ ?_<;>intro hb)
  refine bN ?_
  (refine aH (by((try simp only[Int.toNat_natCast]);exact aI dl _ _ _ default (by first|omega|(simp;omega)))) ?_;conv=>whnf);iterate 3 (first|refine bN ?_|(refine bS ?_ ?_<;>intro hb))
  iterate 2 (rotate_left)
  refine bN ?_
  rotate_left
  ·have:(xs.drop 83).all cw=false:=lT (i:=i-83) (by simp;omega) (by rw[sI,show 83+(i-83)=i by omega];exact hb)
   exact aA (by rw[oM xs (by omega),this,Bool.and_false])
  ·refine aE (i+1) ⟨⟨⟨by omega,by omega⟩,fun j h3 h4=> ?_⟩,by omega⟩ (by rw[ai (by omega) (by omega)];rfl) rfl
   by_cases hji:j=i
   ·subst hji;exact hb
   ·exact h2 j h3 (by omega)
  ·have:(xs.drop 83).all cw=true:=kW fun j hj=>by
    rw[List.length_drop]at hj
    rw[sI]
    exact h2 (83+j) (by omega) (by omega)
   exact aA (by rw[oM xs (by omega),this,hsm];rfl)
instance:CC 57:=⟨_,@c57⟩
end K4

/- Machines: sizes, copies, comparisons; contracts. -/
open Go Go.Abs Go.Proofs V1 H1 K1 K2 K3 K4
namespace M1
theorem c54(x:Wd)(l:Int)(h0:0≤l)(h1:l≤1048576)(hx:x.nm.length≤cj):Con Tryz.prog 54 [wu x,.int .i64 l] (aa [wu x,.int .i64 l]) (.int .i64 (vU x l)):=by
 unfold cj at hx
 have w:IntKind.i64.wrap (l-x.nm.length)=l-x.nm.length:=ai (by omega) (by omega)
 by_cases hn:l-x.nm.length<0
 ·have hb:decide (IntKind.i64.wrap (l-x.nm.length)<0)=true:=by rw[w];simpa using hn
  rw[vU,if_pos hn]
  exact rn 13 Tryz.func54 [.tmp 4] (g:=go)
 ·have hb:decide (IntKind.i64.wrap (l-x.nm.length)<0)=false:=by rw[w];simpa using hn
  rw[vU,if_neg hn]
  refine rn 13 Tryz.func54 [.tmp 4] (g:= ?_)
  conv=>whnf
  refine aO ?_
  (refine aA ?_;((rw[w])))
instance:CC 54:=⟨_,@c54⟩
theorem c17(xs:List Wd)(s:Int)(s0:0≤s)(s1:s≤1048576):Con Tryz.prog 17 [fq xs,.int .i64 s] (aa [fq xs,.int .i64 s]) (.int .i64 (xf xs s)):=by
 refine Con.evF 27 bH dI Tryz.func17 rfl rfl rfl rfl [.tmp 4] rfl fun⟨hf0,_⟩=> ?_
 have hnm: ∀i,i<xs.length→(xs.getD i default).nm.length≤cj:=fun i hi=>by
  have h1: ∀row∈xs.map dl,∀x∈row,x.facts 0:=(hf0 1).2
  have e:xs.getD i default=xs[i]:=by simp[hi]
  have h2:=h1 (dl xs[i]) (List.mem_map.2 ⟨_,List.getElem_mem hi,rfl⟩) (.str xs[i].nm) (by simp[dl])
  rw[e];exact h2
 have hx:=facts_len hf0
 have w0:IntKind.i64.wrap (s-((xs.map dl).length:Int))=s-xs.length:=by rw[List.length_map];exact ai (by omega) (by omega)
 by_cases hn:s-xs.length<0
 ·have hb:decide (IntKind.i64.wrap (s-((xs.map dl).length:Int))<0)=true:=by rw[w0];simpa using hn
  rw[xf,if_pos hn]
  conv=>whnf
  exact go
 ·have hb:decide (IntKind.i64.wrap (s-((xs.map dl).length:Int))<0)=false:=by rw[w0];simpa using hn
  rw[xf,if_neg hn]
  conv=>whnf
  refine aO ?_
  rotate_left
  refine LoopG.rounds (α:=Nat × Int) bH dI [0,1,5] [] (fun a=>[(0,fq xs),(1,.int .i64 a.2),(5,.int .i64 a.1)]) (fun _=>[]) (fun a=>a.1≤xs.length∧(0≤a.2∧a.2≤1048576)∧vc (xs.drop a.1) a.2=vc xs (s-xs.length)) (fun a=>xs.length-a.1) ?_ ?_
  ·conv=>whnf
   exact aE (0,s-xs.length) ⟨by simp,⟨by simp only;omega,by simp only;omega⟩,by simp⟩ (by rw[w0];rfl) rfl
  ·rintro ⟨i,l⟩ ⟨h1,h2,h3⟩- -
   simp only at h1 h2 h3
   by_cases hi:i=xs.length
   ·subst hi
    have hb2:decide ((xs.length:Int)<((xs.map dl).length:Int))=false:=by simp
    rw[List.drop_length]at h3
    conv=>whnf
    (focus (apply aJ (by(simp;done));conv=>whnf))
    refine aO ?_
    (refine aA ?_;((rw[←h3];rfl)))
   ·have hi2:i<xs.length:=by omega
    have hb2:decide ((i:Int)<((xs.map dl).length:Int))=true:=by simp;omega
    have k1:=c54 (xs.getD i default) l h2.1 h2.2 (hnm i hi2)
    rw[zK hi2]at h3
    have hle:vU (xs.getD i default) l≤1048576:=by unfold vU;split<;>omega
    by_cases hneg:vU (xs.getD i default) l<0
    ·have hb3:decide (vU (xs.getD i default) l<0)=true:=by simpa using hneg
     rw[if_pos hneg]at h3
     conv=>whnf
     repeat' (first|(refine aH (by((try simp only[Int.toNat_natCast]);exact aI dl _ _ _ default (by first|omega|(simp;omega)))) ?_;conv=>whnf)|(focus (refine aA ?_;((rw[←h3]))))|refine bN ?_)
    ·have hb3:decide (vU (xs.getD i default) l<0)=false:=by simpa using hneg
     rw[if_neg hneg]at h3
     conv=>whnf
     refine bN ?_
     (refine aH (by((try simp only[Int.toNat_natCast]);exact aI dl _ _ _ default (by first|omega|(simp;omega)))) ?_;conv=>whnf)
     refine bN ?_
     rotate_left
     exact aE (i+1,vU (xs.getD i default) l) ⟨⟨by simp only;omega,⟨by simp only;omega,hle⟩,h3⟩,by simp only;omega⟩ (by rw[ai (by omega) (by omega)];rfl) rfl
instance:CC 17:=⟨_,@c17⟩
def mT(m:Mch)(l:Int):Int:=jX (xf m.ws l) fun l=>jX (mz m.co.length l) fun l=>jX (kI m.da l) fun l=>jX (ko m.ho l) fun l=>jX (mz m.ca.length l) id
theorem c6(m:Mch)(l:Int)(h0:0≤l)(h1:l≤1048576):Con Tryz.prog 6 [aR m,.int .i64 l] (aa [aR m,.int .i64 l]) (.int .i64 (mT m l)):=by
 refine rn 36 Tryz.func6 [.tmp 4] (g:= ?_)
 conv=>whnf
 repeat' (first|(refine ag (c17 m.ws l h0 h1 ..) ?_;conv=>whnf)|(refine ag (c19 m.da ..) ?_;conv=>whnf)|(refine ag (c20 m.ho ..) ?_;conv=>whnf)|(focus (refine aA ?_;(first|(simp_all[mT,jX];done)|(simp_all[mT,jX];omega))))|refine aO ?_|(refine bS ?_ ?_<;>intro hb))
def smallM(m:Mch):Prop:=m.ws.length≤1048576∧m.co.length≤1048576∧ep m.da∧dA m.ho∧m.ca.length≤1048576
theorem oV{m:Mch}{l:Int}(h1:0≤l)(h2:l≤1048576)(hl:MchLen m)(e:0≤mT m l):mT m l≤l∧smallM m:=by
 unfold mT at e⊢
 obtain⟨a0,e,q0⟩:=dY e
 have k0:=Db h1 h2 a0
 obtain⟨a1,e,q1⟩:=dY e
 have k1:=ja (by omega) (by omega) hl.co a1
 obtain⟨a2,e,q2⟩:=dY e
 have k2:=sX (by omega) (by omega) hl.st hl.bk hl.ce hl.ou a2
 obtain⟨a3,e,q3⟩:=dY e
 have k3:=tz (by omega) (by omega) hl.gr hl.hs hl.q hl.ds a3
 obtain⟨a4,e,q4⟩:=dY e
 have k4:=ja (by omega) (by omega) hl.ca a4
 try simp only[id]at*
 refine⟨by rw[q0,q1,q2,q3,q4];(try simp only[id]);omega,k0.2,k1.2,k2.2,k3.2,k4.2⟩
theorem c8(m:Mch)(hs:smallM m):Con Tryz.prog 8 [aR m] (aa [aR m]) (wA m):=by
 refine rn 31 Tryz.func8 [.cell 2 41] (g:= ?_)
 conv=>whnf
 (iterate 90 ((first|refine ac (by solve|simp only[cB,aF,aK,aX,aW,bO,kh,bR,gA]|fail) ?_|apply ac rfl|apply af rfl|refine aG (fun hf=> ?_)|apply aB|refine ag (c26 _ hs.1) ?_|refine ag (c27 _ hs.2.1) ?_|refine ag (c28 m.da hs.2.2.1 ..) ?_|refine ag (c29 m.ho hs.2.2.2.1 ..) ?_|refine ag (c30 _ hs.2.2.2.2) ?_);conv=>whnf));(iterate 10 (refine af (by((refine ak ?_;simp[List.length_map,aF,aK,aX,aW,bO,kh,bR,gA];done))) ?_;conv=>whnf));(refine aA ?_;(rfl))
theorem zR(m:Mch):Con Tryz.prog 10 [aR m,aR m] (aa [aR m,aR m]) (.bool true):=by
 have e1:Con Tryz.prog 34 [fq m.ws,fq m.ws] (aa [fq m.ws,fq m.ws]) (.bool true):=by simpa using c34 m.ws m.ws
 have e2:Con Tryz.prog 35 [dL m.co,dL m.co] (aa [dL m.co,dL m.co]) (.bool true):=by simpa using c35 m.co m.co
 have e3:Con Tryz.prog 36 [az m.da,az m.da] (aa [az m.da,az m.da]) (.bool true):=by simpa using c36 m.da m.da
 have e4:Con Tryz.prog 37 [cV m.ho,cV m.ho] (aa [cV m.ho,cV m.ho]) (.bool true):=by simpa using c37 m.ho m.ho
 have e5:Con Tryz.prog 38 [od m.ca,od m.ca] (aa [od m.ca,od m.ca]) (.bool true):=by simpa using c38 m.ca m.ca
 refine rn 45 Tryz.func10 [.tmp 4] (g:= ?_)
 conv=>whnf
 iterate 14 (first|(focus (apply aJ (by(simp;done));conv=>whnf))|(refine ag (e5 ..) ?_;conv=>whnf)|(refine ag (e4 ..) ?_;conv=>whnf)|(refine ag (e3 ..) ?_;conv=>whnf)|(refine ag (e2 ..) ?_;conv=>whnf)|(refine ag (e1 ..) ?_;conv=>whnf)|refine aO ?_)
 exact go
def lY(m:Mch):Int:=3*(m.ws.length:Int)+1*(m.co.length:Int)+cJ m.da+dg m.ho+4*(m.ca.length:Int)
def eI(m:Mch)(k:Int):Mch:=⟨hH ma 3 m.ws.length k,hH eY 1 m.co.length (k+3*(m.ws.length:Int)),aZ m.da (k+3*(m.ws.length:Int)+1*(m.co.length:Int)),aV m.ho (k+3*(m.ws.length:Int)+1*(m.co.length:Int)+cJ m.da),
 hH lm 4 m.ca.length (k+3*(m.ws.length:Int)+1*(m.co.length:Int)+cJ m.da+dg m.ho),m.ip,m.fu⟩
theorem sq(m:Mch)(k:Int)(h1:0≤k)(h2:k+lY m≤100000000)(hd:0≤cJ m.da)(hh:0≤dg m.ho):Con Tryz.prog 11 [wA m,.int .i64 k]
  [.agg [bO (eI m k).ws,aK (eI m k).co,aK (eI m k).da.st,aK (eI m k).da.bk,aK (eI m k).da.ce,.undef,.undef,.undef,aX (eI m k).ho.gr,aK (eI m k).ho.st,aK (eI m k).ho.q,.undef,aW (eI m k).ho.ds,bR (eI m k).ca,.undef,.undef],.undef] (.int .i64 (k+lY m)):=by
 unfold lY at h2
 refine Con.evH 26 [some 500000,some 500001,some 500002,some 500003,some 500004,none,none,none,some 500008,some 500009,some 500010,none,some 500012,some 500013,none,none] [500000,500001,500002,500003,500004,500008,500009,500010,500012,500013] rfl rfl bH dI Tryz.func11 rfl rfl rfl rfl [.tmp 4] rfl ?_
 conv=>whnf
 (iterate 11 ((first|refine ac (by solve|simp only[cB,aF,aZ,aV,aK,aX,aW,bO,kh,bR,gA]|fail) ?_|apply ac rfl|apply af rfl|refine mP 39 0 ?_|refine jL (f:=39) (j:=0) (c39 _ _ (by omega) (by omega)) (by solve|simp[List.length_map,aF,aZ,aV,aK,aX,aW,bO,kh,bR,gA]|fail) (by rfl) (by rfl) ?_);conv=>whnf));(iterate 68 ((first|refine ac (by solve|simp only[cB,aF,aZ,aV,aK,aX,aW,bO,kh,bR,gA]|fail) ?_|apply ac rfl|apply af rfl|refine aG (fun hf=> ?_)|refine mP 40 0 ?_|refine jL (f:=40) (j:=0) (c40 _ _ (by omega) (by omega)) (by solve|simp[List.length_map,aF,aZ,aV,aK,aX,aW,bO,kh,bR,gA]|fail) (by rfl) (by rfl) ?_|refine iE 41 ?_|refine gj (f:=41) (c41 m.da _ (by omega) (by omega)) (by solve|simp[ox,List.length_map,aF,aZ,aV,aK,aX,aW,bO,kh,bR,gA]|fail) ?_|refine iE 42 ?_|refine gj (f:=42) (c42 m.ho _ (by omega) (by omega)) (by solve|simp[ox,List.length_map,aF,aZ,aV,aK,aX,aW,bO,kh,bR,gA]|fail) ?_|refine mP 43 0 ?_|refine jL (f:=43) (j:=0) (c43 _ _ (by omega) (by omega)) (by solve|simp[List.length_map,aF,aZ,aV,aK,aX,aW,bO,kh,bR,gA]|fail) (by rfl) (by rfl) ?_);conv=>whnf));(iterate 10 (focus (refine pz (by(simp[AV.rowsN,List.length_map,aF,aZ,aV,aK,aX,aW,bO,kh,bR,gA];done)) rfl ?_;conv=>whnf)));(refine aA ?_;((simp only[lY];congr 1;omega)))
theorem A9(m:Mch)(k:Int)(h1:0≤k)(h2:k+lY m≤100000000)(hd:0≤cJ m.da)(hh:0≤dg m.ho):Con Tryz.prog 12 [aR (eI m k),.int .i64 k] (aa [aR (eI m k),.int .i64 k]) (.int .i64 (k+lY m)):=by
 unfold lY at h2
 have e1:=c44 (hH ma 3 m.ws.length k) k (by omega) (by rw[aF];omega)
 rw[kX]at e1
 have e2:=c45 (hH eY 1 m.co.length (k+3*(m.ws.length:Int))) (k+3*(m.ws.length:Int)) (by omega) (by rw[aF];omega)
 rw[kX]at e2
 have e3:=c46 (aZ m.da (k+3*(m.ws.length:Int)+1*(m.co.length:Int))) (k+3*(m.ws.length:Int)+1*(m.co.length:Int)) (by omega) (by rw[xk];omega)
 rw[vH _ _ (by omega)]at e3
 have e4:=c47 (aV m.ho (k+3*(m.ws.length:Int)+1*(m.co.length:Int)+cJ m.da)) (k+3*(m.ws.length:Int)+1*(m.co.length:Int)+cJ m.da) (by omega) (by rw[xi];omega)
 rw[vR _ _ (by omega)]at e4
 have e5:=c48 (hH lm 4 m.ca.length (k+3*(m.ws.length:Int)+1*(m.co.length:Int)+cJ m.da+dg m.ho)) (k+3*(m.ws.length:Int)+1*(m.co.length:Int)+cJ m.da+dg m.ho) (by omega) (by rw[aF];omega)
 rw[kX]at e5
 refine rn 36 Tryz.func12 [.tmp 4] (g:= ?_)
 conv=>whnf
 (iterate 10 (first|(apply ac rfl;(conv=>whnf))|(apply af rfl;(conv=>whnf))|(refine aG (fun hf=> ?_);(conv=>whnf))|(refine cm ?_ ?_<;>intro hb<;>(try simp only[eH]at hb)<;>conv=>whnf)|(apply aB;(conv=>whnf))|(refine ag (e1 ..) ?_;(conv=>whnf))));(refine aA ?_;(first|(exfalso;omega)|(simp only[lY];congr 1;omega)));(iterate 9 (first|(apply ac rfl;(conv=>whnf))|(apply af rfl;(conv=>whnf))|(refine aG (fun hf=> ?_);(conv=>whnf))|(refine cm ?_ ?_<;>intro hb<;>(try simp only[eH]at hb)<;>conv=>whnf)|(apply aB;(conv=>whnf))|(refine ag (e2 ..) ?_;(conv=>whnf))));(refine aA ?_;(first|(exfalso;omega)|(simp only[lY];congr 1;omega)));(iterate 16 (first|(apply ac rfl;(conv=>whnf))|(apply af rfl;(conv=>whnf))|(refine aG (fun hf=> ?_);(conv=>whnf))|(refine cm ?_ ?_<;>intro hb<;>(try simp only[eH]at hb)<;>conv=>whnf)|(apply aB;(conv=>whnf))|(refine ag (e3 ..) ?_;(conv=>whnf))));(refine aA ?_;(first|(exfalso;omega)|(simp only[lY];congr 1;omega)));(iterate 16 (first|(apply ac rfl;(conv=>whnf))|(apply af rfl;(conv=>whnf))|(refine aG (fun hf=> ?_);(conv=>whnf))|(refine cm ?_ ?_<;>intro hb<;>(try simp only[eH]at hb)<;>conv=>whnf)|(apply aB;(conv=>whnf))|(refine ag (e4 ..) ?_;(conv=>whnf))));(refine aA ?_;(first|(exfalso;omega)|(simp only[lY];congr 1;omega)));(iterate 9 (first|(apply ac rfl;(conv=>whnf))|(apply af rfl;(conv=>whnf))|(refine aG (fun hf=> ?_);(conv=>whnf))|(refine cm ?_ ?_<;>intro hb<;>(try simp only[eH]at hb)<;>conv=>whnf)|(apply aB;(conv=>whnf))|(refine ag (e5 ..) ?_;(conv=>whnf))));(refine aA ?_;(first|(exfalso;omega)|(simp only[lY];congr 1;omega)));(apply ac rfl;conv=>whnf);(refine aA ?_;(first|(exfalso;omega)|(simp only[lY];congr 1;omega)))
end M1

/- Machines: what is valid; contracts. -/
open Go Go.Abs Go.Proofs V1 H1 K1 K2 K3 K4 M1
namespace M2
theorem yd{cs:List Cal}(h:0<cs.length):ly cs= !(cs.getD ((cs.length:Int)-1).toNat default).ca:=by
 have e:((cs.length:Int)-1).toNat=cs.length-1:=by omega
 have h0:decide (cs.length=0)=false:=decide_eq_false (by omega)
 rw[e,ly,h0,Bool.false_or]
theorem BQ{cs:List Cal}(h:cs.length=0):ly cs=true:=by simp[ly,h]
theorem iH{n:Nat}{fl:Int}{cs:List Cal}:ez n fl (cs.drop cs.length)=true:=by rw[List.drop_length];rfl
theorem c50(m:Mch):Con Tryz.prog 50 [aR m] (aa [aR m]) (.bool (cZ m)):=by
 refine Con.evF 103 bH dI Tryz.func50 rfl rfl rfl rfl [.tmp 2] rfl fun⟨hx,_⟩=> ?_
 have hl:=(jm hx).ca
 have e1:((m.co.length:Int)≤400)=(m.co.length≤400):=propext ⟨fun _=>by omega,fun _=>by omega⟩
 conv=>whnf
 (iterate 38 (first|(apply ac rfl;(conv=>whnf))|(apply af rfl;(conv=>whnf))|(apply bL rfl;(conv=>whnf))|(refine cm ?_ ?_<;>intro hb<;>(try simp only[eH]at hb)<;>conv=>whnf)|(apply aB;(conv=>whnf))|(refine ag (c91 ..) ?_;(conv=>whnf))));(focus (refine aA ?_;(first|(simp_all[cZ,dc];done)|(simp_all[cZ,dc];omega))));(iterate 36 (first|(apply ac rfl;(conv=>whnf))|(apply af rfl;(conv=>whnf))|(apply bL rfl;(conv=>whnf))|(apply aJ rfl;(conv=>whnf))|(refine cm ?_ ?_<;>intro hb<;>(try simp only[eH]at hb)<;>conv=>whnf)|(apply aB;(conv=>whnf))|(refine ag (c92 ..) ?_;(conv=>whnf))));(focus (refine aA ?_;(first|(simp_all[cZ,dc];done)|(simp_all[cZ,dc];omega))));(iterate 37 (first|(apply ac rfl;(conv=>whnf))|(apply af rfl;(conv=>whnf))|(apply bL rfl;(conv=>whnf))|(apply aJ rfl;(conv=>whnf))|(refine cm ?_ ?_<;>intro hb<;>(try simp only[eH]at hb)<;>conv=>whnf)|(apply aB;(conv=>whnf))|(refine ag (c93 m.da ..) ?_;(conv=>whnf))));(focus (refine aA ?_;(first|(simp_all[cZ,dc];done)|(simp_all[cZ,dc];omega))));(iterate 32 (first|(apply ac rfl;(conv=>whnf))|(apply af rfl;(conv=>whnf))|(apply bL rfl;(conv=>whnf))|(apply aJ rfl;(conv=>whnf))|(refine cm ?_ ?_<;>intro hb<;>(try simp only[eH]at hb)<;>conv=>whnf)|(apply aB;(conv=>whnf))|(refine ag (c94 m.ho ..) ?_;(conv=>whnf))));(focus (refine aA ?_;(first|(simp_all[cZ,dc];done)|(simp_all[cZ,dc];omega))));(iterate 16 (first|(apply ac rfl;(conv=>whnf))|(apply bL rfl;(conv=>whnf))|(apply aJ rfl;(conv=>whnf))|(refine cm ?_ ?_<;>intro hb<;>(try simp only[eH]at hb)<;>conv=>whnf)));(focus (refine aA ?_;(first|(simp_all[cZ,dc];done)|(simp_all[cZ,dc];omega))));(iterate 16 (first|(apply ac rfl;(conv=>whnf))|(apply bL rfl;(conv=>whnf))|(apply aJ rfl;(conv=>whnf))|(refine cm ?_ ?_<;>intro hb<;>(try simp only[eH]at hb)<;>conv=>whnf)|(apply aB;(conv=>whnf))|(refine ag (c95 ..) ?_;(conv=>whnf))));(focus (refine aA ?_;(first|(simp_all[cZ,dc];done)|(simp_all[cZ,dc];omega))));(iterate 11 (first|(apply ac rfl;(conv=>whnf))|(apply aJ rfl;(conv=>whnf))|(refine cm ?_ ?_<;>intro hb<;>(try simp only[eH]at hb)<;>conv=>whnf)|(apply aB;(conv=>whnf))|(refine ag (c95 ..) ?_;(conv=>whnf))));(focus (refine aA ?_;(first|(simp_all[cZ,dc];done)|(simp_all[cZ,dc];omega))));(apply ac rfl;conv=>whnf)
 rotate_left
 have h16:m.ca.length≤16:=by omega
 have fin:cZ m=(ez m.da.bk.length 0 m.ca&&ly m.ca):=by simp_all[cZ,dc]
 rw[fin]
 refine LoopG.rounds (α:=Nat × Int) bH dI [1,3,47,48,49] [(1,1)] (fun a=>[(1,.ptr 1 0 0),(3,.int .i64 a.2),(47,od m.ca),(48,.int .i64 m.ca.length),(49,.int .i64 a.1)]) (fun _=>[(1,.live ⟨false,0,gx m,[gx m]⟩)]) (fun a=>a.1≤m.ca.length∧ez m.da.bk.length a.2 (m.ca.drop a.1)=ez m.da.bk.length 0 m.ca) (fun a=>m.ca.length-a.1) ?_ ?_
 ·conv=>whnf
  exact aE (0,0) ⟨by simp,by simp⟩ (by simp[od]) rfl
 ·rintro ⟨i,fl⟩ ⟨h1,h2⟩- -
  simp only at h1 h2⊢
  conv=>whnf
  (refine bS ?_ ?_<;>intro hb)
  refine bN ?_
  (refine aH (by((try simp only[Int.toNat_natCast]);exact aI bF _ _ _ default (by first|omega|(simp;omega)))) ?_;conv=>whnf);iterate 3 (first|refine bN ?_|(refine bS ?_ ?_<;>intro hb))
  rotate_left
  iterate 3 (first|refine bN ?_|(refine bS ?_ ?_<;>intro hb))
  rotate_left
  iterate 3 (first|refine bN ?_|(refine bS ?_ ?_<;>intro hb))
  rotate_left
  iterate 5 (first|refine bN ?_|(refine bS ?_ ?_<;>intro hb))
  rotate_left
  refine bN ?_
  rotate_left
  refine bN ?_
  rotate_left
  iterate 3 (first|refine bN ?_|(refine bS ?_ ?_<;>intro hb))
  rotate_left
  iterate 6 (first|(refine aH (by((simp only[List.length_map];rewrite[ai (by omega) (by omega)];exact aI bF _ _ _ default (by omega)))) ?_;conv=>whnf)|(apply ac (by(((simp only[List.length_map];rw[ai (by omega) (by omega)];simp;omega))));conv=>whnf)|refine bN ?_)
  rotate_left
  all_goals (try (have hi:i<m.ca.length:=(by assumption)))
  all_goals (try (rw[na hi]at h2))
  all_goals (first
   |(refine aA ?_;rw[←h2];simp_all[kO];done)
   |(refine aE (i+1,(m.ca.getD i default).fl) ⟨⟨by simp only;omega,by rw[←h2];simp_all[kO,show bm 0 0 31=true from rfl]⟩,by simp only;omega⟩ (by rw[ai (by omega) (by omega)];rfl) rfl)
   |skip)
  ·obtain rfl:i=m.ca.length:=by omega
   rw[iH]at h2
   exact aA (by rw[←h2,BQ (by omega)];rfl)
  ·obtain rfl:i=m.ca.length:=by omega
   rw[iH]at h2
   exact aA (by rw[←h2,yd (by omega),Bool.true_and];rfl)
instance:CC 50:=⟨_,@c50⟩
theorem c61(m:Mch):Con Tryz.prog 61 [aR m] (aa [aR m]) (.bool (dc m.da.bk.length m.ca)):=by
 refine Con.evF 75 bH dI Tryz.func61 rfl rfl rfl rfl [.tmp 2] rfl fun⟨hx,_⟩=> ?_
 have hl:=(jm hx).ca
 conv=>whnf
 refine aO ?_
 (refine bS ?_ ?_<;>intro hb)
 refine aO ?_
 iterate 2 (rotate_left)
 ·have h16: ¬m.ca.length≤16:=by omega
  exact aA (by simp[dc,h16])
 have h16:m.ca.length≤16:=by omega
 have fin:dc m.da.bk.length m.ca=(ez m.da.bk.length 0 m.ca&&ly m.ca):=by simp[dc,h16]
 rw[fin]
 refine LoopG.rounds (α:=Nat × Int) bH dI [1,3,4] [(1,1)] (fun a=>[(1,.ptr 1 0 0),(3,.int .i64 a.2),(4,.int .i64 a.1)]) (fun _=>[(1,.live ⟨false,0,gx m,[gx m]⟩)]) (fun a=>a.1≤m.ca.length∧ez m.da.bk.length a.2 (m.ca.drop a.1)=ez m.da.bk.length 0 m.ca) (fun a=>m.ca.length-a.1) ?_ ?_
 ·conv=>whnf
  exact aE (0,0) ⟨by simp,by simp⟩ rfl rfl
 ·rintro ⟨i,fl⟩ ⟨h1,h2⟩- -
  simp only at h1 h2⊢
  conv=>whnf
  (iterate 3 (first|refine bN ?_|(refine bS ?_ ?_<;>intro hb)));(refine aH (by((try simp only[Int.toNat_natCast]);exact aI bF _ _ _ default (by first|omega|(simp;omega)))) ?_;conv=>whnf);iterate 3 (first|refine bN ?_|(refine bS ?_ ?_<;>intro hb))
  rotate_left
  iterate 3 (first|refine bN ?_|(refine bS ?_ ?_<;>intro hb))
  rotate_left
  iterate 5 (first|refine bN ?_|(refine bS ?_ ?_<;>intro hb))
  rotate_left
  iterate 5 (first|refine bN ?_|(refine bS ?_ ?_<;>intro hb))
  rotate_left
  refine bN ?_
  rotate_left
  refine bN ?_
  rotate_left
  iterate 5 (first|refine bN ?_|(refine bS ?_ ?_<;>intro hb))
  rotate_left
  refine bN ?_
  rotate_left
  refine bN ?_
  rotate_left
  iterate 3 (first|refine bN ?_|(refine bS ?_ ?_<;>intro hb))
  rotate_left
  iterate 6 (first|(refine aH (by((simp only[List.length_map];rewrite[ai (by omega) (by omega)];exact aI bF _ _ _ default (by omega)))) ?_;conv=>whnf)|(apply ac (by(((simp only[List.length_map];rw[ai (by omega) (by omega)];simp;omega))));conv=>whnf)|refine bN ?_)
  rotate_left
  all_goals (try (have hi:i<m.ca.length:=(by assumption)))
  all_goals (try (rw[na hi]at h2))
  all_goals (first
   |(refine aA ?_;rw[←h2];simp_all[kO];done)
   |(refine aE (i+1,(m.ca.getD i default).fl) ⟨⟨by simp only;omega,by rw[←h2];simp_all[kO,show bm 0 0 31=true from rfl]⟩,by simp only;omega⟩ (by rw[ai (by omega) (by omega)];rfl) rfl)
   |skip)
  ·obtain rfl:i=m.ca.length:=by omega
   rw[iH]at h2
   exact aA (by rw[←h2,BQ (by omega)];rfl)
  ·obtain rfl:i=m.ca.length:=by omega
   rw[iH]at h2
   exact aA (by rw[←h2,yd (by omega),Bool.true_and];rfl)
instance:CC 61:=⟨_,@c61⟩
theorem c22(m:Mch):Con Tryz.prog 22 [aR m] (aa [aR m]) (.bool (cZ m)):=by
 have e1:((m.co.length:Int)≤400)=(m.co.length≤400):=propext ⟨fun _=>by omega,fun _=>by omega⟩
 refine rn 41 Tryz.func22 [.tmp 2] (g:= ?_)
 conv=>whnf
 repeat' (first|(refine ag (c59 m.da ..) ?_;conv=>whnf)|(refine ag (c60 m.ho ..) ?_;conv=>whnf)|(refine ag (c61 m ..) ?_;conv=>whnf)|(focus (refine aA ?_;(first|(simp_all[cZ];done)|(simp_all[cZ];omega))))|refine aO ?_|(refine bS ?_ ?_<;>intro hb))
instance:CC 22:=⟨_,@c22⟩
end M2
