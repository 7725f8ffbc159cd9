/- Sizes, copies, comparisons and marks of the data, each with its contract. -/
import Derived.Test.YtidkogijdlfjpaaGreatDoorProg
import Derived.KernelRfl
import Derived.Test.YtidkogijdlfjpaaGreatDoorAbsf
import Derived.Test.YtidkogijdlfjpaaGreatDoorAbs7
import Derived.Test.YtidkogijdlfjpaaGreatDoorAbsk
set_option linter.unusedVariables false
set_option linter.unusedSimpArgs false
set_option maxRecDepth 100000
open Go Go.Abs Go.Proofs
namespace V1
def T:TT:=[(2,TI.mk (UT.int IntKind.i64) 1 8 [AV.int IntKind.i64 0] false),
 (3,TI.mk (UT.int IntKind.i64) 1 8 [AV.int IntKind.i64 0] false),
 (4,TI.mk UT.bool 1 1 [AV.bool false] false),
 (5,TI.mk (UT.int IntKind.u8) 1 1 [AV.int IntKind.u8 0] false),
 (6,TI.mk (UT.int IntKind.u8) 1 1 [AV.int IntKind.u8 0] false),
 (7,TI.mk (UT.struct [(0,2),(1,3),(2,4),(3,6)]) 4 24 [AV.int IntKind.i64 0,AV.int IntKind.i64 0,AV.bool false,AV.int IntKind.u8 0] true),
 (8,TI.mk (UT.struct [(0,2),(1,3),(2,4),(3,6)]) 4 24 [AV.int IntKind.i64 0,AV.int IntKind.i64 0,AV.bool false,AV.int IntKind.u8 0] true),
 (9,TI.mk UT.str 1 16 [AV.str []] false),
 (10,TI.mk UT.str 1 16 [AV.str []] false),
 (11,TI.mk UT.str 1 16 [AV.str []] false),
 (12,TI.mk (UT.int IntKind.u64) 1 8 [AV.int IntKind.u64 0] false),
 (13,TI.mk (UT.struct [(0,9),(1,12)]) 2 24 [AV.str [],AV.int IntKind.u64 0] false),
 (14,TI.mk (UT.struct [(0,9),(1,12)]) 2 24 [AV.str [],AV.int IntKind.u64 0] false),
 (18,TI.mk (UT.struct [(0,17)]) 1 8 [AV.nilp] false),
 (19,TI.mk (UT.struct [(0,17)]) 1 8 [AV.nilp] false),
 (21,TI.mk (UT.int IntKind.i32) 1 4 [AV.int IntKind.i32 0] false),
 (22,TI.mk (UT.slice 3) 1 24 [AV.emp] false),
 (23,TI.mk (UT.struct [(0,22),(1,22),(2,22),(3,3),(4,3),(5,9)]) 6 104 [AV.emp,AV.emp,AV.emp,AV.int IntKind.i64 0,AV.int IntKind.i64 0,AV.str []] true),
 (24,TI.mk (UT.struct [(0,22),(1,22),(2,22),(3,3),(4,3),(5,9)]) 6 104 [AV.emp,AV.emp,AV.emp,AV.int IntKind.i64 0,AV.int IntKind.i64 0,AV.str []] true),
 (26,TI.mk (UT.struct [(0,22),(1,22),(2,22),(3,3),(4,3),(5,9)]) 6 104 [AV.emp,AV.emp,AV.emp,AV.int IntKind.i64 0,AV.int IntKind.i64 0,AV.str []] true),
 (39,TI.mk (UT.slice 5) 1 24 [AV.emp] false),
 (48,TI.mk (UT.slice 22) 1 24 [AV.emp] false),
 (68,TI.mk (UT.array 3 3) 3 24 [AV.int IntKind.i64 0,AV.int IntKind.i64 0,AV.int IntKind.i64 0] false),
 (76,TI.mk (UT.struct [(0,39),(1,3),(2,3)]) 3 40 [AV.emp,AV.int IntKind.i64 0,AV.int IntKind.i64 0] true),
 (77,TI.mk (UT.struct [(0,39),(1,3),(2,3)]) 3 40 [AV.emp,AV.int IntKind.i64 0,AV.int IntKind.i64 0] true),
 (80,TI.mk (UT.slice 9) 1 24 [AV.emp] false),
 (83,TI.mk (UT.slice 4) 1 24 [AV.emp] false),
 (92,TI.mk (UT.int IntKind.u32) 1 4 [AV.int IntKind.u32 0] false),
 (93,TI.mk (UT.int IntKind.u64) 1 8 [AV.int IntKind.u64 0] false),
 (94,TI.mk (UT.int IntKind.u64) 1 8 [AV.int IntKind.u64 0] false),
 (98,TI.mk (UT.struct [(0,97),(1,39)]) 2 32 [AV.nilp,AV.emp] true),
 (99,TI.mk (UT.struct [(0,97),(1,39)]) 2 32 [AV.nilp,AV.emp] true),
 (126,TI.mk (UT.slice 141) 1 24 [AV.emp] false),
 (128,TI.mk (UT.array 65 5) 65 65 [AV.int IntKind.u8 0,AV.int IntKind.u8 0,AV.int IntKind.u8 0,AV.int IntKind.u8 0,AV.int IntKind.u8 0,AV.int IntKind.u8 0,AV.int IntKind.u8 0,AV.int IntKind.u8 0,AV.int IntKind.u8 0,AV.int IntKind.u8 0,AV.int IntKind.u8 0,AV.int IntKind.u8 0,AV.int IntKind.u8 0,AV.int IntKind.u8 0,AV.int IntKind.u8 0,AV.int IntKind.u8 0,AV.int IntKind.u8 0,AV.int IntKind.u8 0,AV.int IntKind.u8 0,AV.int IntKind.u8 0,AV.int IntKind.u8 0,AV.int IntKind.u8 0,AV.int IntKind.u8 0,AV.int IntKind.u8 0,AV.int IntKind.u8 0,AV.int IntKind.u8 0,AV.int IntKind.u8 0,AV.int IntKind.u8 0,AV.int IntKind.u8 0,AV.int IntKind.u8 0,AV.int IntKind.u8 0,AV.int IntKind.u8 0,AV.int IntKind.u8 0,AV.int IntKind.u8 0,AV.int IntKind.u8 0,AV.int IntKind.u8 0,AV.int IntKind.u8 0,AV.int IntKind.u8 0,AV.int IntKind.u8 0,AV.int IntKind.u8 0,AV.int IntKind.u8 0,AV.int IntKind.u8 0,AV.int IntKind.u8 0,AV.int IntKind.u8 0,AV.int IntKind.u8 0,AV.int IntKind.u8 0,AV.int IntKind.u8 0,AV.int IntKind.u8 0,AV.int IntKind.u8 0,AV.int IntKind.u8 0,AV.int IntKind.u8 0,AV.int IntKind.u8 0,AV.int IntKind.u8 0,AV.int IntKind.u8 0,AV.int IntKind.u8 0,AV.int IntKind.u8 0,AV.int IntKind.u8 0,AV.int IntKind.u8 0,AV.int IntKind.u8 0,AV.int IntKind.u8 0,AV.int IntKind.u8 0,AV.int IntKind.u8 0,AV.int IntKind.u8 0,AV.int IntKind.u8 0,AV.int IntKind.u8 0] false),
 (131,TI.mk (UT.struct [(0,5),(1,5)]) 2 2 [AV.int IntKind.u8 0,AV.int IntKind.u8 0] true),
 (132,TI.mk (UT.struct [(0,5),(1,5)]) 2 2 [AV.int IntKind.u8 0,AV.int IntKind.u8 0] true),
 (140,TI.mk (UT.struct [(0,92),(1,92),(2,139)]) 5 20 [AV.int IntKind.u32 0,AV.int IntKind.u32 0,AV.int IntKind.i32 0,AV.int IntKind.i32 0,AV.int IntKind.i32 0] true),
 (141,TI.mk (UT.struct [(0,92),(1,92),(2,139)]) 5 20 [AV.int IntKind.u32 0,AV.int IntKind.u32 0,AV.int IntKind.i32 0,AV.int IntKind.i32 0,AV.int IntKind.i32 0] true),
 (144,TI.mk (UT.struct [(0,17),(1,17),(2,17),(3,9)]) 4 40 [AV.nilp,AV.nilp,AV.nilp,AV.str []] false),
 (145,TI.mk (UT.struct [(0,17),(1,17),(2,17),(3,9)]) 4 40 [AV.nilp,AV.nilp,AV.nilp,AV.str []] false),
 (147,TI.mk (UT.struct [(0,146)]) 0 0 [] false),
 (148,TI.mk (UT.struct [(0,146)]) 0 0 [] false),
 (149,TI.mk (UT.int IntKind.u8) 1 1 [AV.int IntKind.u8 0] false),
 (150,TI.mk (UT.int IntKind.u8) 1 1 [AV.int IntKind.u8 0] false),
 (152,TI.mk (UT.int IntKind.i32) 1 4 [AV.int IntKind.i32 0] false),
 (153,TI.mk (UT.int IntKind.i32) 1 4 [AV.int IntKind.i32 0] false),
 (154,TI.mk (UT.struct [(0,12),(1,12),(2,92),(3,149),(4,5),(5,5),(6,150),(7,151),(8,108),(9,152),(10,153)]) 11 48 [AV.int IntKind.u64 0,AV.int IntKind.u64 0,AV.int IntKind.u32 0,AV.int IntKind.u8 0,AV.int IntKind.u8 0,AV.int IntKind.u8 0,AV.int IntKind.u8 0,AV.nilfn,AV.nilp,AV.int IntKind.i32 0,AV.int IntKind.i32 0] false),
 (155,TI.mk (UT.struct [(0,12),(1,12),(2,92),(3,149),(4,5),(5,5),(6,150),(7,151),(8,108),(9,152),(10,153)]) 11 48 [AV.int IntKind.u64 0,AV.int IntKind.u64 0,AV.int IntKind.u32 0,AV.int IntKind.u8 0,AV.int IntKind.u8 0,AV.int IntKind.u8 0,AV.int IntKind.u8 0,AV.nilfn,AV.nilp,AV.int IntKind.i32 0,AV.int IntKind.i32 0] false)]
theorem T_ok:T.ok Tryz.prog:=by repeat' first|exact TT.ok_nil|refine TT.ok_cons (by kernel_rfl) ?_
theorem mix:Tryz.prog.follows .mixedOrders=true:=by kernel_rfl
theorem c27(xs:List Int)(left:Int):Con Tryz.prog 27 [roI xs,.int .i64 left] (undefs [roI xs,.int .i64 left]) (.int .i64 (szN xs.length left)):=by
 refine Con.ev 12 T_ok mix Tryz.func27 rfl rfl rfl rfl [.tmp 4] rfl ?_
 conv=>whnf
 (refine br_s ?_ ?_<;>intro hb<;>(try simp only[cln]at hb)<;>conv=>whnf);(apply rq_s rfl;conv=>whnf);(focus (refine sh_s ?_;(first|(simp_all[szN];done)|(simp_all[szN];omega))));(apply rq_s rfl;conv=>whnf);(focus (refine sh_s ?_;(first|(simp_all[szN];done)|(simp_all[szN];omega))))
theorem c15(rs:List Int)(h:rs.length≤1048576):Con Tryz.prog 15 [roI rs] (undefs [roI rs]) (.own 0 zI (rs.map intR)):=by
 refine Con.ev 22 T_ok mix Tryz.func15 rfl rfl rfl rfl [.tmp 2] rfl ?_
 conv=>whnf
 iterate 3 ((first|apply rq_s rfl|refine rq_s (by(((simp[maxBytes,AV.plain];omega)))) ?_);conv=>whnf)
 rotate_left
 refine LoopG.rounds (α:=Nat) T_ok mix [0,3,4] [(7,7)] (fun i=>[(0,roI rs),(3,.ref 7 0 rs.length),(4,.int .i64 i)]) (fun i=>[(7,.live ⟨true,0,zI,cpyR intR zI rs i⟩)]) (fun i=>i≤rs.length) (fun i=>rs.length-i) ?_ ?_
 ·conv=>whnf
  exact head_s 0 (by simp) (by simp[roI]) (by simp[cpyR_zero,List.length_map])
 ·intro i h1 _ _
  conv=>whnf
  (iterate 3 (first|(apply rq_s rfl;conv=>whnf)|(refine rq_s (by refine and_s rfl ?_;simp only[lnm];omega) ?_;conv=>whnf)|(refine br_s ?_ ?_<;>intro hb<;>(try simp only[cln]at hb)<;>conv=>whnf)));(refine row_s (by((try simp only[Int.toNat_natCast]);exact row_map intR _ _ _ default (by first|omega|(simp;omega)))) ?_;conv=>whnf);iterate 4 ((first|refine rq_s (by solve|simp only[lnm,mkS_len]|fail) ?_|apply rq_s rfl|refine rq_s (by refine and_s rfl ?_;simp only[lnm];omega) ?_|apply rows_s rfl);conv=>whnf)
  rotate_left
  iterate 3 ((first|refine rq_s (by solve|simp only[lnm,mkS_len]|fail) ?_|apply rq_s rfl|apply rows_s rfl);conv=>whnf)
  rotate_left
  ·have hi:i<rs.length:=hb
   rotate_left
   refine head_s (i+1) ⟨by omega,by omega⟩ (by rw[wrap64 (by omega) (by omega)];rfl) (congrArg (fun r=>[(7,MB.live ⟨true,0,zI,r⟩)]) ?_)
   simp only[Nat.zero_add,Int.toNat_natCast]
   exact cpyR_next default hi rfl rfl
  ·obtain rfl:i=rs.length:=by omega
   (refine sh_s ?_;(simp[subA,cpyR_all,List.take_of_length_le,List.length_map]))
theorem c17(xs ys:List Int):Con Tryz.prog 17 [roI xs,roI ys] (undefs [roI xs,roI ys]) (.bool (decide (xs=ys))):=by
 refine Con.evF 26 T_ok mix Tryz.func17 rfl rfl rfl rfl [.tmp 4] rfl fun⟨hx,_⟩=> ?_
 have hx:=facts_len hx
 conv=>whnf
 (refine br_s ?_ ?_<;>intro hb<;>(try simp only[cln]at hb)<;>conv=>whnf);(apply rq_s rfl;conv=>whnf)
 iterate 2 (rotate_left)
 ·refine sh_s ?_
  have:xs≠ys:=fun e=>hb (by rw[e])
  simp[this]
 ·refine LoopG.rounds (α:=Nat) T_ok mix [0,1,5] [] (fun i=>[(0,roI xs),(1,roI ys),(5,.int .i64 i)]) (fun _=>[]) (fun i=>i≤xs.length∧xs.take i=ys.take i) (fun i=>xs.length-i) ?_ ?_
  ·conv=>whnf
   exact head_s 0 ⟨by simp,by simp⟩ rfl rfl
  ·rintro i ⟨h1,h2⟩- -
   conv=>whnf
   (iterate 7 (first|(apply rq_s rfl;conv=>whnf)|(refine rq_s (by refine and_s rfl ?_;simp only[lnm];omega) ?_;conv=>whnf)|(refine ChkS.mk (by kernel_rfl) ?_;conv=>whnf)|(refine br_s ?_ ?_<;>intro hb<;>(try simp only[cln]at hb)<;>conv=>whnf)));(refine row_s (by((try simp only[Int.toNat_natCast]);exact row_map intR _ _ _ default (by first|omega|(simp;omega)))) ?_;conv=>whnf);(iterate 6 ((first|apply rq_s rfl|refine rq_s (by refine and_s rfl ?_;simp only[lnm];omega) ?_|refine ChkS.mk (by kernel_rfl) ?_);conv=>whnf));(refine row_s (by((try simp only[Int.toNat_natCast]);exact row_map intR _ _ _ default (by first|omega|(simp;omega)))) ?_;conv=>whnf);iterate 4 (first|(apply rq_s rfl;conv=>whnf)|(refine ChkS.mk (by kernel_rfl) ?_;conv=>whnf)|(refine br_s ?_ ?_<;>intro hb<;>(try simp only[cln]at hb)<;>conv=>whnf))
   iterate 2 (rotate_left)
   (apply rq_s rfl;conv=>whnf)
   rotate_left
   ·refine sh_s ?_
    have:xs≠ys:=fun e=>hb (by rw[e])
    simp[this]
   ·exact head_s (i+1) ⟨⟨by omega,take_next default h2 (by omega) (by omega) hb⟩,by omega⟩ (by rw[wrap64 (by omega) (by omega)];rfl) rfl
   ·refine sh_s ?_
    simp[take_done h2 (by omega) (by omega)]
theorem mr18(xs:List Int)(i:Nat)(z:List AV)(y:Int)(h:i<xs.length):setRow (xs.map intR) i 0 z [.int .i64 y]=(xs.set i y).map intR:=by
 simp[setRow,setCells,rowA,List.getD_eq_getElem?_getD,h,intR,List.map_set]
theorem c18(xs:List Int)(k:Int)(h1:0≤k)(h2:k+1*xs.length≤1000000000):Con Tryz.prog 18 [.own 0 zI (xs.map intR),.int .i64 k] [.own 0 zI ((mkS mksI 1 xs.length k).map intR),.undef] (.int .i64 (k+1*xs.length)):=by
 refine Con.evM 19 [true,false] [some 500000,none] [500000] rfl rfl rfl T_ok mix Tryz.func18 rfl rfl rfl rfl [.tmp 4] rfl ?_
 conv=>whnf
 rotate_left
 refine LoopG.rounds (α:=Nat) T_ok mix [0,1,5] [(500000,500000)] (fun i=>[(0,.ref 500000 0 xs.length),(1,.int .i64 (k+1*i)),(5,.int .i64 i)]) (fun i=>[(500000,.live ⟨true,0,zI,(mixS mksI 1 xs k i).map intR⟩)]) (fun i=>i≤xs.length) (fun i=>xs.length-i) ?_ ?_
 ·conv=>whnf
  exact head_s 0 (by simp) (by simp) (by rw[mixS_zero])
 ·intro i hi _ _
  have hlen:=mixS_len mksI 1 (k:=k) hi
  have e1:i<xs.length→IntKind.i64.wrap (k+1*(i:Int)+1)=k+1*((i+1:Nat):Int):=fun _=>(wrap64 (by omega) (by omega)).trans (by omega)
  conv=>whnf
  iterate 5 (first|(refine rq_s (by solve|simp only[lnm,mkS_len]|fail) ?_;conv=>whnf)|(apply rq_s rfl;conv=>whnf)|(refine rq_s (by refine and_s rfl ?_;simp only[lnm];omega) ?_;conv=>whnf)|(apply rows_s rfl;conv=>whnf)|(refine br_s ?_ ?_<;>intro hb<;>(try simp only[cln]at hb)<;>conv=>whnf))
  rotate_left
  (apply rq_s rfl;conv=>whnf)
  rotate_left
  ·have hi2:i<xs.length:=by assumption
   refine head_s (i+1) ⟨by omega,by omega⟩ ?_ (congrArg (fun r=>[(500000,MB.live ⟨true,0,zI,r⟩)]) ?_)
   ·rw[e1 hi2,wrap64 (n:=(i:Int)+1) (by omega) (by omega)]
    rfl
   ·simp only[Nat.zero_add,Int.toNat_natCast]
    exact(mr18 _ i _ (mksI (k+1*i)) (by omega)).trans (by rw[←mixS_next mksI 1 hi2])
  ·obtain rfl:i=xs.length:=by omega
   refine aft_s (by simp[AV.rowsN,hlen]) (by simp[mixS_all]) ?_
   exact sh_s rfl
theorem c37(xs:List Int)(k:Int)(h1:0≤k)(h2:k+1*xs.length≤1000000000):Con Tryz.prog 37 [roI xs,.int .i64 k] (undefs [roI xs,.int .i64 k]) (.int .i64 (heldS mksI 1 xs k)):=by
 refine Con.ev 21 T_ok mix Tryz.func37 rfl rfl rfl rfl [.tmp 4] rfl ?_
 conv=>whnf
 rotate_left
 refine LoopG.rounds (α:=Nat) T_ok mix [0,1,5] [] (fun i=>[(0,roI xs),(1,.int .i64 (k+1*i)),(5,.int .i64 i)]) (fun _=>[]) (fun i=>i≤xs.length∧xs.take i=mkS mksI 1 i k) (fun i=>xs.length-i) ?_ ?_
 ·conv=>whnf
  exact head_s 0 ⟨by simp,by simp[mkS]⟩ (by simp[roI]) rfl
 ·rintro i ⟨hi,ht⟩- -
  have e1:i<xs.length→IntKind.i64.wrap (k+1*(i:Int)+1)=k+1*((i+1:Nat):Int):=fun _=>(wrap64 (by omega) (by omega)).trans (by omega)
  conv=>whnf
  (iterate 3 (first|(apply rq_s rfl;conv=>whnf)|(refine rq_s (by refine and_s rfl ?_;simp only[lnm];omega) ?_;conv=>whnf)|(refine br_s ?_ ?_<;>intro hb<;>(try simp only[cln]at hb)<;>conv=>whnf)));(refine row_s (by((try simp only[Int.toNat_natCast]);exact row_map intR _ _ _ default (by first|omega|(simp;omega)))) ?_;conv=>whnf);(refine br_s ?_ ?_<;>intro hb<;>(try simp only[cln]at hb)<;>conv=>whnf);(apply rq_s rfl;conv=>whnf)
  iterate 2 (rotate_left)
  (apply rq_s rfl;conv=>whnf)
  rotate_left
  ·have hi2:i<xs.length:=by assumption
   exact sh_s (by rw[heldS_bad mksI 1 default hi2 hb])
  ·have hi2:i<xs.length:=by assumption
   exact head_s (i+1) ⟨⟨by omega,heldS_next mksI 1 default hi2 ht hb⟩,by omega⟩ (by rw[e1 hi2,wrap64 (n:=(i:Int)+1) (by omega) (by omega)];rfl) rfl
  ·obtain rfl:i=xs.length:=by omega
   exact sh_s (by rw[heldS_done mksI 1 (by omega) hi ht])
def smallData(d:Dat):Prop:=d.st.length≤1048576∧d.bk.length≤1048576∧d.ce.length≤1048576∧d.ou.length≤1048576
def szData(d:Dat)(l:Int):Int:=szC (szN d.st.length l) (fun l=>szC (szN d.bk.length l) (fun l=>szC (szN d.ce.length l) (fun l=>szC (szN d.ou.length l) id)))
theorem c7(d:Dat)(left:Int):Con Tryz.prog 7 [datV d,.int .i64 left] (undefs [datV d,.int .i64 left]) (.int .i64 (szData d left)):=by
 refine Con.ev 31 T_ok mix Tryz.func7 rfl rfl rfl rfl [.tmp 4] rfl ?_
 conv=>whnf
 (iterate 10 (first|(apply rq_s rfl;conv=>whnf)|(apply rows_s rfl;conv=>whnf)|(refine fac_s (fun hf=> ?_);conv=>whnf)|(refine br_s ?_ ?_<;>intro hb<;>(try simp only[cln]at hb)<;>conv=>whnf)|(apply lend_s;conv=>whnf)|(refine call_s (c27 ..) ?_;conv=>whnf)));(focus (refine sh_s ?_;(first|(simp_all[szData,szC,szN];done)|(simp_all[szData,szC,szN];omega)|(simp only[szData,szC];rw[szN_ok (show 0≤IntKind.i64.wrap (left-_) by assumption)];first|(rw[if_neg (by omega),if_pos (by omega)];done)|(rw[if_neg (by omega),if_neg (by omega)];first|done|rfl)))));(iterate 9 (first|(apply rq_s rfl;conv=>whnf)|(apply rows_s rfl;conv=>whnf)|(refine fac_s (fun hf=> ?_);conv=>whnf)|(refine br_s ?_ ?_<;>intro hb<;>(try simp only[cln]at hb)<;>conv=>whnf)|(apply lend_s;conv=>whnf)|(refine call_s (c27 ..) ?_;conv=>whnf)));(focus (refine sh_s ?_;(first|(simp_all[szData,szC,szN];done)|(simp_all[szData,szC,szN];omega)|(simp only[szData,szC];rw[szN_ok (show 0≤IntKind.i64.wrap (left-_) by assumption)];first|(rw[if_neg (by omega),if_pos (by omega)];done)|(rw[if_neg (by omega),if_neg (by omega)];first|done|rfl)))));(iterate 9 (first|(apply rq_s rfl;conv=>whnf)|(apply rows_s rfl;conv=>whnf)|(refine fac_s (fun hf=> ?_);conv=>whnf)|(refine br_s ?_ ?_<;>intro hb<;>(try simp only[cln]at hb)<;>conv=>whnf)|(apply lend_s;conv=>whnf)|(refine call_s (c27 ..) ?_;conv=>whnf)));(focus (refine sh_s ?_;(first|(simp_all[szData,szC,szN];done)|(simp_all[szData,szC,szN];omega)|(simp only[szData,szC];rw[szN_ok (show 0≤IntKind.i64.wrap (left-_) by assumption)];first|(rw[if_neg (by omega),if_pos (by omega)];done)|(rw[if_neg (by omega),if_neg (by omega)];first|done|rfl)))));(iterate 3 (first|(apply rq_s rfl;conv=>whnf)|(refine br_s ?_ ?_<;>intro hb<;>(try simp only[cln]at hb)<;>conv=>whnf)));(focus (refine sh_s ?_;(first|(simp_all[szData,szC,szN];done)|(simp_all[szData,szC,szN];omega)|(simp only[szData,szC];rw[szN_ok (show 0≤IntKind.i64.wrap (left-_) by assumption)];first|(rw[if_neg (by omega),if_pos (by omega)];done)|(rw[if_neg (by omega),if_neg (by omega)];first|done|rfl)))));(apply rq_s rfl;conv=>whnf);(focus (refine sh_s ?_;(first|(simp_all[szData,szC,szN];done)|(simp_all[szData,szC,szN];omega)|(simp only[szData,szC];rw[szN_ok (show 0≤IntKind.i64.wrap (left-_) by assumption)];first|(rw[if_neg (by omega),if_pos (by omega)];done)|(rw[if_neg (by omega),if_neg (by omega)];first|done|rfl)))))
theorem smallData_of{d:Dat}{l:Int}(h1:0≤l)(h2:l≤1048576)(hl0:d.st.length≤9223372036854775807)(hl1:d.bk.length≤9223372036854775807)(hl2:d.ce.length≤9223372036854775807)(hl5:d.ou.length≤9223372036854775807)(e:0≤szData d l):szData d l≤l∧smallData d:=by
 unfold szData at e⊢
 obtain⟨a0,e,q0⟩:=szC_step e
 have k0:=szN_le (h1) (h2) hl0 a0
 obtain⟨a1,e,q1⟩:=szC_step e
 have k1:=szN_le (by omega) (by omega) hl1 a1
 obtain⟨a2,e,q2⟩:=szC_step e
 have k2:=szN_le (by omega) (by omega) hl2 a2
 obtain⟨a5,e,q5⟩:=szC_step e
 have k5:=szN_le (by omega) (by omega) hl5 a5
 try simp only[id]at*
 refine⟨by rw[q0,q1,q2,q5];(try simp only[id]);omega,k0.2,k1.2,k2.2,k5.2⟩
theorem c9(d:Dat)(hs:smallData d):Con Tryz.prog 9 [datV d] (undefs [datV d]) (datO d):=by
 refine Con.ev 26 T_ok mix Tryz.func9 rfl rfl rfl rfl [.cell 2 26] rfl ?_
 conv=>whnf
 (iterate 38 ((first|refine rq_s (by solve|simp only[lnm,mkS_len,ownI,ownB,ownD,ownW,ownT,ownC,ownS]|fail) ?_|apply rq_s rfl|apply rows_s rfl|refine fac_s (fun hf=> ?_)|apply lend_s|refine call_s (c15 _ hs.1) ?_|refine call_s (c15 _ hs.2.1) ?_|refine call_s (c15 _ hs.2.2.1) ?_);conv=>whnf));(iterate 3 (refine rows_s (by((refine sub_all ?_;simp[List.length_map,mkS_len,ownI,ownB,ownD,ownW,ownT,ownC,ownS];done))) ?_;conv=>whnf));(refine sh_s ?_;(rfl))
theorem c11(a b:Dat):Con Tryz.prog 11 [datV a,datV b] (undefs [datV a,datV b]) (.bool (decide (a=b))):=by
 refine Con.ev 38 T_ok mix Tryz.func11 rfl rfl rfl rfl [.tmp 4] rfl ?_
 conv=>whnf
 (iterate 12 (first|(apply rq_s rfl;conv=>whnf)|(apply rows_s rfl;conv=>whnf)|(refine br_s ?_ ?_<;>intro hb<;>(try simp only[cln]at hb)<;>conv=>whnf)|(apply lend_s;conv=>whnf)|(refine call_s (c17 ..) ?_;conv=>whnf)));(refine sh_s ?_;((cases a;cases b;simp_all)));(iterate 10 (first|(apply rq_s rfl;conv=>whnf)|(apply rows_s rfl;conv=>whnf)|(refine br_s ?_ ?_<;>intro hb<;>(try simp only[cln]at hb)<;>conv=>whnf)|(apply lend_s;conv=>whnf)|(refine call_s (c17 ..) ?_;conv=>whnf)));(refine sh_s ?_;((cases a;cases b;simp_all)));(iterate 10 (first|(apply rq_s rfl;conv=>whnf)|(apply rows_s rfl;conv=>whnf)|(refine br_s ?_ ?_<;>intro hb<;>(try simp only[cln]at hb)<;>conv=>whnf)|(apply lend_s;conv=>whnf)|(refine call_s (c17 ..) ?_;conv=>whnf)));(refine sh_s ?_;((cases a;cases b;simp_all)));(iterate 4 (first|(apply rq_s rfl;conv=>whnf)|(refine br_s ?_ ?_<;>intro hb<;>(try simp only[cln]at hb)<;>conv=>whnf)));(refine sh_s ?_;((cases a;cases b;simp_all)));(iterate 4 (first|(apply rq_s rfl;conv=>whnf)|(refine br_s ?_ ?_<;>intro hb<;>(try simp only[cln]at hb)<;>conv=>whnf)));(refine sh_s ?_;((cases a;cases b;simp_all)));(iterate 4 (first|(apply rq_s rfl;conv=>whnf)|(refine br_s ?_ ?_<;>intro hb<;>(try simp only[cln]at hb)<;>conv=>whnf)));(refine sh_s ?_;((cases a;cases b;simp_all)));(apply rq_s rfl;conv=>whnf);(refine sh_s ?_;((cases a;cases b;simp_all)))
def lenData(d:Dat):Int:=1*(d.st.length:Int)+1*(d.bk.length:Int)+1*(d.ce.length:Int)
def mkData(d:Dat)(k:Int):Dat:=⟨mkS mksI 1 d.st.length (k),mkS mksI 1 d.bk.length (k+1*(d.st.length:Int)),mkS mksI 1 d.ce.length (k+1*(d.st.length:Int)+1*(d.bk.length:Int)),d.he,d.ba,d.ou⟩
theorem c12(d:Dat)(k:Int)(h1:0≤k)(h2:k+lenData d≤100000000):Con Tryz.prog 12 [datO d,.int .i64 k] [.agg [ownI (mkData d k).st,ownI (mkData d k).bk,ownI (mkData d k).ce,.undef,.undef,.undef],.undef] (.int .i64 (k+lenData d)):=by
 unfold lenData at h2
 refine Con.evH 18 [some 500000,some 500001,some 500002,none,none,none] [500000,500001,500002] rfl rfl T_ok mix Tryz.func12 rfl rfl rfl rfl [.tmp 4] rfl ?_
 conv=>whnf
 (iterate 38 (first|(refine rq_s (by solve|simp only[lnm,mkS_len,ownI,ownB,ownD,ownW,ownT,ownC,ownS]|fail) ?_;conv=>whnf)|(apply rq_s rfl;conv=>whnf)|(focus (refine aft_s (by solve|simp[AV.rowsN,List.length_map,mkS_len,ownI,ownB,ownD,ownW,ownT,ownC,ownS]|fail) rfl ?_;conv=>whnf))|(apply rows_s rfl;conv=>whnf)|(refine fac_s (fun hf=> ?_);conv=>whnf)|(refine hand_s 18 0 ?_;conv=>whnf)|(refine handc_s (f:=18) (j:=0) (c18 _ _ (by omega) (by omega)) (by solve|simp[List.length_map,mkS_len,ownI,ownB,ownD,ownW,ownT,ownC,ownS]|fail) (by rfl) (by rfl) ?_;conv=>whnf)));(refine sh_s ?_;((simp only[lenData];congr 1;omega)))
def heldData(d:Dat)(k:Int):Int:=szC (heldS mksI 1 d.st k) (fun l=>szC (heldS mksI 1 d.bk l) (fun l=>szC (heldS mksI 1 d.ce l) id))
theorem c13(d:Dat)(k:Int)(h1:0≤k)(h2:k+lenData d≤100000000):Con Tryz.prog 13 [datV d,.int .i64 k] (undefs [datV d,.int .i64 k]) (.int .i64 (heldData d k)):=by
 unfold lenData at h2
 have g0:=heldS_le mksI 1 d.st k
 have g1:=heldS_le mksI 1 d.bk (heldS mksI 1 d.st k)
 have g2:=heldS_le mksI 1 d.ce (heldS mksI 1 d.bk (heldS mksI 1 d.st k))
 refine Con.ev 24 T_ok mix Tryz.func13 rfl rfl rfl rfl [.tmp 4] rfl ?_
 conv=>whnf
 (iterate 10 (first|(apply rq_s rfl;conv=>whnf)|(apply rows_s rfl;conv=>whnf)|(refine fac_s (fun hf=> ?_);conv=>whnf)|(refine br_s ?_ ?_<;>intro hb<;>(try simp only[cln]at hb)<;>conv=>whnf)|(apply lend_s;conv=>whnf)|(refine call_s (c37 _ _ (by omega) (by omega)) ?_;conv=>whnf)));(focus (refine sh_s ?_;(first|(simp_all[heldData,szC];done)|(simp_all[heldData,szC];omega))));(iterate 9 (first|(apply rq_s rfl;conv=>whnf)|(apply rows_s rfl;conv=>whnf)|(refine fac_s (fun hf=> ?_);conv=>whnf)|(refine br_s ?_ ?_<;>intro hb<;>(try simp only[cln]at hb)<;>conv=>whnf)|(apply lend_s;conv=>whnf)|(refine call_s (c37 _ _ (by omega) (by omega)) ?_;conv=>whnf)));(focus (refine sh_s ?_;(first|(simp_all[heldData,szC];done)|(simp_all[heldData,szC];omega))));(iterate 9 (first|(apply rq_s rfl;conv=>whnf)|(apply rows_s rfl;conv=>whnf)|(refine fac_s (fun hf=> ?_);conv=>whnf)|(refine br_s ?_ ?_<;>intro hb<;>(try simp only[cln]at hb)<;>conv=>whnf)|(apply lend_s;conv=>whnf)|(refine call_s (c37 _ _ (by omega) (by omega)) ?_;conv=>whnf)));(focus (refine sh_s ?_;(first|(simp_all[heldData,szC];done)|(simp_all[heldData,szC];omega))));(apply rq_s rfl;conv=>whnf);(focus (refine sh_s ?_;(first|(simp_all[heldData,szC];done)|(simp_all[heldData,szC];omega))))
theorem heldData_mk(d:Dat)(k:Int)(h1:0≤k):heldData (mkData d k) k=k+lenData d:=by
 simp only[heldData,mkData,heldS_mk,szC,id]
 rw[if_neg (by omega),if_neg (by omega),if_neg (by omega)]
 unfold lenData
 omega
theorem lenData_mk(d:Dat)(k:Int):lenData (mkData d k)=lenData d:=by simp[lenData,mkData,mkS_len]
theorem lenData_le{d:Dat}(hs:smallData d):0≤lenData d∧lenData d≤12000000:=by
 unfold smallData at hs
 unfold lenData
 omega
end V1
