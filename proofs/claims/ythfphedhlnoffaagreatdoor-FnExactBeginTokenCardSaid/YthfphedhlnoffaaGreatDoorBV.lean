/- Sizes, copies, comparisons and marks of the data, each with its contract. -/
import Derived.Test.YthfphedhlnoffaaGreatDoorProg
import Derived.KernelRfl
import Derived.Test.YthfphedhlnoffaaGreatDoorLK
import Derived.Test.YthfphedhlnoffaaGreatDoorLK
import Derived.Test.YthfphedhlnoffaaGreatDoorLK
import Derived.Test.YthfphedhlnoffaaGreatDoorLK
set_option linter.unusedVariables false
set_option linter.unusedSimpArgs false
set_option maxRecDepth 100000
open Go Go.Abs Go.Proofs
namespace V1
def T:TT:=[(2,TI.mk (UT.int IntKind.i64) 1 8 [AV.int IntKind.i64 0] false),
 (3,TI.mk (UT.int IntKind.i64) 1 8 [AV.int IntKind.i64 0] false),
 (4,TI.mk UT.bool 1 1 [AV.bool false] false),
 (5,TI.mk (UT.int IntKind.u8) 1 1 [AV.int IntKind.u8 0] false),
 (6,TI.mk (UT.int IntKind.u8) 1 1 [AV.int IntKind.u8 0] false),
 (7,TI.mk (UT.struct [(0,2),(1,3),(2,4),(3,6)]) 4 24 [AV.int IntKind.i64 0,AV.int IntKind.i64 0,AV.bool false,AV.int IntKind.u8 0] true),
 (8,TI.mk (UT.struct [(0,2),(1,3),(2,4),(3,6)]) 4 24 [AV.int IntKind.i64 0,AV.int IntKind.i64 0,AV.bool false,AV.int IntKind.u8 0] true),
 (9,TI.mk UT.str 1 16 [AV.str []] false),
 (10,TI.mk UT.str 1 16 [AV.str []] false),
 (11,TI.mk UT.str 1 16 [AV.str []] false),
 (12,TI.mk (UT.int IntKind.u64) 1 8 [AV.int IntKind.u64 0] false),
 (13,TI.mk (UT.struct [(0,9),(1,12)]) 2 24 [AV.str [],AV.int IntKind.u64 0] false),
 (14,TI.mk (UT.struct [(0,9),(1,12)]) 2 24 [AV.str [],AV.int IntKind.u64 0] false),
 (18,TI.mk (UT.struct [(0,17)]) 1 8 [AV.nilp] false),
 (19,TI.mk (UT.struct [(0,17)]) 1 8 [AV.nilp] false),
 (21,TI.mk (UT.int IntKind.i32) 1 4 [AV.int IntKind.i32 0] false),
 (22,TI.mk (UT.slice 84) 1 24 [AV.emp] false),
 (23,TI.mk (UT.slice 3) 1 24 [AV.emp] false),
 (24,TI.mk (UT.struct [(0,23),(1,23),(2,23),(3,3),(4,3),(5,9)]) 6 104 [AV.emp,AV.emp,AV.emp,AV.int IntKind.i64 0,AV.int IntKind.i64 0,AV.str []] true),
 (25,TI.mk (UT.struct [(0,23),(1,23),(2,23),(3,3),(4,3),(5,9)]) 6 104 [AV.emp,AV.emp,AV.emp,AV.int IntKind.i64 0,AV.int IntKind.i64 0,AV.str []] true),
 (26,TI.mk (UT.slice 4) 1 24 [AV.emp] false),
 (27,TI.mk (UT.slice 131) 1 24 [AV.emp] false),
 (28,TI.mk (UT.struct [(0,26),(1,23),(2,23),(3,3),(4,27)]) 5 104 [AV.emp,AV.emp,AV.emp,AV.int IntKind.i64 0,AV.emp] true),
 (29,TI.mk (UT.struct [(0,26),(1,23),(2,23),(3,3),(4,27)]) 5 104 [AV.emp,AV.emp,AV.emp,AV.int IntKind.i64 0,AV.emp] true),
 (30,TI.mk (UT.slice 101) 1 24 [AV.emp] false),
 (31,TI.mk (UT.struct [(0,22),(1,23),(2,25),(8,29),(13,30),(14,3),(15,3)]) 16 296 [AV.emp,AV.emp,AV.emp,AV.emp,AV.emp,AV.int IntKind.i64 0,AV.int IntKind.i64 0,AV.str [],AV.emp,AV.emp,AV.emp,AV.int IntKind.i64 0,AV.emp,AV.emp,AV.int IntKind.i64 0,AV.int IntKind.i64 0] false),
 (32,TI.mk (UT.struct [(0,22),(1,23),(2,25),(8,29),(13,30),(14,3),(15,3)]) 16 296 [AV.emp,AV.emp,AV.emp,AV.emp,AV.emp,AV.int IntKind.i64 0,AV.int IntKind.i64 0,AV.str [],AV.emp,AV.emp,AV.emp,AV.int IntKind.i64 0,AV.emp,AV.emp,AV.int IntKind.i64 0,AV.int IntKind.i64 0] false),
 (34,TI.mk (UT.slice 92) 1 24 [AV.emp] false),
 (35,TI.mk (UT.struct [(0,23),(1,23),(2,23),(3,3),(4,3),(5,9)]) 6 104 [AV.emp,AV.emp,AV.emp,AV.int IntKind.i64 0,AV.int IntKind.i64 0,AV.str []] true),
 (36,TI.mk (UT.slice 120) 1 24 [AV.emp] false),
 (37,TI.mk (UT.struct [(0,26),(1,23),(2,23),(3,3),(4,36)]) 5 104 [AV.emp,AV.emp,AV.emp,AV.int IntKind.i64 0,AV.emp] true),
 (38,TI.mk (UT.struct [(0,26),(1,23),(2,23),(3,3),(4,36)]) 5 104 [AV.emp,AV.emp,AV.emp,AV.int IntKind.i64 0,AV.emp] true),
 (39,TI.mk (UT.slice 99) 1 24 [AV.emp] false),
 (40,TI.mk (UT.struct [(0,34),(1,23),(2,35),(8,38),(13,39),(14,3),(15,3)]) 16 296 [AV.emp,AV.emp,AV.emp,AV.emp,AV.emp,AV.int IntKind.i64 0,AV.int IntKind.i64 0,AV.str [],AV.emp,AV.emp,AV.emp,AV.int IntKind.i64 0,AV.emp,AV.emp,AV.int IntKind.i64 0,AV.int IntKind.i64 0] false),
 (41,TI.mk (UT.struct [(0,34),(1,23),(2,35),(8,38),(13,39),(14,3),(15,3)]) 16 296 [AV.emp,AV.emp,AV.emp,AV.emp,AV.emp,AV.int IntKind.i64 0,AV.int IntKind.i64 0,AV.str [],AV.emp,AV.emp,AV.emp,AV.int IntKind.i64 0,AV.emp,AV.emp,AV.int IntKind.i64 0,AV.int IntKind.i64 0] false),
 (83,TI.mk (UT.struct [(0,9),(1,3),(2,3)]) 3 32 [AV.str [],AV.int IntKind.i64 0,AV.int IntKind.i64 0] true),
 (84,TI.mk (UT.struct [(0,9),(1,3),(2,3)]) 3 32 [AV.str [],AV.int IntKind.i64 0,AV.int IntKind.i64 0] true),
 (92,TI.mk (UT.struct [(0,9),(1,3),(2,3)]) 3 32 [AV.str [],AV.int IntKind.i64 0,AV.int IntKind.i64 0] true),
 (98,TI.mk (UT.struct [(0,3),(1,3),(2,3),(3,4)]) 4 32 [AV.int IntKind.i64 0,AV.int IntKind.i64 0,AV.int IntKind.i64 0,AV.bool false] true),
 (99,TI.mk (UT.struct [(0,3),(1,3),(2,3),(3,4)]) 4 32 [AV.int IntKind.i64 0,AV.int IntKind.i64 0,AV.int IntKind.i64 0,AV.bool false] true),
 (101,TI.mk (UT.struct [(0,3),(1,3),(2,3),(3,4)]) 4 32 [AV.int IntKind.i64 0,AV.int IntKind.i64 0,AV.int IntKind.i64 0,AV.bool false] true),
 (119,TI.mk (UT.struct [(0,3),(1,3),(2,3),(3,3)]) 4 32 [AV.int IntKind.i64 0,AV.int IntKind.i64 0,AV.int IntKind.i64 0,AV.int IntKind.i64 0] true),
 (120,TI.mk (UT.struct [(0,3),(1,3),(2,3),(3,3)]) 4 32 [AV.int IntKind.i64 0,AV.int IntKind.i64 0,AV.int IntKind.i64 0,AV.int IntKind.i64 0] true),
 (131,TI.mk (UT.struct [(0,3),(1,3),(2,3),(3,3)]) 4 32 [AV.int IntKind.i64 0,AV.int IntKind.i64 0,AV.int IntKind.i64 0,AV.int IntKind.i64 0] true),
 (139,TI.mk (UT.slice 5) 1 24 [AV.emp] false),
 (154,TI.mk (UT.array 3 3) 3 24 [AV.int IntKind.i64 0,AV.int IntKind.i64 0,AV.int IntKind.i64 0] false),
 (166,TI.mk (UT.slice 9) 1 24 [AV.emp] false),
 (168,TI.mk (UT.slice 166) 1 24 [AV.emp] false),
 (177,TI.mk (UT.slice 34) 1 24 [AV.emp] false),
 (181,TI.mk (UT.int IntKind.u32) 1 4 [AV.int IntKind.u32 0] false),
 (182,TI.mk (UT.int IntKind.u64) 1 8 [AV.int IntKind.u64 0] false),
 (183,TI.mk (UT.int IntKind.u64) 1 8 [AV.int IntKind.u64 0] false),
 (192,TI.mk (UT.struct [(0,191),(1,139)]) 2 32 [AV.nilp,AV.emp] true),
 (193,TI.mk (UT.struct [(0,191),(1,139)]) 2 32 [AV.nilp,AV.emp] true),
 (204,TI.mk (UT.slice 206) 1 24 [AV.emp] false),
 (205,TI.mk (UT.struct [(0,3),(1,3)]) 2 16 [AV.int IntKind.i64 0,AV.int IntKind.i64 0] true),
 (206,TI.mk (UT.struct [(0,3),(1,3)]) 2 16 [AV.int IntKind.i64 0,AV.int IntKind.i64 0] true),
 (221,TI.mk (UT.slice 227) 1 24 [AV.emp] false),
 (222,TI.mk (UT.slice 230) 1 24 [AV.emp] false),
 (223,TI.mk (UT.struct [(0,221),(1,222),(2,3)]) 3 56 [AV.emp,AV.emp,AV.int IntKind.i64 0] true),
 (224,TI.mk (UT.struct [(0,221),(1,222),(2,3)]) 3 56 [AV.emp,AV.emp,AV.int IntKind.i64 0] true),
 (225,TI.mk (UT.int IntKind.u16) 1 2 [AV.int IntKind.u16 0] false),
 (226,TI.mk (UT.struct [(0,225),(1,225),(2,225)]) 3 6 [AV.int IntKind.u16 0,AV.int IntKind.u16 0,AV.int IntKind.u16 0] true),
 (227,TI.mk (UT.struct [(0,225),(1,225),(2,225)]) 3 6 [AV.int IntKind.u16 0,AV.int IntKind.u16 0,AV.int IntKind.u16 0] true),
 (229,TI.mk (UT.struct [(0,181),(1,181),(2,181)]) 3 12 [AV.int IntKind.u32 0,AV.int IntKind.u32 0,AV.int IntKind.u32 0] true),
 (230,TI.mk (UT.struct [(0,181),(1,181),(2,181)]) 3 12 [AV.int IntKind.u32 0,AV.int IntKind.u32 0,AV.int IntKind.u32 0] true),
 (238,TI.mk (UT.slice 256) 1 24 [AV.emp] false),
 (240,TI.mk (UT.array 65 5) 65 65 [AV.int IntKind.u8 0,AV.int IntKind.u8 0,AV.int IntKind.u8 0,AV.int IntKind.u8 0,AV.int IntKind.u8 0,AV.int IntKind.u8 0,AV.int IntKind.u8 0,AV.int IntKind.u8 0,AV.int IntKind.u8 0,AV.int IntKind.u8 0,AV.int IntKind.u8 0,AV.int IntKind.u8 0,AV.int IntKind.u8 0,AV.int IntKind.u8 0,AV.int IntKind.u8 0,AV.int IntKind.u8 0,AV.int IntKind.u8 0,AV.int IntKind.u8 0,AV.int IntKind.u8 0,AV.int IntKind.u8 0,AV.int IntKind.u8 0,AV.int IntKind.u8 0,AV.int IntKind.u8 0,AV.int IntKind.u8 0,AV.int IntKind.u8 0,AV.int IntKind.u8 0,AV.int IntKind.u8 0,AV.int IntKind.u8 0,AV.int IntKind.u8 0,AV.int IntKind.u8 0,AV.int IntKind.u8 0,AV.int IntKind.u8 0,AV.int IntKind.u8 0,AV.int IntKind.u8 0,AV.int IntKind.u8 0,AV.int IntKind.u8 0,AV.int IntKind.u8 0,AV.int IntKind.u8 0,AV.int IntKind.u8 0,AV.int IntKind.u8 0,AV.int IntKind.u8 0,AV.int IntKind.u8 0,AV.int IntKind.u8 0,AV.int IntKind.u8 0,AV.int IntKind.u8 0,AV.int IntKind.u8 0,AV.int IntKind.u8 0,AV.int IntKind.u8 0,AV.int IntKind.u8 0,AV.int IntKind.u8 0,AV.int IntKind.u8 0,AV.int IntKind.u8 0,AV.int IntKind.u8 0,AV.int IntKind.u8 0,AV.int IntKind.u8 0,AV.int IntKind.u8 0,AV.int IntKind.u8 0,AV.int IntKind.u8 0,AV.int IntKind.u8 0,AV.int IntKind.u8 0,AV.int IntKind.u8 0,AV.int IntKind.u8 0,AV.int IntKind.u8 0,AV.int IntKind.u8 0,AV.int IntKind.u8 0] false),
 (244,TI.mk (UT.struct [(0,5),(1,5)]) 2 2 [AV.int IntKind.u8 0,AV.int IntKind.u8 0] true),
 (245,TI.mk (UT.struct [(0,5),(1,5)]) 2 2 [AV.int IntKind.u8 0,AV.int IntKind.u8 0] true),
 (255,TI.mk (UT.struct [(0,181),(1,181),(2,254)]) 5 20 [AV.int IntKind.u32 0,AV.int IntKind.u32 0,AV.int IntKind.i32 0,AV.int IntKind.i32 0,AV.int IntKind.i32 0] true),
 (256,TI.mk (UT.struct [(0,181),(1,181),(2,254)]) 5 20 [AV.int IntKind.u32 0,AV.int IntKind.u32 0,AV.int IntKind.i32 0,AV.int IntKind.i32 0,AV.int IntKind.i32 0] true),
 (259,TI.mk (UT.struct [(0,17),(1,17),(2,17),(3,9)]) 4 40 [AV.nilp,AV.nilp,AV.nilp,AV.str []] false),
 (260,TI.mk (UT.struct [(0,17),(1,17),(2,17),(3,9)]) 4 40 [AV.nilp,AV.nilp,AV.nilp,AV.str []] false),
 (262,TI.mk (UT.struct [(0,261)]) 0 0 [] false),
 (263,TI.mk (UT.struct [(0,261)]) 0 0 [] false),
 (264,TI.mk (UT.int IntKind.u8) 1 1 [AV.int IntKind.u8 0] false),
 (265,TI.mk (UT.int IntKind.u8) 1 1 [AV.int IntKind.u8 0] false),
 (267,TI.mk (UT.int IntKind.i32) 1 4 [AV.int IntKind.i32 0] false),
 (268,TI.mk (UT.int IntKind.i32) 1 4 [AV.int IntKind.i32 0] false),
 (269,TI.mk (UT.struct [(0,12),(1,12),(2,181),(3,264),(4,5),(5,5),(6,265),(7,266),(8,209),(9,267),(10,268)]) 11 48 [AV.int IntKind.u64 0,AV.int IntKind.u64 0,AV.int IntKind.u32 0,AV.int IntKind.u8 0,AV.int IntKind.u8 0,AV.int IntKind.u8 0,AV.int IntKind.u8 0,AV.nilfn,AV.nilp,AV.int IntKind.i32 0,AV.int IntKind.i32 0] false),
 (270,TI.mk (UT.struct [(0,12),(1,12),(2,181),(3,264),(4,5),(5,5),(6,265),(7,266),(8,209),(9,267),(10,268)]) 11 48 [AV.int IntKind.u64 0,AV.int IntKind.u64 0,AV.int IntKind.u32 0,AV.int IntKind.u8 0,AV.int IntKind.u8 0,AV.int IntKind.u8 0,AV.int IntKind.u8 0,AV.nilfn,AV.nilp,AV.int IntKind.i32 0,AV.int IntKind.i32 0] false)]
theorem bI:T.ok Tryz.prog:=by repeat' first|exact TT.ok_nil|refine TT.ok_cons (by kernel_rfl) ?_
theorem dN:Tryz.prog.follows .mixedOrders=true:=by kernel_rfl
theorem rn(n:Nat){f:FuncId}{fn:Func}{c:Code}{xs:List AV}{res:AV}(hf:Tryz.prog.funcs[f]? =some fn)(rs:List ResultVar)(hn:(fn.name== "runtime.NumGoroutine")=false:=by rfl)(hb:fn.body=some c:=by rfl)(hok:xs.all cI=true:=by rfl)(hnn:xs.length+(fn.ntmps-xs.length)=n:=by rfl)(hrs:fn.results.toList=rs:=by rfl)
  (g:iK xs fun ts ms=>Go.Abs.ev Tryz.prog T ⟨n,[],[]⟩ c (tJ T rs res) ts ms):Con Tryz.prog f xs (aa xs) res:=Con.ev n bI dN hf hn hb hok hnn rs hrs g
theorem rp(n:Nat){f:FuncId}{fn:Func}{c:Code}{xs os:List AV}{res:AV}(hf:Tryz.prog.funcs[f]? =some fn)(rs:List ResultVar)(han:ei e0 xs=[500000]:=by rfl)(hn:(fn.name== "runtime.NumGoroutine")=false:=by rfl)(hb:fn.body=some c:=by rfl)(hok:xs.all eQ=true:=by rfl)(hnn:xs.length+(fn.ntmps-xs.length)=n:=by rfl)(hrs:fn.results.toList=rs:=by rfl)
  (g:pp xs fun ts ms=>okK ([500000].all fun b=> !fH (bV ms b)) (Go.Abs.ev Tryz.prog T ⟨n,[500000],[]⟩ c (wG T rs res e0 xs os) ts ms)):Con Tryz.prog f xs os res:=Con.evP n [500000] han bI dN hf hn hb hok hnn rs hrs g
theorem c85(k:Int)(h1:0≤k)(h2:k≤2000000000):Con Tryz.prog 85 [.int .i64 k] (aa [.int .i64 k]) (.str (HU k)):=by
 by_cases h0:k=0
 ·subst h0
  refine rn 20 Tryz.func85 [.tmp 2] (g:= ?_)
  conv=>whnf
  repeat' (first|(focus (refine aA ?_;(exact congrArg AV.str (by decide+kernel))))|refine aP ?_)
 ·refine rn 20 Tryz.func85 [.tmp 2] (g:= ?_)
  conv=>whnf
  (refine ck ?_ ?_<;>intro hb<;>(try simp only[ew]at hb)<;>conv=>whnf);(apply ac rfl;conv=>whnf)
  iterate 2 (rotate_left)
  ·omega
  ·refine LoopG.auto (α:=Nat × List UInt8) bI dN [0,3] (fun a=>[(0,.int .i64 a.1),(3,.str a.2)]) (fun _=>[]) (fun a=>DecInv k.toNat a.1 a.2) (fun a=>a.1) ?_ ?_
   ·conv=>whnf
    (apply ChkS.mk (by kernel_rfl);conv=>whnf)
    rotate_left
    have hl:=xx k.toNat (by omega)
    exact aE (k.toNat,[]) ⟨Nat.le_refl _,by simp;omega,.inr ⟨by omega,by simp⟩⟩ (by simp only[Int.toNat_of_nonneg h1]) rfl
   ·rintro ⟨u,s⟩ hI _ _
    simp only at hI⊢
    have hu:=hI.1
    have hs:=hI.2.1
    by_cases hz:u=0
    ·subst hz
     obtain⟨_,rfl⟩|⟨hq,_⟩:=hI.2.2
     ·conv=>whnf
      iterate 3 ((first|apply ac rfl|refine ac (by(((simp[gj];omega)))) ?_|apply aK rfl);conv=>whnf)
      rotate_left
      exact aA rfl
     ·omega
    ·have hp:decide ((u:Int)>0)=true:=by simp;omega
     conv=>whnf
     iterate 9 ((first|refine ac (by solve|simp only[decide_eq_true_eq]|fail) ?_|apply ac rfl|refine ac (by(((simp[gj];omega)))) ?_|refine lZ rfl ?_|refine ChkS.mk (by kernel_rfl) ?_|refine bH (by assumption) ?_);conv=>whnf)
     rotate_left
     refine aE (u/10,_) ⟨hI.next (by omega) (by omega),by simp only;omega⟩ ?_ rfl
     rw[HY u (by omega),Hk,Go.Abs.byteOf (by omega)]
theorem c55(xs:List Bool)(left:Int):Con Tryz.prog 55 [pa xs,.int .i64 left] (aa [pa xs,.int .i64 left]) (.int .i64 (mc xs.length left)):=by
 refine rn 12 Tryz.func55 [.tmp 4] (g:= ?_)
 conv=>whnf
 repeat' (first|(focus (refine aA ?_;(first|(simp_all[mc];done)|(simp_all[mc];omega))))|refine aP ?_|(refine bN ?_ ?_<;>intro hb))
instance:CC 55:=⟨_,@c55⟩
theorem c68(rs:List Bool)(h:rs.length≤1048576):Con Tryz.prog 68 [pa rs] (aa [pa rs]) (.own 0 zB (rs.map dQ)):=by
 refine rn 22 Tryz.func68 [.tmp 2] (g:= ?_)
 conv=>whnf
 refine aP ?_
 rotate_left
 refine LoopG.rounds (α:=Nat) bI dN [0,3,4] [(7,7)] (fun i=>[(0,pa rs),(3,.ref 7 0 rs.length),(4,.int .i64 i)]) (fun i=>[(7,.live ⟨true,0,zB,oZ dQ zB rs i⟩)]) (fun i=>i≤rs.length) (fun i=>rs.length-i) ?_ ?_
 ·conv=>whnf
  exact aE 0 (by simp) (by simp[pa]) (by simp[iZ,List.length_map])
 ·intro i h1 _ _
  conv=>whnf
  (refine bN ?_ ?_<;>intro hb)
  refine bJ ?_
  (refine aD (by((try simp only[Int.toNat_natCast]);exact aF dQ _ _ _ default (by first|omega|(simp;omega)))) ?_;conv=>whnf)
  refine bJ ?_
  refine ie ?_
  rotate_left
  refine bJ ?_
  refine ie ?_
  rotate_left
  ·have hi:i<rs.length:=hb
   rotate_left
   refine aE (i+1) ⟨by omega,by omega⟩ (by rw[ai (by omega) (by omega)];rfl) (congrArg (fun r=>[(7,MB.live ⟨true,0,zB,r⟩)]) ?_)
   simp only[Nat.zero_add,Int.toNat_natCast]
   exact jg default hi rfl rfl
  ·obtain rfl:i=rs.length:=by omega
   (refine aA ?_;(simp[am,kj,List.take_of_length_le,List.length_map]))
instance:CC 68:=⟨_,@c68⟩
theorem c82(xs ys:List Bool):Con Tryz.prog 82 [pa xs,pa ys] (aa [pa xs,pa ys]) (.bool (decide (xs=ys))):=by
 refine Con.evF 26 bI dN Tryz.func82 rfl rfl rfl rfl [.tmp 4] rfl fun⟨hx,_⟩=> ?_
 have hx:=facts_len hx
 conv=>whnf
 (refine bN ?_ ?_<;>intro hb)
 refine aP ?_
 iterate 2 (rotate_left)
 ·refine aA ?_
  have:xs≠ys:=fun e=>hb (by rw[e])
  simp[this]
 ·refine LoopG.rounds (α:=Nat) bI dN [0,1,5] [] (fun i=>[(0,pa xs),(1,pa ys),(5,.int .i64 i)]) (fun _=>[]) (fun i=>i≤xs.length∧xs.take i=ys.take i) (fun i=>xs.length-i) ?_ ?_
  ·conv=>whnf
   exact aE 0 ⟨by simp,by simp⟩ rfl rfl
  ·rintro i ⟨h1,h2⟩- -
   conv=>whnf
   (refine bN ?_ ?_<;>intro hb)
   refine bJ ?_
   (refine aD (by((try simp only[Int.toNat_natCast]);exact aF dQ _ _ _ default (by first|omega|(simp;omega)))) ?_;conv=>whnf)
   refine bJ ?_
   (refine aD (by((try simp only[Int.toNat_natCast]);exact aF dQ _ _ _ default (by first|omega|(simp;omega)))) ?_;conv=>whnf);iterate 3 (first|refine bJ ?_|(refine bN ?_ ?_<;>intro hb))
   iterate 2 (rotate_left)
   refine bJ ?_
   rotate_left
   ·refine aA ?_
    have:xs≠ys:=fun e=>hb (by rw[e])
    simp[this]
   ·exact aE (i+1) ⟨⟨by omega,fN default h2 (by omega) (by omega) hb⟩,by omega⟩ (by rw[ai (by omega) (by omega)];rfl) rfl
   ·refine aA ?_
    simp[gy h2 (by omega) (by omega)]
instance:CC 82:=⟨_,@c82⟩
theorem Ix(xs:List Bool)(i:Nat)(z:List AV)(y:Bool)(h:i<xs.length):be (xs.map dQ) i 0 z [.bool y]=(xs.set i y).map dQ:=by
 simp[be,setCells,dm,List.getD_eq_getElem?_getD,h,dQ,List.map_set]
theorem c86(xs:List Bool)(k:Int)(h1:0≤k)(h2:k+1*xs.length≤1000000000):Con Tryz.prog 86 [.own 0 zB (xs.map dQ),.int .i64 k] [.own 0 zB ((gW lL 1 xs.length k).map dQ),.undef] (.int .i64 (k+1*xs.length)):=by
 refine Con.evM 21 [true,false] [some 500000,none] [500000] rfl rfl rfl bI dN Tryz.func86 rfl rfl rfl rfl [.tmp 4] rfl ?_
 conv=>whnf
 rotate_left
 refine LoopG.rounds (α:=Nat) bI dN [0,1,5] [(500000,500000)] (fun i=>[(0,.ref 500000 0 xs.length),(1,.int .i64 (k+1*i)),(5,.int .i64 i)]) (fun i=>[(500000,.live ⟨true,0,zB,(mE lL 1 xs k i).map dQ⟩)]) (fun i=>i≤xs.length) (fun i=>xs.length-i) ?_ ?_
 ·conv=>whnf
  exact aE 0 (by simp) (by simp) (by rw[iX])
 ·intro i hi _ _
  have hlen:=kT lL 1 (k:=k) hi
  have e1:i<xs.length→IntKind.i64.wrap (k+1*(i:Int)+1)=k+1*((i+1:Nat):Int):=fun _=>(ai (by omega) (by omega)).trans (by omega)
  conv=>whnf
  (refine bN ?_ ?_<;>intro hb)
  refine aP ?_
  rotate_left
  refine aP ?_
  rotate_left
  ·have hi2:i<xs.length:=by assumption
   refine aE (i+1) ⟨by omega,by omega⟩ ?_ (congrArg (fun r=>[(500000,MB.live ⟨true,0,zB,r⟩)]) ?_)
   ·rw[e1 hi2,ai (n:=(i:Int)+1) (by omega) (by omega)]
    rfl
   ·simp only[Nat.zero_add,Int.toNat_natCast]
    exact(Ix _ i _ (lL (k+1*i)) (by omega)).trans (by rw[←iU lL 1 hi2])
  ·obtain rfl:i=xs.length:=by omega
   refine oQ (by simp[AV.rowsN,hlen]) (by simp[kw]) ?_
   exact aA rfl
theorem c88(xs:List Bool)(k:Int)(h1:0≤k)(h2:k+1*xs.length≤1000000000):Con Tryz.prog 88 [pa xs,.int .i64 k] (aa [pa xs,.int .i64 k]) (.int .i64 (dC lL 1 xs k)):=by
 refine rn 23 Tryz.func88 [.tmp 4] (g:= ?_)
 conv=>whnf
 rotate_left
 refine LoopG.rounds (α:=Nat) bI dN [0,1,5] [] (fun i=>[(0,pa xs),(1,.int .i64 (k+1*i)),(5,.int .i64 i)]) (fun _=>[]) (fun i=>i≤xs.length∧xs.take i=gW lL 1 i k) (fun i=>xs.length-i) ?_ ?_
 ·conv=>whnf
  exact aE 0 ⟨by simp,by simp[gW]⟩ (by simp[pa]) rfl
 ·rintro i ⟨hi,ht⟩- -
  have e1:i<xs.length→IntKind.i64.wrap (k+1*(i:Int)+1)=k+1*((i+1:Nat):Int):=fun _=>(ai (by omega) (by omega)).trans (by omega)
  conv=>whnf
  (refine bN ?_ ?_<;>intro hb)
  refine bJ ?_
  (refine aD (by((try simp only[Int.toNat_natCast]);exact aF dQ _ _ _ default (by first|omega|(simp;omega)))) ?_;conv=>whnf);iterate 3 (first|refine bJ ?_|(refine bN ?_ ?_<;>intro hb))
  iterate 2 (rotate_left)
  refine bJ ?_
  rotate_left
  ·have hi2:i<xs.length:=by assumption
   exact aA (by rw[dr lL 1 default hi2 hb])
  ·have hi2:i<xs.length:=by assumption
   exact aE (i+1) ⟨⟨by omega,gJ lL 1 default hi2 ht hb⟩,by omega⟩ (by rw[e1 hi2,ai (n:=(i:Int)+1) (by omega) (by omega)];rfl) rfl
  ·obtain rfl:i=xs.length:=by omega
   exact aA (by rw[gU lL 1 (by omega) hi ht])
instance:CC 88:=⟨_,@c88⟩
theorem c18(xs:List Int)(left:Int):Con Tryz.prog 18 [dE xs,.int .i64 left] (aa [dE xs,.int .i64 left]) (.int .i64 (mc xs.length left)):=by
 refine rn 12 Tryz.func18 [.tmp 4] (g:= ?_)
 conv=>whnf
 repeat' (first|(focus (refine aA ?_;(first|(simp_all[mc];done)|(simp_all[mc];omega))))|refine aP ?_|(refine bN ?_ ?_<;>intro hb))
instance:CC 18:=⟨_,@c18⟩
theorem c27(rs:List Int)(h:rs.length≤1048576):Con Tryz.prog 27 [dE rs] (aa [dE rs]) (.own 0 zI (rs.map aj)):=by
 refine rn 22 Tryz.func27 [.tmp 2] (g:= ?_)
 conv=>whnf
 refine aP ?_
 rotate_left
 refine LoopG.rounds (α:=Nat) bI dN [0,3,4] [(7,7)] (fun i=>[(0,dE rs),(3,.ref 7 0 rs.length),(4,.int .i64 i)]) (fun i=>[(7,.live ⟨true,0,zI,oZ aj zI rs i⟩)]) (fun i=>i≤rs.length) (fun i=>rs.length-i) ?_ ?_
 ·conv=>whnf
  exact aE 0 (by simp) (by simp[dE]) (by simp[iZ,List.length_map])
 ·intro i h1 _ _
  conv=>whnf
  (refine bN ?_ ?_<;>intro hb)
  refine bJ ?_
  (refine aD (by((try simp only[Int.toNat_natCast]);exact aF aj _ _ _ default (by first|omega|(simp;omega)))) ?_;conv=>whnf)
  refine bJ ?_
  refine ie ?_
  rotate_left
  refine bJ ?_
  refine ie ?_
  rotate_left
  ·have hi:i<rs.length:=hb
   rotate_left
   refine aE (i+1) ⟨by omega,by omega⟩ (by rw[ai (by omega) (by omega)];rfl) (congrArg (fun r=>[(7,MB.live ⟨true,0,zI,r⟩)]) ?_)
   simp only[Nat.zero_add,Int.toNat_natCast]
   exact jg default hi rfl rfl
  ·obtain rfl:i=rs.length:=by omega
   (refine aA ?_;(simp[am,kj,List.take_of_length_le,List.length_map]))
instance:CC 27:=⟨_,@c27⟩
theorem c35(xs ys:List Int):Con Tryz.prog 35 [dE xs,dE ys] (aa [dE xs,dE ys]) (.bool (decide (xs=ys))):=by
 refine Con.evF 26 bI dN Tryz.func35 rfl rfl rfl rfl [.tmp 4] rfl fun⟨hx,_⟩=> ?_
 have hx:=facts_len hx
 conv=>whnf
 (refine bN ?_ ?_<;>intro hb)
 refine aP ?_
 iterate 2 (rotate_left)
 ·refine aA ?_
  have:xs≠ys:=fun e=>hb (by rw[e])
  simp[this]
 ·refine LoopG.rounds (α:=Nat) bI dN [0,1,5] [] (fun i=>[(0,dE xs),(1,dE ys),(5,.int .i64 i)]) (fun _=>[]) (fun i=>i≤xs.length∧xs.take i=ys.take i) (fun i=>xs.length-i) ?_ ?_
  ·conv=>whnf
   exact aE 0 ⟨by simp,by simp⟩ rfl rfl
  ·rintro i ⟨h1,h2⟩- -
   conv=>whnf
   (refine bN ?_ ?_<;>intro hb)
   refine bJ ?_
   (refine aD (by((try simp only[Int.toNat_natCast]);exact aF aj _ _ _ default (by first|omega|(simp;omega)))) ?_;conv=>whnf)
   refine bJ ?_
   (refine aD (by((try simp only[Int.toNat_natCast]);exact aF aj _ _ _ default (by first|omega|(simp;omega)))) ?_;conv=>whnf);iterate 3 (first|refine bJ ?_|(refine bN ?_ ?_<;>intro hb))
   iterate 2 (rotate_left)
   refine bJ ?_
   rotate_left
   ·refine aA ?_
    have:xs≠ys:=fun e=>hb (by rw[e])
    simp[this]
   ·exact aE (i+1) ⟨⟨by omega,fN default h2 (by omega) (by omega) hb⟩,by omega⟩ (by rw[ai (by omega) (by omega)];rfl) rfl
   ·refine aA ?_
    simp[gy h2 (by omega) (by omega)]
instance:CC 35:=⟨_,@c35⟩
theorem J6(xs:List Int)(i:Nat)(z:List AV)(y:Int)(h:i<xs.length):be (xs.map aj) i 0 z [.int .i64 y]=(xs.set i y).map aj:=by
 simp[be,setCells,dm,List.getD_eq_getElem?_getD,h,aj,List.map_set]
theorem c40(xs:List Int)(k:Int)(h1:0≤k)(h2:k+1*xs.length≤1000000000):Con Tryz.prog 40 [.own 0 zI (xs.map aj),.int .i64 k] [.own 0 zI ((gW eM 1 xs.length k).map aj),.undef] (.int .i64 (k+1*xs.length)):=by
 refine Con.evM 19 [true,false] [some 500000,none] [500000] rfl rfl rfl bI dN Tryz.func40 rfl rfl rfl rfl [.tmp 4] rfl ?_
 conv=>whnf
 rotate_left
 refine LoopG.rounds (α:=Nat) bI dN [0,1,5] [(500000,500000)] (fun i=>[(0,.ref 500000 0 xs.length),(1,.int .i64 (k+1*i)),(5,.int .i64 i)]) (fun i=>[(500000,.live ⟨true,0,zI,(mE eM 1 xs k i).map aj⟩)]) (fun i=>i≤xs.length) (fun i=>xs.length-i) ?_ ?_
 ·conv=>whnf
  exact aE 0 (by simp) (by simp) (by rw[iX])
 ·intro i hi _ _
  have hlen:=kT eM 1 (k:=k) hi
  have e1:i<xs.length→IntKind.i64.wrap (k+1*(i:Int)+1)=k+1*((i+1:Nat):Int):=fun _=>(ai (by omega) (by omega)).trans (by omega)
  conv=>whnf
  (refine bN ?_ ?_<;>intro hb)
  refine aP ?_
  rotate_left
  refine aP ?_
  rotate_left
  ·have hi2:i<xs.length:=by assumption
   refine aE (i+1) ⟨by omega,by omega⟩ ?_ (congrArg (fun r=>[(500000,MB.live ⟨true,0,zI,r⟩)]) ?_)
   ·rw[e1 hi2,ai (n:=(i:Int)+1) (by omega) (by omega)]
    rfl
   ·simp only[Nat.zero_add,Int.toNat_natCast]
    exact(J6 _ i _ (eM (k+1*i)) (by omega)).trans (by rw[←iU eM 1 hi2])
  ·obtain rfl:i=xs.length:=by omega
   refine oQ (by simp[AV.rowsN,hlen]) (by simp[kw]) ?_
   exact aA rfl
theorem c45(xs:List Int)(k:Int)(h1:0≤k)(h2:k+1*xs.length≤1000000000):Con Tryz.prog 45 [dE xs,.int .i64 k] (aa [dE xs,.int .i64 k]) (.int .i64 (dC eM 1 xs k)):=by
 refine rn 21 Tryz.func45 [.tmp 4] (g:= ?_)
 conv=>whnf
 rotate_left
 refine LoopG.rounds (α:=Nat) bI dN [0,1,5] [] (fun i=>[(0,dE xs),(1,.int .i64 (k+1*i)),(5,.int .i64 i)]) (fun _=>[]) (fun i=>i≤xs.length∧xs.take i=gW eM 1 i k) (fun i=>xs.length-i) ?_ ?_
 ·conv=>whnf
  exact aE 0 ⟨by simp,by simp[gW]⟩ (by simp[dE]) rfl
 ·rintro i ⟨hi,ht⟩- -
  have e1:i<xs.length→IntKind.i64.wrap (k+1*(i:Int)+1)=k+1*((i+1:Nat):Int):=fun _=>(ai (by omega) (by omega)).trans (by omega)
  conv=>whnf
  (refine bN ?_ ?_<;>intro hb)
  refine bJ ?_
  (refine aD (by((try simp only[Int.toNat_natCast]);exact aF aj _ _ _ default (by first|omega|(simp;omega)))) ?_;conv=>whnf);(refine bN ?_ ?_<;>intro hb)
  refine bJ ?_
  iterate 2 (rotate_left)
  refine bJ ?_
  rotate_left
  ·have hi2:i<xs.length:=by assumption
   exact aA (by rw[dr eM 1 default hi2 hb])
  ·have hi2:i<xs.length:=by assumption
   exact aE (i+1) ⟨⟨by omega,gJ eM 1 default hi2 ht hb⟩,by omega⟩ (by rw[e1 hi2,ai (n:=(i:Int)+1) (by omega) (by omega)];rfl) rfl
  ·obtain rfl:i=xs.length:=by omega
   exact aA (by rw[gU eM 1 (by omega) hi ht])
instance:CC 45:=⟨_,@c45⟩
theorem c56(xs:List Deal)(left:Int):Con Tryz.prog 56 [ll xs,.int .i64 left] (aa [ll xs,.int .i64 left]) (.int .i64 (mc xs.length left)):=by
 refine rn 12 Tryz.func56 [.tmp 4] (g:= ?_)
 conv=>whnf
 repeat' (first|(focus (refine aA ?_;(first|(simp_all[mc];done)|(simp_all[mc];omega))))|refine aP ?_|(refine bN ?_ ?_<;>intro hb))
instance:CC 56:=⟨_,@c56⟩
theorem c109(x:Deal):Con Tryz.prog 109 [iW x] (aa [iW x]) (iW x):=
 rn 17 Tryz.func109 [.cell 2 120] (g:=go)
instance:CC 109:=⟨_,@c109⟩
theorem c120(a b:Deal):Con Tryz.prog 120 [iW a,iW b] (aa [iW a,iW b]) (.bool (decide (a=b))):=by
 refine rn 25 Tryz.func120 [.tmp 4] (g:= ?_)
 conv=>whnf
 repeat' (first|(focus (refine aA ?_;((cases a;cases b;simp_all))))|refine aP ?_|(refine bN ?_ ?_<;>intro hb))
instance:CC 120:=⟨_,@c120⟩
theorem c69(rs:List Deal)(h:rs.length≤1048576):Con Tryz.prog 69 [ll rs] (aa [ll rs]) (.own 0 zD (rs.map aV)):=by
 refine rn 23 Tryz.func69 [.tmp 2] (g:= ?_)
 conv=>whnf
 refine aP ?_
 rotate_left
 refine LoopG.rounds (α:=Nat) bI dN [0,3,4] [(7,7)] (fun i=>[(0,ll rs),(3,.ref 7 0 rs.length),(4,.int .i64 i)]) (fun i=>[(7,.live ⟨true,0,zD,oZ aV zD rs i⟩)]) (fun i=>i≤rs.length) (fun i=>rs.length-i) ?_ ?_
 ·conv=>whnf
  exact aE 0 (by simp) (by simp[ll]) (by simp[iZ,List.length_map])
 ·intro i h1 _ _
  conv=>whnf
  (refine bN ?_ ?_<;>intro hb)
  refine bJ ?_
  (refine aD (by((try simp only[Int.toNat_natCast]);exact aF aV _ _ _ default (by first|omega|(simp;omega)))) ?_;conv=>whnf)
  refine bJ ?_
  rotate_left
  refine bJ ?_
  refine ie ?_
  rotate_left
  ·have hi:i<rs.length:=hb
   refine aP ?_
   rotate_left
   refine aE (i+1) ⟨by omega,by omega⟩ (by rw[ai (by omega) (by omega)];rfl) (congrArg (fun r=>[(7,MB.live ⟨true,0,zD,r⟩)]) ?_)
   simp only[Nat.zero_add,Int.toNat_natCast]
   exact jg default hi rfl rfl
  ·obtain rfl:i=rs.length:=by omega
   (refine aA ?_;(simp[am,kj,List.take_of_length_le,List.length_map]))
instance:CC 69:=⟨_,@c69⟩
theorem c83(xs ys:List Deal):Con Tryz.prog 83 [ll xs,ll ys] (aa [ll xs,ll ys]) (.bool (decide (xs=ys))):=by
 refine Con.evF 27 bI dN Tryz.func83 rfl rfl rfl rfl [.tmp 4] rfl fun⟨hx,_⟩=> ?_
 have hx:=facts_len hx
 conv=>whnf
 (refine bN ?_ ?_<;>intro hb)
 refine aP ?_
 iterate 2 (rotate_left)
 ·refine aA ?_
  have:xs≠ys:=fun e=>hb (by rw[e])
  simp[this]
 ·refine LoopG.rounds (α:=Nat) bI dN [0,1,5] [] (fun i=>[(0,ll xs),(1,ll ys),(5,.int .i64 i)]) (fun _=>[]) (fun i=>i≤xs.length∧xs.take i=ys.take i) (fun i=>xs.length-i) ?_ ?_
  ·conv=>whnf
   exact aE 0 ⟨by simp,by simp⟩ rfl rfl
  ·rintro i ⟨h1,h2⟩- -
   conv=>whnf
   (refine bN ?_ ?_<;>intro hb)
   refine bJ ?_
   (refine aD (by((try simp only[Int.toNat_natCast]);exact aF aV _ _ _ default (by first|omega|(simp;omega)))) ?_;conv=>whnf)
   refine bJ ?_
   (refine aD (by((try simp only[Int.toNat_natCast]);exact aF aV _ _ _ default (by first|omega|(simp;omega)))) ?_;conv=>whnf);iterate 3 (first|refine bJ ?_|(refine bN ?_ ?_<;>intro hb))
   iterate 2 (rotate_left)
   refine bJ ?_
   rotate_left
   ·refine aA ?_
    have:xs≠ys:=fun e=>hb (by rw[e])
    simp[this]
   ·exact aE (i+1) ⟨⟨by omega,fN default h2 (by omega) (by omega) hb⟩,by omega⟩ (by rw[ai (by omega) (by omega)];rfl) rfl
   ·refine aA ?_
    simp[gy h2 (by omega) (by omega)]
instance:CC 83:=⟨_,@c83⟩
theorem JT(xs:List Deal)(i:Nat)(z:List AV)(y:Deal)(h:i<xs.length):be (be (be (be (xs.map aV) i 0 z [.int .i64 y.c]) i 1 z [.int .i64 y.a]) i 2 z [.int .i64 y.b]) i 3 z [.int .i64 y.r]=(xs.set i y).map aV:=by
 simp[be,setCells,dm,List.getD_eq_getElem?_getD,h,aV,List.map_set]
theorem c87(xs:List Deal)(k:Int)(h1:0≤k)(h2:k+4*xs.length≤1000000000):Con Tryz.prog 87 [.own 0 zD (xs.map aV),.int .i64 k] [.own 0 zD ((gW jM 4 xs.length k).map aV),.undef] (.int .i64 (k+4*xs.length)):=by
 refine Con.evM 41 [true,false] [some 500000,none] [500000] rfl rfl rfl bI dN Tryz.func87 rfl rfl rfl rfl [.tmp 4] rfl ?_
 conv=>whnf
 rotate_left
 refine LoopG.rounds (α:=Nat) bI dN [0,1,5] [(500000,500000)] (fun i=>[(0,.ref 500000 0 xs.length),(1,.int .i64 (k+4*i)),(5,.int .i64 i)]) (fun i=>[(500000,.live ⟨true,0,zD,(mE jM 4 xs k i).map aV⟩)]) (fun i=>i≤xs.length) (fun i=>xs.length-i) ?_ ?_
 ·conv=>whnf
  exact aE 0 (by simp) (by simp) (by rw[iX])
 ·intro i hi _ _
  have hlen:=kT jM 4 (k:=k) hi
  have e1:i<xs.length→IntKind.i64.wrap (k+4*(i:Int)+1)=k+4*(i:Int)+1:=fun _=>(ai (by omega) (by omega)).trans (by omega)
  have e2:i<xs.length→IntKind.i64.wrap (k+4*(i:Int)+1+1)=k+4*(i:Int)+2:=fun _=>(ai (by omega) (by omega)).trans (by omega)
  have e3:i<xs.length→IntKind.i64.wrap (k+4*(i:Int)+2+1)=k+4*(i:Int)+3:=fun _=>(ai (by omega) (by omega)).trans (by omega)
  have e4:i<xs.length→IntKind.i64.wrap (k+4*(i:Int)+3+1)=k+4*((i+1:Nat):Int):=fun _=>(ai (by omega) (by omega)).trans (by omega)
  conv=>whnf
  (refine bN ?_ ?_<;>intro hb)
  refine aP ?_
  rotate_left
  refine aP ?_
  rotate_left
  ·have hi2:i<xs.length:=by assumption
   refine aE (i+1) ⟨by omega,by omega⟩ ?_ (congrArg (fun r=>[(500000,MB.live ⟨true,0,zD,r⟩)]) ?_)
   ·rw[e1 hi2,e2 hi2,e3 hi2,e4 hi2,ai (n:=(i:Int)+1) (by omega) (by omega)]
    rfl
   ·rw[e1 hi2,e2 hi2,e3 hi2]
    simp only[Nat.zero_add,Int.toNat_natCast]
    exact(JT _ i _ (jM (k+4*i)) (by omega)).trans (by rw[←iU jM 4 hi2])
  ·obtain rfl:i=xs.length:=by omega
   refine oQ (by simp[AV.rowsN,hlen]) (by simp[kw]) ?_
   exact aA rfl
theorem c89(xs:List Deal)(k:Int)(h1:0≤k)(h2:k+4*xs.length≤1000000000):Con Tryz.prog 89 [ll xs,.int .i64 k] (aa [ll xs,.int .i64 k]) (.int .i64 (dC jM 4 xs k)):=by
 refine rn 49 Tryz.func89 [.tmp 4] (g:= ?_)
 conv=>whnf
 rotate_left
 refine LoopG.rounds (α:=Nat) bI dN [0,1,5] [] (fun i=>[(0,ll xs),(1,.int .i64 (k+4*i)),(5,.int .i64 i)]) (fun _=>[]) (fun i=>i≤xs.length∧xs.take i=gW jM 4 i k) (fun i=>xs.length-i) ?_ ?_
 ·conv=>whnf
  exact aE 0 ⟨by simp,by simp[gW]⟩ (by simp[ll]) rfl
 ·rintro i ⟨hi,ht⟩- -
  have e1:i<xs.length→IntKind.i64.wrap (k+4*(i:Int)+1)=k+4*(i:Int)+1:=fun _=>(ai (by omega) (by omega)).trans (by omega)
  have e2:i<xs.length→IntKind.i64.wrap (k+4*(i:Int)+1+1)=k+4*(i:Int)+2:=fun _=>(ai (by omega) (by omega)).trans (by omega)
  have e3:i<xs.length→IntKind.i64.wrap (k+4*(i:Int)+2+1)=k+4*(i:Int)+3:=fun _=>(ai (by omega) (by omega)).trans (by omega)
  have e4:i<xs.length→IntKind.i64.wrap (k+4*(i:Int)+3+1)=k+4*((i+1:Nat):Int):=fun _=>(ai (by omega) (by omega)).trans (by omega)
  conv=>whnf
  (refine bN ?_ ?_<;>intro hb)
  refine bJ ?_
  (refine aD (by((try simp only[Int.toNat_natCast]);exact aF aV _ _ _ default (by first|omega|(simp;omega)))) ?_;conv=>whnf);(refine bN ?_ ?_<;>intro hb)
  refine bJ ?_
  rotate_left
  refine bJ ?_
  (refine aD (by((try simp only[Int.toNat_natCast]);exact aF aV _ _ _ default (by first|omega|(simp;omega)))) ?_;conv=>whnf);(refine bN ?_ ?_<;>intro hb)
  refine bJ ?_
  rotate_left
  refine bJ ?_
  (refine aD (by((try simp only[Int.toNat_natCast]);exact aF aV _ _ _ default (by first|omega|(simp;omega)))) ?_;conv=>whnf);(refine bN ?_ ?_<;>intro hb)
  refine bJ ?_
  rotate_left
  refine bJ ?_
  (refine aD (by((try simp only[Int.toNat_natCast]);exact aF aV _ _ _ default (by first|omega|(simp;omega)))) ?_;conv=>whnf);(refine bN ?_ ?_<;>intro hb)
  refine bJ ?_
  iterate 2 (rotate_left)
  refine bJ ?_
  rotate_left
  ·have hi2:i<xs.length:=by assumption
   exact aA (by rw[dr jM 4 default hi2 fun e=>hb (by rw[e];rfl)])
  ·rename_i hi2 _
   exact aA (by rw[dr jM 4 default hi2 fun e=>hb (by rw[e,e1 hi2];rfl)])
  ·rename_i hi2 _ _
   exact aA (by rw[dr jM 4 default hi2 fun e=>hb (by rw[e,e1 hi2,e2 hi2];rfl)])
  ·rename_i hi2 _ _ _
   exact aA (by rw[dr jM 4 default hi2 fun e=>hb (by rw[e,e1 hi2,e2 hi2,e3 hi2];rfl)])
  ·rename_i hi2 q1 q2 q3
   rw[e1 hi2]at q2
   rw[e1 hi2,e2 hi2]at q3
   rw[e1 hi2,e2 hi2,e3 hi2]at hb
   have h3:xs.getD i default=jM (k+4*i):=by
    generalize hg:xs.getD i default=y at*
    cases y
    simp only at q1 q2 q3 hb
    simp only[jM,Deal.mk.injEq]
    exact⟨q1,q2,q3,hb⟩
   refine aE (i+1) ⟨⟨by omega,gJ jM 4 default hi2 ht h3⟩,by omega⟩ (by rw[e1 hi2,e2 hi2,e3 hi2,e4 hi2,ai (n:=(i:Int)+1) (by omega) (by omega)];rfl) rfl
  ·obtain rfl:i=xs.length:=by omega
   exact aA (by rw[gU jM 4 (by omega) hi ht])
instance:CC 89:=⟨_,@c89⟩
theorem c67(x:Wd):Con Tryz.prog 67 [vI x] (aa [vI x]) (vI x):=
 rn 14 Tryz.func67 [.cell 2 92] (g:=go)
instance:CC 67:=⟨_,@c67⟩
theorem c81(a b:Wd):Con Tryz.prog 81 [vI a,vI b] (aa [vI a,vI b]) (.bool (decide (a=b))):=by
 refine rn 20 Tryz.func81 [.tmp 4] (g:= ?_)
 conv=>whnf
 repeat' (first|(focus (refine aA ?_;((cases a;cases b;simp_all))))|refine aP ?_|(refine bN ?_ ?_<;>intro hb))
instance:CC 81:=⟨_,@c81⟩
theorem c26(rs:List Wd)(h:rs.length≤1048576):Con Tryz.prog 26 [fb rs] (aa [fb rs]) (.own 0 zW (rs.map dc)):=by
 refine rn 23 Tryz.func26 [.tmp 2] (g:= ?_)
 conv=>whnf
 refine aP ?_
 rotate_left
 refine LoopG.rounds (α:=Nat) bI dN [0,3,4] [(7,7)] (fun i=>[(0,fb rs),(3,.ref 7 0 rs.length),(4,.int .i64 i)]) (fun i=>[(7,.live ⟨true,0,zW,oZ dc zW rs i⟩)]) (fun i=>i≤rs.length) (fun i=>rs.length-i) ?_ ?_
 ·conv=>whnf
  exact aE 0 (by simp) (by simp[fb]) (by simp[iZ,List.length_map])
 ·intro i h1 _ _
  conv=>whnf
  (refine bN ?_ ?_<;>intro hb)
  refine bJ ?_
  (refine aD (by((try simp only[Int.toNat_natCast]);exact aF dc _ _ _ default (by first|omega|(simp;omega)))) ?_;conv=>whnf)
  refine bJ ?_
  rotate_left
  refine bJ ?_
  refine ie ?_
  rotate_left
  ·have hi:i<rs.length:=hb
   refine aP ?_
   rotate_left
   refine aE (i+1) ⟨by omega,by omega⟩ (by rw[ai (by omega) (by omega)];rfl) (congrArg (fun r=>[(7,MB.live ⟨true,0,zW,r⟩)]) ?_)
   simp only[Nat.zero_add,Int.toNat_natCast]
   exact jg default hi rfl rfl
  ·obtain rfl:i=rs.length:=by omega
   (refine aA ?_;(simp[am,kj,List.take_of_length_le,List.length_map]))
theorem c34(xs ys:List Wd):Con Tryz.prog 34 [fb xs,fb ys] (aa [fb xs,fb ys]) (.bool (decide (xs=ys))):=by
 refine Con.evF 27 bI dN Tryz.func34 rfl rfl rfl rfl [.tmp 4] rfl fun⟨hx,_⟩=> ?_
 have hx:=facts_len hx
 conv=>whnf
 (refine bN ?_ ?_<;>intro hb)
 refine aP ?_
 iterate 2 (rotate_left)
 ·refine aA ?_
  have:xs≠ys:=fun e=>hb (by rw[e])
  simp[this]
 ·refine LoopG.rounds (α:=Nat) bI dN [0,1,5] [] (fun i=>[(0,fb xs),(1,fb ys),(5,.int .i64 i)]) (fun _=>[]) (fun i=>i≤xs.length∧xs.take i=ys.take i) (fun i=>xs.length-i) ?_ ?_
  ·conv=>whnf
   exact aE 0 ⟨by simp,by simp⟩ rfl rfl
  ·rintro i ⟨h1,h2⟩- -
   conv=>whnf
   (refine bN ?_ ?_<;>intro hb)
   refine bJ ?_
   (refine aD (by((try simp only[Int.toNat_natCast]);exact aF dc _ _ _ default (by first|omega|(simp;omega)))) ?_;conv=>whnf)
   refine bJ ?_
   (refine aD (by((try simp only[Int.toNat_natCast]);exact aF dc _ _ _ default (by first|omega|(simp;omega)))) ?_;conv=>whnf);iterate 3 (first|refine bJ ?_|(refine bN ?_ ?_<;>intro hb))
   iterate 2 (rotate_left)
   refine bJ ?_
   rotate_left
   ·refine aA ?_
    have:xs≠ys:=fun e=>hb (by rw[e])
    simp[this]
   ·exact aE (i+1) ⟨⟨by omega,fN default h2 (by omega) (by omega) hb⟩,by omega⟩ (by rw[ai (by omega) (by omega)];rfl) rfl
   ·refine aA ?_
    simp[gy h2 (by omega) (by omega)]
instance:CC 34:=⟨_,@c34⟩
theorem Jp(xs:List Wd)(i:Nat)(z:List AV)(y:Wd)(h:i<xs.length):be (be (be (xs.map dc) i 0 z [.str y.nm]) i 1 z [.int .i64 y.k]) i 2 z [.int .i64 y.v]=(xs.set i y).map dc:=by
 simp[be,setCells,dm,List.getD_eq_getElem?_getD,h,dc,List.map_set]
theorem c39(xs:List Wd)(k:Int)(h1:0≤k)(h2:k+3*xs.length≤1000000000):Con Tryz.prog 39 [.own 0 zW (xs.map dc),.int .i64 k] [.own 0 zW ((gW lH 3 xs.length k).map dc),.undef] (.int .i64 (k+3*xs.length)):=by
 refine Con.evM 35 [true,false] [some 500000,none] [500000] rfl rfl rfl bI dN Tryz.func39 rfl rfl rfl rfl [.tmp 4] rfl ?_
 conv=>whnf
 rotate_left
 refine LoopG.rounds (α:=Nat) bI dN [0,1,5] [(500000,500000)] (fun i=>[(0,.ref 500000 0 xs.length),(1,.int .i64 (k+3*i)),(5,.int .i64 i)]) (fun i=>[(500000,.live ⟨true,0,zW,(mE lH 3 xs k i).map dc⟩)]) (fun i=>i≤xs.length) (fun i=>xs.length-i) ?_ ?_
 ·conv=>whnf
  exact aE 0 (by simp) (by simp) (by rw[iX])
 ·intro i hi _ _
  have hlen:=kT lH 3 (k:=k) hi
  have e1:i<xs.length→IntKind.i64.wrap (k+3*(i:Int)+1)=k+3*(i:Int)+1:=fun _=>(ai (by omega) (by omega)).trans (by omega)
  have e2:i<xs.length→IntKind.i64.wrap (k+3*(i:Int)+1+1)=k+3*(i:Int)+2:=fun _=>(ai (by omega) (by omega)).trans (by omega)
  have e3:i<xs.length→IntKind.i64.wrap (k+3*(i:Int)+2+1)=k+3*((i+1:Nat):Int):=fun _=>(ai (by omega) (by omega)).trans (by omega)
  conv=>whnf
  iterate 20 (first|(refine ac (by solve|simp only[cR,bg]|fail) ?_;(conv=>whnf))|(apply ac rfl;(conv=>whnf))|(refine ac (by refine aO rfl ?_;simp only[cR];omega) ?_;(conv=>whnf))|(apply ag rfl;(conv=>whnf))|(refine aG (fun hf=> ?_);(conv=>whnf))|(refine ck ?_ ?_<;>intro hb<;>(try simp only[ew]at hb)<;>conv=>whnf)|(apply aH;(conv=>whnf))|(refine ah (c85 _ (by omega) (by omega)) ?_;(conv=>whnf)))
  rotate_left
  (apply ac rfl;conv=>whnf)
  rotate_left
  ·have hi2:i<xs.length:=by assumption
   refine aE (i+1) ⟨by omega,by omega⟩ ?_ (congrArg (fun r=>[(500000,MB.live ⟨true,0,zW,r⟩)]) ?_)
   ·rw[e1 hi2,e2 hi2,e3 hi2,ai (n:=(i:Int)+1) (by omega) (by omega)]
    rfl
   ·rw[e1 hi2,e2 hi2]
    simp only[Nat.zero_add,Int.toNat_natCast]
    exact(Jp _ i _ (lH (k+3*i)) (by omega)).trans (by rw[←iU lH 3 hi2])
  ·obtain rfl:i=xs.length:=by omega
   refine oQ (by simp[AV.rowsN,hlen]) (by simp[kw]) ?_
   exact aA rfl
theorem c44(xs:List Wd)(k:Int)(h1:0≤k)(h2:k+3*xs.length≤1000000000):Con Tryz.prog 44 [fb xs,.int .i64 k] (aa [fb xs,.int .i64 k]) (.int .i64 (dC lH 3 xs k)):=by
 refine rn 41 Tryz.func44 [.tmp 4] (g:= ?_)
 conv=>whnf
 rotate_left
 refine LoopG.rounds (α:=Nat) bI dN [0,1,5] [] (fun i=>[(0,fb xs),(1,.int .i64 (k+3*i)),(5,.int .i64 i)]) (fun _=>[]) (fun i=>i≤xs.length∧xs.take i=gW lH 3 i k) (fun i=>xs.length-i) ?_ ?_
 ·conv=>whnf
  exact aE 0 ⟨by simp,by simp[gW]⟩ (by simp[fb]) rfl
 ·rintro i ⟨hi,ht⟩- -
  have e1:i<xs.length→IntKind.i64.wrap (k+3*(i:Int)+1)=k+3*(i:Int)+1:=fun _=>(ai (by omega) (by omega)).trans (by omega)
  have e2:i<xs.length→IntKind.i64.wrap (k+3*(i:Int)+1+1)=k+3*(i:Int)+2:=fun _=>(ai (by omega) (by omega)).trans (by omega)
  have e3:i<xs.length→IntKind.i64.wrap (k+3*(i:Int)+2+1)=k+3*((i+1:Nat):Int):=fun _=>(ai (by omega) (by omega)).trans (by omega)
  conv=>whnf
  (iterate 9 (first|(apply ac rfl;(conv=>whnf))|(refine ac (by refine aO rfl ?_;simp only[cR];omega) ?_;(conv=>whnf))|(refine ChkS.mk (by kernel_rfl) ?_;(conv=>whnf))|(refine ck ?_ ?_<;>intro hb<;>(try simp only[ew]at hb)<;>conv=>whnf)));(refine aD (by((try simp only[Int.toNat_natCast]);exact aF dc _ _ _ default (by first|omega|(simp;omega)))) ?_;conv=>whnf);iterate 9 (first|(apply ac rfl;(conv=>whnf))|(refine aG (fun hf=> ?_);(conv=>whnf))|(refine ChkS.mk (by kernel_rfl) ?_;(conv=>whnf))|(refine ck ?_ ?_<;>intro hb<;>(try simp only[ew]at hb)<;>conv=>whnf)|(refine ah (c85 _ (by omega) (by omega)) ?_;(conv=>whnf)))
  rotate_left
  (iterate 3 ((first|apply ac rfl|refine ac (by refine aO rfl ?_;simp only[cR];omega) ?_);conv=>whnf));(refine aD (by((try simp only[Int.toNat_natCast]);exact aF dc _ _ _ default (by first|omega|(simp;omega)))) ?_;conv=>whnf);(refine ck ?_ ?_<;>intro hb<;>(try simp only[ew]at hb)<;>conv=>whnf);(apply ac rfl;conv=>whnf)
  rotate_left
  (iterate 3 ((first|apply ac rfl|refine ac (by refine aO rfl ?_;simp only[cR];omega) ?_);conv=>whnf));(refine aD (by((try simp only[Int.toNat_natCast]);exact aF dc _ _ _ default (by first|omega|(simp;omega)))) ?_;conv=>whnf);(refine ck ?_ ?_<;>intro hb<;>(try simp only[ew]at hb)<;>conv=>whnf);(apply ac rfl;conv=>whnf)
  iterate 2 (rotate_left)
  (apply ac rfl;conv=>whnf)
  rotate_left
  ·have hi2:i<xs.length:=by assumption
   exact aA (by rw[dr lH 3 default hi2 fun e=>hb (by rw[e];rfl)])
  ·rename_i hi2 _
   exact aA (by rw[dr lH 3 default hi2 fun e=>hb (by rw[e,e1 hi2];rfl)])
  ·rename_i hi2 _ _
   exact aA (by rw[dr lH 3 default hi2 fun e=>hb (by rw[e,e1 hi2,e2 hi2];rfl)])
  ·rename_i hi2 q1 q2
   rw[e1 hi2]at q2
   rw[e1 hi2,e2 hi2]at hb
   have h3:xs.getD i default=lH (k+3*i):=by
    generalize hg:xs.getD i default=y at*
    cases y
    simp only at q1 q2 hb
    simp only[lH,Wd.mk.injEq]
    exact⟨q1,q2,hb⟩
   refine aE (i+1) ⟨⟨by omega,gJ lH 3 default hi2 ht h3⟩,by omega⟩ (by rw[e1 hi2,e2 hi2,e3 hi2,ai (n:=(i:Int)+1) (by omega) (by omega)];rfl) rfl
  ·obtain rfl:i=xs.length:=by omega
   exact aA (by rw[gU lH 3 (by omega) hi ht])
theorem c21(xs:List Cal)(left:Int):Con Tryz.prog 21 [nK xs,.int .i64 left] (aa [nK xs,.int .i64 left]) (.int .i64 (mc xs.length left)):=by
 refine rn 12 Tryz.func21 [.tmp 4] (g:= ?_)
 conv=>whnf
 repeat' (first|(focus (refine aA ?_;(first|(simp_all[mc];done)|(simp_all[mc];omega))))|refine aP ?_|(refine bN ?_ ?_<;>intro hb))
instance:CC 21:=⟨_,@c21⟩
theorem c70(x:Cal):Con Tryz.prog 70 [rt x] (aa [rt x]) (rt x):=
 rn 17 Tryz.func70 [.cell 2 99] (g:=go)
instance:CC 70:=⟨_,@c70⟩
theorem c84(a b:Cal):Con Tryz.prog 84 [rt a,rt b] (aa [rt a,rt b]) (.bool (decide (a=b))):=by
 refine rn 25 Tryz.func84 [.tmp 4] (g:= ?_)
 conv=>whnf
 repeat' (first|(focus (refine aA ?_;((cases a;cases b;simp_all))))|refine aP ?_|(refine bN ?_ ?_<;>intro hb))
instance:CC 84:=⟨_,@c84⟩
theorem c30(rs:List Cal)(h:rs.length≤1048576):Con Tryz.prog 30 [nK rs] (aa [nK rs]) (.own 0 zC (rs.map bK)):=by
 refine rn 23 Tryz.func30 [.tmp 2] (g:= ?_)
 conv=>whnf
 refine aP ?_
 rotate_left
 refine LoopG.rounds (α:=Nat) bI dN [0,3,4] [(7,7)] (fun i=>[(0,nK rs),(3,.ref 7 0 rs.length),(4,.int .i64 i)]) (fun i=>[(7,.live ⟨true,0,zC,oZ bK zC rs i⟩)]) (fun i=>i≤rs.length) (fun i=>rs.length-i) ?_ ?_
 ·conv=>whnf
  exact aE 0 (by simp) (by simp[nK]) (by simp[iZ,List.length_map])
 ·intro i h1 _ _
  conv=>whnf
  (refine bN ?_ ?_<;>intro hb)
  refine bJ ?_
  (refine aD (by((try simp only[Int.toNat_natCast]);exact aF bK _ _ _ default (by first|omega|(simp;omega)))) ?_;conv=>whnf)
  refine bJ ?_
  rotate_left
  refine bJ ?_
  refine ie ?_
  rotate_left
  ·have hi:i<rs.length:=hb
   refine aP ?_
   rotate_left
   refine aE (i+1) ⟨by omega,by omega⟩ (by rw[ai (by omega) (by omega)];rfl) (congrArg (fun r=>[(7,MB.live ⟨true,0,zC,r⟩)]) ?_)
   simp only[Nat.zero_add,Int.toNat_natCast]
   exact jg default hi rfl rfl
  ·obtain rfl:i=rs.length:=by omega
   (refine aA ?_;(simp[am,kj,List.take_of_length_le,List.length_map]))
theorem c38(xs ys:List Cal):Con Tryz.prog 38 [nK xs,nK ys] (aa [nK xs,nK ys]) (.bool (decide (xs=ys))):=by
 refine Con.evF 27 bI dN Tryz.func38 rfl rfl rfl rfl [.tmp 4] rfl fun⟨hx,_⟩=> ?_
 have hx:=facts_len hx
 conv=>whnf
 (refine bN ?_ ?_<;>intro hb)
 refine aP ?_
 iterate 2 (rotate_left)
 ·refine aA ?_
  have:xs≠ys:=fun e=>hb (by rw[e])
  simp[this]
 ·refine LoopG.rounds (α:=Nat) bI dN [0,1,5] [] (fun i=>[(0,nK xs),(1,nK ys),(5,.int .i64 i)]) (fun _=>[]) (fun i=>i≤xs.length∧xs.take i=ys.take i) (fun i=>xs.length-i) ?_ ?_
  ·conv=>whnf
   exact aE 0 ⟨by simp,by simp⟩ rfl rfl
  ·rintro i ⟨h1,h2⟩- -
   conv=>whnf
   (refine bN ?_ ?_<;>intro hb)
   refine bJ ?_
   (refine aD (by((try simp only[Int.toNat_natCast]);exact aF bK _ _ _ default (by first|omega|(simp;omega)))) ?_;conv=>whnf)
   refine bJ ?_
   (refine aD (by((try simp only[Int.toNat_natCast]);exact aF bK _ _ _ default (by first|omega|(simp;omega)))) ?_;conv=>whnf);iterate 3 (first|refine bJ ?_|(refine bN ?_ ?_<;>intro hb))
   iterate 2 (rotate_left)
   refine bJ ?_
   rotate_left
   ·refine aA ?_
    have:xs≠ys:=fun e=>hb (by rw[e])
    simp[this]
   ·exact aE (i+1) ⟨⟨by omega,fN default h2 (by omega) (by omega) hb⟩,by omega⟩ (by rw[ai (by omega) (by omega)];rfl) rfl
   ·refine aA ?_
    simp[gy h2 (by omega) (by omega)]
instance:CC 38:=⟨_,@c38⟩
theorem IE(xs:List Cal)(i:Nat)(z:List AV)(y:Cal)(h:i<xs.length):be (be (be (be (xs.map bK) i 0 z [.int .i64 y.ip]) i 1 z [.int .i64 y.fl]) i 2 z [.int .i64 y.dp]) i 3 z [.bool y.ca]=(xs.set i y).map bK:=by
 simp[be,setCells,dm,List.getD_eq_getElem?_getD,h,bK,List.map_set]
theorem c43(xs:List Cal)(k:Int)(h1:0≤k)(h2:k+4*xs.length≤1000000000):Con Tryz.prog 43 [.own 0 zC (xs.map bK),.int .i64 k] [.own 0 zC ((gW kL 4 xs.length k).map bK),.undef] (.int .i64 (k+4*xs.length)):=by
 refine Con.evM 43 [true,false] [some 500000,none] [500000] rfl rfl rfl bI dN Tryz.func43 rfl rfl rfl rfl [.tmp 4] rfl ?_
 conv=>whnf
 rotate_left
 refine LoopG.rounds (α:=Nat) bI dN [0,1,5] [(500000,500000)] (fun i=>[(0,.ref 500000 0 xs.length),(1,.int .i64 (k+4*i)),(5,.int .i64 i)]) (fun i=>[(500000,.live ⟨true,0,zC,(mE kL 4 xs k i).map bK⟩)]) (fun i=>i≤xs.length) (fun i=>xs.length-i) ?_ ?_
 ·conv=>whnf
  exact aE 0 (by simp) (by simp) (by rw[iX])
 ·intro i hi _ _
  have hlen:=kT kL 4 (k:=k) hi
  have e1:i<xs.length→IntKind.i64.wrap (k+4*(i:Int)+1)=k+4*(i:Int)+1:=fun _=>(ai (by omega) (by omega)).trans (by omega)
  have e2:i<xs.length→IntKind.i64.wrap (k+4*(i:Int)+1+1)=k+4*(i:Int)+2:=fun _=>(ai (by omega) (by omega)).trans (by omega)
  have e3:i<xs.length→IntKind.i64.wrap (k+4*(i:Int)+2+1)=k+4*(i:Int)+3:=fun _=>(ai (by omega) (by omega)).trans (by omega)
  have e4:i<xs.length→IntKind.i64.wrap (k+4*(i:Int)+3+1)=k+4*((i+1:Nat):Int):=fun _=>(ai (by omega) (by omega)).trans (by omega)
  conv=>whnf
  (refine bN ?_ ?_<;>intro hb)
  refine aP ?_
  rotate_left
  refine aP ?_
  rotate_left
  ·have hi2:i<xs.length:=by assumption
   refine aE (i+1) ⟨by omega,by omega⟩ ?_ (congrArg (fun r=>[(500000,MB.live ⟨true,0,zC,r⟩)]) ?_)
   ·rw[e1 hi2,e2 hi2,e3 hi2,e4 hi2,ai (n:=(i:Int)+1) (by omega) (by omega)]
    rfl
   ·rw[e1 hi2,e2 hi2,e3 hi2]
    simp only[Nat.zero_add,Int.toNat_natCast]
    exact(IE _ i _ (kL (k+4*i)) (by omega)).trans (by rw[←iU kL 4 hi2])
  ·obtain rfl:i=xs.length:=by omega
   refine oQ (by simp[AV.rowsN,hlen]) (by simp[kw]) ?_
   exact aA rfl
theorem c48(xs:List Cal)(k:Int)(h1:0≤k)(h2:k+4*xs.length≤1000000000):Con Tryz.prog 48 [nK xs,.int .i64 k] (aa [nK xs,.int .i64 k]) (.int .i64 (dC kL 4 xs k)):=by
 refine rn 51 Tryz.func48 [.tmp 4] (g:= ?_)
 conv=>whnf
 rotate_left
 refine LoopG.rounds (α:=Nat) bI dN [0,1,5] [] (fun i=>[(0,nK xs),(1,.int .i64 (k+4*i)),(5,.int .i64 i)]) (fun _=>[]) (fun i=>i≤xs.length∧xs.take i=gW kL 4 i k) (fun i=>xs.length-i) ?_ ?_
 ·conv=>whnf
  exact aE 0 ⟨by simp,by simp[gW]⟩ (by simp[nK]) rfl
 ·rintro i ⟨hi,ht⟩- -
  have e1:i<xs.length→IntKind.i64.wrap (k+4*(i:Int)+1)=k+4*(i:Int)+1:=fun _=>(ai (by omega) (by omega)).trans (by omega)
  have e2:i<xs.length→IntKind.i64.wrap (k+4*(i:Int)+1+1)=k+4*(i:Int)+2:=fun _=>(ai (by omega) (by omega)).trans (by omega)
  have e3:i<xs.length→IntKind.i64.wrap (k+4*(i:Int)+2+1)=k+4*(i:Int)+3:=fun _=>(ai (by omega) (by omega)).trans (by omega)
  have e4:i<xs.length→IntKind.i64.wrap (k+4*(i:Int)+3+1)=k+4*((i+1:Nat):Int):=fun _=>(ai (by omega) (by omega)).trans (by omega)
  conv=>whnf
  (refine bN ?_ ?_<;>intro hb)
  refine bJ ?_
  (refine aD (by((try simp only[Int.toNat_natCast]);exact aF bK _ _ _ default (by first|omega|(simp;omega)))) ?_;conv=>whnf);(refine bN ?_ ?_<;>intro hb)
  refine bJ ?_
  rotate_left
  refine bJ ?_
  (refine aD (by((try simp only[Int.toNat_natCast]);exact aF bK _ _ _ default (by first|omega|(simp;omega)))) ?_;conv=>whnf);(refine bN ?_ ?_<;>intro hb)
  refine bJ ?_
  rotate_left
  refine bJ ?_
  (refine aD (by((try simp only[Int.toNat_natCast]);exact aF bK _ _ _ default (by first|omega|(simp;omega)))) ?_;conv=>whnf);(refine bN ?_ ?_<;>intro hb)
  refine bJ ?_
  rotate_left
  refine bJ ?_
  (refine aD (by((try simp only[Int.toNat_natCast]);exact aF bK _ _ _ default (by first|omega|(simp;omega)))) ?_;conv=>whnf);iterate 3 (first|refine bJ ?_|(refine bN ?_ ?_<;>intro hb))
  iterate 2 (rotate_left)
  refine bJ ?_
  rotate_left
  ·have hi2:i<xs.length:=by assumption
   exact aA (by rw[dr kL 4 default hi2 fun e=>hb (by rw[e];rfl)])
  ·rename_i hi2 _
   exact aA (by rw[dr kL 4 default hi2 fun e=>hb (by rw[e,e1 hi2];rfl)])
  ·rename_i hi2 _ _
   exact aA (by rw[dr kL 4 default hi2 fun e=>hb (by rw[e,e1 hi2,e2 hi2];rfl)])
  ·rename_i hi2 _ _ _
   exact aA (by rw[dr kL 4 default hi2 fun e=>hb (by rw[e,e1 hi2,e2 hi2,e3 hi2];rfl)])
  ·rename_i hi2 q1 q2 q3
   rw[e1 hi2]at q2
   rw[e1 hi2,e2 hi2]at q3
   rw[e1 hi2,e2 hi2,e3 hi2]at hb
   have h3:xs.getD i default=kL (k+4*i):=by
    generalize hg:xs.getD i default=y at*
    cases y
    simp only at q1 q2 q3 hb
    simp only[kL,Cal.mk.injEq]
    exact⟨q1,q2,q3,hb⟩
   refine aE (i+1) ⟨⟨by omega,gJ kL 4 default hi2 ht h3⟩,by omega⟩ (by rw[e1 hi2,e2 hi2,e3 hi2,e4 hi2,ai (n:=(i:Int)+1) (by omega) (by omega)];rfl) rfl
  ·obtain rfl:i=xs.length:=by omega
   exact aA (by rw[gU kL 4 (by omega) hi ht])
def ef(d:Dat):Prop:=d.st.length≤1048576∧d.bk.length≤1048576∧d.ce.length≤1048576∧d.ou.length≤1048576
def jS(d:Dat)(l:Int):Int:=jJ (mc d.st.length l) (fun l=>jJ (mc d.bk.length l) (fun l=>jJ (mc d.ce.length l) (fun l=>jJ (mc d.ou.length l) id)))
theorem c19(d:Dat)(left:Int):Con Tryz.prog 19 [az d,.int .i64 left] (aa [az d,.int .i64 left]) (.int .i64 (jS d left)):=by
 refine rn 31 Tryz.func19 [.tmp 4] (g:= ?_)
 conv=>whnf
 repeat' (first|(focus (refine aA ?_;(first|(simp_all[jS,jJ,mc];done)|(simp_all[jS,jJ,mc];omega)|(simp only[jS,jJ];rw[Bs (show 0≤IntKind.i64.wrap (left-_) by assumption)];first|(rw[if_neg (by omega),if_pos (by omega)];done)|(rw[if_neg (by omega),if_neg (by omega)];first|done|rfl)))))|refine aP ?_|(refine bN ?_ ?_<;>intro hb))
instance:CC 19:=⟨_,@c19⟩
theorem sp{d:Dat}{l:Int}(h1:0≤l)(h2:l≤1048576)(hl0:d.st.length≤9223372036854775807)(hl1:d.bk.length≤9223372036854775807)(hl2:d.ce.length≤9223372036854775807)(hl5:d.ou.length≤9223372036854775807)(e:0≤jS d l):jS d l≤l∧ef d:=by
 unfold jS at e⊢
 obtain⟨a0,e,q0⟩:=dW e
 have k0:=iJ (h1) (h2) hl0 a0
 obtain⟨a1,e,q1⟩:=dW e
 have k1:=iJ (by omega) (by omega) hl1 a1
 obtain⟨a2,e,q2⟩:=dW e
 have k2:=iJ (by omega) (by omega) hl2 a2
 obtain⟨a5,e,q5⟩:=dW e
 have k5:=iJ (by omega) (by omega) hl5 a5
 try simp only[id]at*
 refine⟨by rw[q0,q1,q2,q5];(try simp only[id]);omega,k0.2,k1.2,k2.2,k5.2⟩
theorem c28(d:Dat)(hs:ef d):Con Tryz.prog 28 [az d] (aa [az d]) (jK d):=by
 refine rn 26 Tryz.func28 [.cell 2 35] (g:= ?_)
 conv=>whnf
 (iterate 13 (first|refine ie ?_|(refine ah (c27 _ hs.2.2.1) ?_;conv=>whnf)|(refine ah (c27 _ hs.2.1) ?_;conv=>whnf)|(refine ah (c27 _ hs.1) ?_;conv=>whnf)|refine bJ ?_));(refine aA ?_;(rfl))
theorem c36(a b:Dat):Con Tryz.prog 36 [az a,az b] (aa [az a,az b]) (.bool (decide (a=b))):=by
 refine rn 38 Tryz.func36 [.tmp 4] (g:= ?_)
 conv=>whnf
 repeat' (first|(focus (refine aA ?_;((cases a;cases b;simp_all))))|refine aP ?_|(refine bN ?_ ?_<;>intro hb))
instance:CC 36:=⟨_,@c36⟩
def cF(d:Dat):Int:=1*(d.st.length:Int)+1*(d.bk.length:Int)+1*(d.ce.length:Int)
def cb(d:Dat)(k:Int):Dat:=⟨gW eM 1 d.st.length (k),gW eM 1 d.bk.length (k+1*(d.st.length:Int)),gW eM 1 d.ce.length (k+1*(d.st.length:Int)+1*(d.bk.length:Int)),d.he,d.ba,d.ou⟩
theorem c41(d:Dat)(k:Int)(h1:0≤k)(h2:k+cF d≤100000000):Con Tryz.prog 41 [jK d,.int .i64 k] [.agg [aU (cb d k).st,aU (cb d k).bk,aU (cb d k).ce,.undef,.undef,.undef],.undef] (.int .i64 (k+cF d)):=by
 unfold cF at h2
 refine Con.evH 18 [some 500000,some 500001,some 500002,none,none,none] [500000,500001,500002] rfl rfl bI dN Tryz.func41 rfl rfl rfl rfl [.tmp 4] rfl ?_
 conv=>whnf
 (iterate 38 (first|(refine ac (by solve|simp only[cR,bg,aU,bn,bm,dz,jL,dH,gp]|fail) ?_;(conv=>whnf))|(apply ac rfl;(conv=>whnf))|(focus (refine oQ (by solve|simp[AV.rowsN,List.length_map,bg,aU,bn,bm,dz,jL,dH,gp]|fail) rfl ?_;(conv=>whnf)))|(apply ag rfl;(conv=>whnf))|(refine aG (fun hf=> ?_);(conv=>whnf))|(refine mn 40 0 ?_;(conv=>whnf))|(refine jl (f:=40) (j:=0) (c40 _ _ (by omega) (by omega)) (by solve|simp[List.length_map,bg,aU,bn,bm,dz,jL,dH,gp]|fail) (by rfl) (by rfl) ?_;(conv=>whnf))));(refine aA ?_;((simp only[cF];congr 1;omega)))
def kY(d:Dat)(k:Int):Int:=jJ (dC eM 1 d.st k) (fun l=>jJ (dC eM 1 d.bk l) (fun l=>jJ (dC eM 1 d.ce l) id))
theorem c46(d:Dat)(k:Int)(h1:0≤k)(h2:k+cF d≤100000000):Con Tryz.prog 46 [az d,.int .i64 k] (aa [az d,.int .i64 k]) (.int .i64 (kY d k)):=by
 unfold cF at h2
 have g0:=gO eM 1 d.st k
 have g1:=gO eM 1 d.bk (dC eM 1 d.st k)
 have g2:=gO eM 1 d.ce (dC eM 1 d.bk (dC eM 1 d.st k))
 refine rn 24 Tryz.func46 [.tmp 4] (g:= ?_)
 conv=>whnf
 repeat' (first|(refine ah (c45 _ _ (by omega) (by omega)) ?_;conv=>whnf)|(focus (refine aA ?_;(first|(simp_all[kY,jJ];done)|(simp_all[kY,jJ];omega))))|refine aP ?_|(refine bN ?_ ?_<;>intro hb))
theorem tY(d:Dat)(k:Int)(h1:0≤k):kY (cb d k) k=k+cF d:=by
 simp only[kY,cb,jY,jJ,id]
 rw[if_neg (by omega),if_neg (by omega),if_neg (by omega)]
 unfold cF
 omega
theorem vS(d:Dat)(k:Int):cF (cb d k)=cF d:=by simp[cF,cb,bg]
theorem vE{d:Dat}(hs:ef d):0≤cF d∧cF d≤12000000:=by
 unfold ef at hs
 unfold cF
 omega
def dv(h:Hst):Prop:=h.gr.length≤1048576∧h.st.length≤1048576∧h.q.length≤1048576∧h.ds.length≤1048576
def jR(h:Hst)(l:Int):Int:=jJ (mc h.gr.length l) (fun l=>jJ (mc h.st.length l) (fun l=>jJ (mc h.q.length l) (fun l=>jJ (mc h.ds.length l) id)))
theorem c20(h:Hst)(left:Int):Con Tryz.prog 20 [cS h,.int .i64 left] (aa [cS h,.int .i64 left]) (.int .i64 (jR h left)):=by
 refine rn 30 Tryz.func20 [.tmp 4] (g:= ?_)
 conv=>whnf
 repeat' (first|(focus (refine aA ?_;(first|(simp_all[jR,jJ,mc];done)|(simp_all[jR,jJ,mc];omega)|(simp only[jR,jJ];rw[Bs (show 0≤IntKind.i64.wrap (left-_) by assumption)];first|(rw[if_neg (by omega),if_pos (by omega)];done)|(rw[if_neg (by omega),if_neg (by omega)];first|done|rfl)))))|refine aP ?_|(refine bN ?_ ?_<;>intro hb))
instance:CC 20:=⟨_,@c20⟩
theorem sO{h:Hst}{l:Int}(h1:0≤l)(h2:l≤1048576)(hl0:h.gr.length≤9223372036854775807)(hl1:h.st.length≤9223372036854775807)(hl2:h.q.length≤9223372036854775807)(hl4:h.ds.length≤9223372036854775807)(e:0≤jR h l):jR h l≤l∧dv h:=by
 unfold jR at e⊢
 obtain⟨a0,e,q0⟩:=dW e
 have k0:=iJ (h1) (h2) hl0 a0
 obtain⟨a1,e,q1⟩:=dW e
 have k1:=iJ (by omega) (by omega) hl1 a1
 obtain⟨a2,e,q2⟩:=dW e
 have k2:=iJ (by omega) (by omega) hl2 a2
 obtain⟨a4,e,q4⟩:=dW e
 have k4:=iJ (by omega) (by omega) hl4 a4
 try simp only[id]at*
 refine⟨by rw[q0,q1,q2,q4];(try simp only[id]);omega,k0.2,k1.2,k2.2,k4.2⟩
theorem c29(h:Hst)(hs:dv h):Con Tryz.prog 29 [cS h] (aa [cS h]) (fI h):=by
 refine rn 24 Tryz.func29 [.cell 2 38] (g:= ?_)
 conv=>whnf
 (iterate 17 (first|refine ie ?_|(refine ah (c69 _ hs.2.2.2) ?_;conv=>whnf)|(refine ah (c27 _ hs.2.2.1) ?_;conv=>whnf)|(refine ah (c27 _ hs.2.1) ?_;conv=>whnf)|(refine ah (c68 _ hs.1) ?_;conv=>whnf)|refine bJ ?_));(refine aA ?_;(rfl))
theorem c37(a b:Hst):Con Tryz.prog 37 [cS a,cS b] (aa [cS a,cS b]) (.bool (decide (a=b))):=by
 refine rn 34 Tryz.func37 [.tmp 4] (g:= ?_)
 conv=>whnf
 repeat' (first|(focus (refine aA ?_;((cases a;cases b;simp_all))))|refine aP ?_|(refine bN ?_ ?_<;>intro hb))
instance:CC 37:=⟨_,@c37⟩
def cW(h:Hst):Int:=1*(h.gr.length:Int)+1*(h.st.length:Int)+1*(h.q.length:Int)+4*(h.ds.length:Int)
def bX(h:Hst)(k:Int):Hst:=⟨gW lL 1 h.gr.length (k),gW eM 1 h.st.length (k+1*(h.gr.length:Int)),gW eM 1 h.q.length (k+1*(h.gr.length:Int)+1*(h.st.length:Int)),h.tk,gW jM 4 h.ds.length (k+1*(h.gr.length:Int)+1*(h.st.length:Int)+1*(h.q.length:Int))⟩
theorem c42(h:Hst)(k:Int)(h1:0≤k)(h2:k+cW h≤100000000):Con Tryz.prog 42 [fI h,.int .i64 k] [.agg [bn (bX h k).gr,aU (bX h k).st,aU (bX h k).q,.undef,bm (bX h k).ds],.undef] (.int .i64 (k+cW h)):=by
 unfold cW at h2
 refine Con.evH 22 [some 500000,some 500001,some 500002,none,some 500004] [500000,500001,500002,500004] rfl rfl bI dN Tryz.func42 rfl rfl rfl rfl [.tmp 4] rfl ?_
 conv=>whnf
 (iterate 50 (first|(refine ac (by solve|simp only[cR,bg,aU,bn,bm,dz,jL,dH,gp]|fail) ?_;(conv=>whnf))|(apply ac rfl;(conv=>whnf))|(focus (refine oQ (by solve|simp[AV.rowsN,List.length_map,bg,aU,bn,bm,dz,jL,dH,gp]|fail) rfl ?_;(conv=>whnf)))|(apply ag rfl;(conv=>whnf))|(refine aG (fun hf=> ?_);(conv=>whnf))|(refine mn 86 0 ?_;(conv=>whnf))|(refine jl (f:=86) (j:=0) (c86 _ _ (by omega) (by omega)) (by solve|simp[List.length_map,bg,aU,bn,bm,dz,jL,dH,gp]|fail) (by rfl) (by rfl) ?_;(conv=>whnf))|(refine mn 40 0 ?_;(conv=>whnf))|(refine jl (f:=40) (j:=0) (c40 _ _ (by omega) (by omega)) (by solve|simp[List.length_map,bg,aU,bn,bm,dz,jL,dH,gp]|fail) (by rfl) (by rfl) ?_;(conv=>whnf))|(refine mn 87 0 ?_;(conv=>whnf))|(refine jl (f:=87) (j:=0) (c87 _ _ (by omega) (by omega)) (by solve|simp[List.length_map,bg,aU,bn,bm,dz,jL,dH,gp]|fail) (by rfl) (by rfl) ?_;(conv=>whnf))));(refine aA ?_;((simp only[cW];congr 1;omega)))
def kN(h:Hst)(k:Int):Int:=jJ (dC lL 1 h.gr k) (fun l=>jJ (dC eM 1 h.st l) (fun l=>jJ (dC eM 1 h.q l) (fun l=>jJ (dC jM 4 h.ds l) id)))
theorem c47(h:Hst)(k:Int)(h1:0≤k)(h2:k+cW h≤100000000):Con Tryz.prog 47 [cS h,.int .i64 k] (aa [cS h,.int .i64 k]) (.int .i64 (kN h k)):=by
 unfold cW at h2
 have g0:=gO lL 1 h.gr k
 have g1:=gO eM 1 h.st (dC lL 1 h.gr k)
 have g2:=gO eM 1 h.q (dC eM 1 h.st (dC lL 1 h.gr k))
 have g3:=gO jM 4 h.ds (dC eM 1 h.q (dC eM 1 h.st (dC lL 1 h.gr k)))
 refine rn 30 Tryz.func47 [.tmp 4] (g:= ?_)
 conv=>whnf
 repeat' (first|(refine ah (c88 _ _ (by omega) (by omega)) ?_;conv=>whnf)|(refine ah (c45 _ _ (by omega) (by omega)) ?_;conv=>whnf)|(refine ah (c89 _ _ (by omega) (by omega)) ?_;conv=>whnf)|(focus (refine aA ?_;(first|(simp_all[kN,jJ];done)|(simp_all[kN,jJ];omega))))|refine aP ?_|(refine bN ?_ ?_<;>intro hb))
theorem tX(h:Hst)(k:Int)(h1:0≤k):kN (bX h k) k=k+cW h:=by
 simp only[kN,bX,jY,jJ,id]
 rw[if_neg (by omega),if_neg (by omega),if_neg (by omega),if_neg (by omega)]
 unfold cW
 omega
theorem vK(h:Hst)(k:Int):cW (bX h k)=cW h:=by simp[cW,bX,bg]
theorem vz{h:Hst}(hs:dv h):0≤cW h∧cW h≤12000000:=by
 unfold dv at hs
 unfold cW
 omega
end V1
