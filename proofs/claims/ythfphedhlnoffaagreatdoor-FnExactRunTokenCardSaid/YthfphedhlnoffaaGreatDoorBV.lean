/- Sizes, copies, comparisons and marks of the data, each with its contract. -/
import Derived.Test.YthfphedhlnoffaaGreatDoorProg
import Derived.KernelRfl
import Derived.Test.YthfphedhlnoffaaGreatDoorLK
import Derived.Test.YthfphedhlnoffaaGreatDoorLK
import Derived.Test.YthfphedhlnoffaaGreatDoorLK
import Derived.Test.YthfphedhlnoffaaGreatDoorLK
set_option linter.unusedVariables false
set_option linter.unusedSimpArgs false
set_option maxRecDepth 100000
open Go Go.Abs Go.Proofs
namespace V1
def T:TT:=[(2,TI.mk (UT.int IntKind.i64) 1 8 [AV.int IntKind.i64 0] false),
 (3,TI.mk (UT.int IntKind.i64) 1 8 [AV.int IntKind.i64 0] false),
 (4,TI.mk UT.bool 1 1 [AV.bool false] false),
 (5,TI.mk (UT.int IntKind.u8) 1 1 [AV.int IntKind.u8 0] false),
 (6,TI.mk (UT.int IntKind.u8) 1 1 [AV.int IntKind.u8 0] false),
 (7,TI.mk (UT.struct [(0,2),(1,3),(2,4),(3,6)]) 4 24 [AV.int IntKind.i64 0,AV.int IntKind.i64 0,AV.bool false,AV.int IntKind.u8 0] true),
 (8,TI.mk (UT.struct [(0,2),(1,3),(2,4),(3,6)]) 4 24 [AV.int IntKind.i64 0,AV.int IntKind.i64 0,AV.bool false,AV.int IntKind.u8 0] true),
 (9,TI.mk UT.str 1 16 [AV.str []] false),
 (10,TI.mk UT.str 1 16 [AV.str []] false),
 (11,TI.mk UT.str 1 16 [AV.str []] false),
 (12,TI.mk (UT.int IntKind.u64) 1 8 [AV.int IntKind.u64 0] false),
 (13,TI.mk (UT.struct [(0,9),(1,12)]) 2 24 [AV.str [],AV.int IntKind.u64 0] false),
 (14,TI.mk (UT.struct [(0,9),(1,12)]) 2 24 [AV.str [],AV.int IntKind.u64 0] false),
 (18,TI.mk (UT.struct [(0,17)]) 1 8 [AV.nilp] false),
 (19,TI.mk (UT.struct [(0,17)]) 1 8 [AV.nilp] false),
 (21,TI.mk (UT.int IntKind.i32) 1 4 [AV.int IntKind.i32 0] false),
 (22,TI.mk (UT.slice 84) 1 24 [AV.emp] false),
 (23,TI.mk (UT.slice 3) 1 24 [AV.emp] false),
 (24,TI.mk (UT.struct [(0,23),(1,23),(2,23),(3,3),(4,3),(5,9)]) 6 104 [AV.emp,AV.emp,AV.emp,AV.int IntKind.i64 0,AV.int IntKind.i64 0,AV.str []] true),
 (25,TI.mk (UT.struct [(0,23),(1,23),(2,23),(3,3),(4,3),(5,9)]) 6 104 [AV.emp,AV.emp,AV.emp,AV.int IntKind.i64 0,AV.int IntKind.i64 0,AV.str []] true),
 (26,TI.mk (UT.slice 4) 1 24 [AV.emp] false),
 (27,TI.mk (UT.slice 131) 1 24 [AV.emp] false),
 (28,TI.mk (UT.struct [(0,26),(1,23),(2,23),(3,3),(4,27)]) 5 104 [AV.emp,AV.emp,AV.emp,AV.int IntKind.i64 0,AV.emp] true),
 (29,TI.mk (UT.struct [(0,26),(1,23),(2,23),(3,3),(4,27)]) 5 104 [AV.emp,AV.emp,AV.emp,AV.int IntKind.i64 0,AV.emp] true),
 (30,TI.mk (UT.slice 101) 1 24 [AV.emp] false),
 (31,TI.mk (UT.struct [(0,22),(1,23),(2,25),(8,29),(13,30),(14,3),(15,3)]) 16 296 [AV.emp,AV.emp,AV.emp,AV.emp,AV.emp,AV.int IntKind.i64 0,AV.int IntKind.i64 0,AV.str [],AV.emp,AV.emp,AV.emp,AV.int IntKind.i64 0,AV.emp,AV.emp,AV.int IntKind.i64 0,AV.int IntKind.i64 0] false),
 (32,TI.mk (UT.struct [(0,22),(1,23),(2,25),(8,29),(13,30),(14,3),(15,3)]) 16 296 [AV.emp,AV.emp,AV.emp,AV.emp,AV.emp,AV.int IntKind.i64 0,AV.int IntKind.i64 0,AV.str [],AV.emp,AV.emp,AV.emp,AV.int IntKind.i64 0,AV.emp,AV.emp,AV.int IntKind.i64 0,AV.int IntKind.i64 0] false),
 (34,TI.mk (UT.slice 92) 1 24 [AV.emp] false),
 (35,TI.mk (UT.struct [(0,23),(1,23),(2,23),(3,3),(4,3),(5,9)]) 6 104 [AV.emp,AV.emp,AV.emp,AV.int IntKind.i64 0,AV.int IntKind.i64 0,AV.str []] true),
 (36,TI.mk (UT.slice 120) 1 24 [AV.emp] false),
 (37,TI.mk (UT.struct [(0,26),(1,23),(2,23),(3,3),(4,36)]) 5 104 [AV.emp,AV.emp,AV.emp,AV.int IntKind.i64 0,AV.emp] true),
 (38,TI.mk (UT.struct [(0,26),(1,23),(2,23),(3,3),(4,36)]) 5 104 [AV.emp,AV.emp,AV.emp,AV.int IntKind.i64 0,AV.emp] true),
 (39,TI.mk (UT.slice 99) 1 24 [AV.emp] false),
 (40,TI.mk (UT.struct [(0,34),(1,23),(2,35),(8,38),(13,39),(14,3),(15,3)]) 16 296 [AV.emp,AV.emp,AV.emp,AV.emp,AV.emp,AV.int IntKind.i64 0,AV.int IntKind.i64 0,AV.str [],AV.emp,AV.emp,AV.emp,AV.int IntKind.i64 0,AV.emp,AV.emp,AV.int IntKind.i64 0,AV.int IntKind.i64 0] false),
 (41,TI.mk (UT.struct [(0,34),(1,23),(2,35),(8,38),(13,39),(14,3),(15,3)]) 16 296 [AV.emp,AV.emp,AV.emp,AV.emp,AV.emp,AV.int IntKind.i64 0,AV.int IntKind.i64 0,AV.str [],AV.emp,AV.emp,AV.emp,AV.int IntKind.i64 0,AV.emp,AV.emp,AV.int IntKind.i64 0,AV.int IntKind.i64 0] false),
 (83,TI.mk (UT.struct [(0,9),(1,3),(2,3)]) 3 32 [AV.str [],AV.int IntKind.i64 0,AV.int IntKind.i64 0] true),
 (84,TI.mk (UT.struct [(0,9),(1,3),(2,3)]) 3 32 [AV.str [],AV.int IntKind.i64 0,AV.int IntKind.i64 0] true),
 (92,TI.mk (UT.struct [(0,9),(1,3),(2,3)]) 3 32 [AV.str [],AV.int IntKind.i64 0,AV.int IntKind.i64 0] true),
 (98,TI.mk (UT.struct [(0,3),(1,3),(2,3),(3,4)]) 4 32 [AV.int IntKind.i64 0,AV.int IntKind.i64 0,AV.int IntKind.i64 0,AV.bool false] true),
 (99,TI.mk (UT.struct [(0,3),(1,3),(2,3),(3,4)]) 4 32 [AV.int IntKind.i64 0,AV.int IntKind.i64 0,AV.int IntKind.i64 0,AV.bool false] true),
 (101,TI.mk (UT.struct [(0,3),(1,3),(2,3),(3,4)]) 4 32 [AV.int IntKind.i64 0,AV.int IntKind.i64 0,AV.int IntKind.i64 0,AV.bool false] true),
 (119,TI.mk (UT.struct [(0,3),(1,3),(2,3),(3,3)]) 4 32 [AV.int IntKind.i64 0,AV.int IntKind.i64 0,AV.int IntKind.i64 0,AV.int IntKind.i64 0] true),
 (120,TI.mk (UT.struct [(0,3),(1,3),(2,3),(3,3)]) 4 32 [AV.int IntKind.i64 0,AV.int IntKind.i64 0,AV.int IntKind.i64 0,AV.int IntKind.i64 0] true),
 (131,TI.mk (UT.struct [(0,3),(1,3),(2,3),(3,3)]) 4 32 [AV.int IntKind.i64 0,AV.int IntKind.i64 0,AV.int IntKind.i64 0,AV.int IntKind.i64 0] true),
 (139,TI.mk (UT.slice 5) 1 24 [AV.emp] false),
 (154,TI.mk (UT.array 3 3) 3 24 [AV.int IntKind.i64 0,AV.int IntKind.i64 0,AV.int IntKind.i64 0] false),
 (166,TI.mk (UT.slice 9) 1 24 [AV.emp] false),
 (168,TI.mk (UT.slice 166) 1 24 [AV.emp] false),
 (177,TI.mk (UT.slice 34) 1 24 [AV.emp] false),
 (181,TI.mk (UT.int IntKind.u32) 1 4 [AV.int IntKind.u32 0] false),
 (182,TI.mk (UT.int IntKind.u64) 1 8 [AV.int IntKind.u64 0] false),
 (183,TI.mk (UT.int IntKind.u64) 1 8 [AV.int IntKind.u64 0] false),
 (192,TI.mk (UT.struct [(0,191),(1,139)]) 2 32 [AV.nilp,AV.emp] true),
 (193,TI.mk (UT.struct [(0,191),(1,139)]) 2 32 [AV.nilp,AV.emp] true),
 (204,TI.mk (UT.slice 206) 1 24 [AV.emp] false),
 (205,TI.mk (UT.struct [(0,3),(1,3)]) 2 16 [AV.int IntKind.i64 0,AV.int IntKind.i64 0] true),
 (206,TI.mk (UT.struct [(0,3),(1,3)]) 2 16 [AV.int IntKind.i64 0,AV.int IntKind.i64 0] true),
 (221,TI.mk (UT.slice 227) 1 24 [AV.emp] false),
 (222,TI.mk (UT.slice 230) 1 24 [AV.emp] false),
 (223,TI.mk (UT.struct [(0,221),(1,222),(2,3)]) 3 56 [AV.emp,AV.emp,AV.int IntKind.i64 0] true),
 (224,TI.mk (UT.struct [(0,221),(1,222),(2,3)]) 3 56 [AV.emp,AV.emp,AV.int IntKind.i64 0] true),
 (225,TI.mk (UT.int IntKind.u16) 1 2 [AV.int IntKind.u16 0] false),
 (226,TI.mk (UT.struct [(0,225),(1,225),(2,225)]) 3 6 [AV.int IntKind.u16 0,AV.int IntKind.u16 0,AV.int IntKind.u16 0] true),
 (227,TI.mk (UT.struct [(0,225),(1,225),(2,225)]) 3 6 [AV.int IntKind.u16 0,AV.int IntKind.u16 0,AV.int IntKind.u16 0] true),
 (229,TI.mk (UT.struct [(0,181),(1,181),(2,181)]) 3 12 [AV.int IntKind.u32 0,AV.int IntKind.u32 0,AV.int IntKind.u32 0] true),
 (230,TI.mk (UT.struct [(0,181),(1,181),(2,181)]) 3 12 [AV.int IntKind.u32 0,AV.int IntKind.u32 0,AV.int IntKind.u32 0] true),
 (238,TI.mk (UT.slice 256) 1 24 [AV.emp] false),
 (240,TI.mk (UT.array 65 5) 65 65 [AV.int IntKind.u8 0,AV.int IntKind.u8 0,AV.int IntKind.u8 0,AV.int IntKind.u8 0,AV.int IntKind.u8 0,AV.int IntKind.u8 0,AV.int IntKind.u8 0,AV.int IntKind.u8 0,AV.int IntKind.u8 0,AV.int IntKind.u8 0,AV.int IntKind.u8 0,AV.int IntKind.u8 0,AV.int IntKind.u8 0,AV.int IntKind.u8 0,AV.int IntKind.u8 0,AV.int IntKind.u8 0,AV.int IntKind.u8 0,AV.int IntKind.u8 0,AV.int IntKind.u8 0,AV.int IntKind.u8 0,AV.int IntKind.u8 0,AV.int IntKind.u8 0,AV.int IntKind.u8 0,AV.int IntKind.u8 0,AV.int IntKind.u8 0,AV.int IntKind.u8 0,AV.int IntKind.u8 0,AV.int IntKind.u8 0,AV.int IntKind.u8 0,AV.int IntKind.u8 0,AV.int IntKind.u8 0,AV.int IntKind.u8 0,AV.int IntKind.u8 0,AV.int IntKind.u8 0,AV.int IntKind.u8 0,AV.int IntKind.u8 0,AV.int IntKind.u8 0,AV.int IntKind.u8 0,AV.int IntKind.u8 0,AV.int IntKind.u8 0,AV.int IntKind.u8 0,AV.int IntKind.u8 0,AV.int IntKind.u8 0,AV.int IntKind.u8 0,AV.int IntKind.u8 0,AV.int IntKind.u8 0,AV.int IntKind.u8 0,AV.int IntKind.u8 0,AV.int IntKind.u8 0,AV.int IntKind.u8 0,AV.int IntKind.u8 0,AV.int IntKind.u8 0,AV.int IntKind.u8 0,AV.int IntKind.u8 0,AV.int IntKind.u8 0,AV.int IntKind.u8 0,AV.int IntKind.u8 0,AV.int IntKind.u8 0,AV.int IntKind.u8 0,AV.int IntKind.u8 0,AV.int IntKind.u8 0,AV.int IntKind.u8 0,AV.int IntKind.u8 0,AV.int IntKind.u8 0,AV.int IntKind.u8 0] false),
 (244,TI.mk (UT.struct [(0,5),(1,5)]) 2 2 [AV.int IntKind.u8 0,AV.int IntKind.u8 0] true),
 (245,TI.mk (UT.struct [(0,5),(1,5)]) 2 2 [AV.int IntKind.u8 0,AV.int IntKind.u8 0] true),
 (255,TI.mk (UT.struct [(0,181),(1,181),(2,254)]) 5 20 [AV.int IntKind.u32 0,AV.int IntKind.u32 0,AV.int IntKind.i32 0,AV.int IntKind.i32 0,AV.int IntKind.i32 0] true),
 (256,TI.mk (UT.struct [(0,181),(1,181),(2,254)]) 5 20 [AV.int IntKind.u32 0,AV.int IntKind.u32 0,AV.int IntKind.i32 0,AV.int IntKind.i32 0,AV.int IntKind.i32 0] true),
 (259,TI.mk (UT.struct [(0,17),(1,17),(2,17),(3,9)]) 4 40 [AV.nilp,AV.nilp,AV.nilp,AV.str []] false),
 (260,TI.mk (UT.struct [(0,17),(1,17),(2,17),(3,9)]) 4 40 [AV.nilp,AV.nilp,AV.nilp,AV.str []] false),
 (262,TI.mk (UT.struct [(0,261)]) 0 0 [] false),
 (263,TI.mk (UT.struct [(0,261)]) 0 0 [] false),
 (264,TI.mk (UT.int IntKind.u8) 1 1 [AV.int IntKind.u8 0] false),
 (265,TI.mk (UT.int IntKind.u8) 1 1 [AV.int IntKind.u8 0] false),
 (267,TI.mk (UT.int IntKind.i32) 1 4 [AV.int IntKind.i32 0] false),
 (268,TI.mk (UT.int IntKind.i32) 1 4 [AV.int IntKind.i32 0] false),
 (269,TI.mk (UT.struct [(0,12),(1,12),(2,181),(3,264),(4,5),(5,5),(6,265),(7,266),(8,209),(9,267),(10,268)]) 11 48 [AV.int IntKind.u64 0,AV.int IntKind.u64 0,AV.int IntKind.u32 0,AV.int IntKind.u8 0,AV.int IntKind.u8 0,AV.int IntKind.u8 0,AV.int IntKind.u8 0,AV.nilfn,AV.nilp,AV.int IntKind.i32 0,AV.int IntKind.i32 0] false),
 (270,TI.mk (UT.struct [(0,12),(1,12),(2,181),(3,264),(4,5),(5,5),(6,265),(7,266),(8,209),(9,267),(10,268)]) 11 48 [AV.int IntKind.u64 0,AV.int IntKind.u64 0,AV.int IntKind.u32 0,AV.int IntKind.u8 0,AV.int IntKind.u8 0,AV.int IntKind.u8 0,AV.int IntKind.u8 0,AV.nilfn,AV.nilp,AV.int IntKind.i32 0,AV.int IntKind.i32 0] false)]
theorem bH:T.ok Tryz.prog:=by repeat' first|exact TT.ok_nil|refine TT.ok_cons (by kernel_rfl) ?_
theorem dI:Tryz.prog.follows .mixedOrders=true:=by kernel_rfl
theorem rn(n:Nat){f:FuncId}{fn:Func}{c:Code}{xs:List AV}{res:AV}(hf:Tryz.prog.funcs[f]? =some fn)(rs:List ResultVar)(hn:(fn.name== "runtime.NumGoroutine")=false:=by rfl)(hb:fn.body=some c:=by rfl)(hok:xs.all cN=true:=by rfl)(hnn:xs.length+(fn.ntmps-xs.length)=n:=by rfl)(hrs:fn.results.toList=rs:=by rfl)
  (g:iM xs fun ts ms=>Go.Abs.ev Tryz.prog T ⟨n,[],[]⟩ c (uU T rs res) ts ms):Con Tryz.prog f xs (aa xs) res:=Con.ev n bH dI hf hn hb hok hnn rs hrs g
theorem rp(n:Nat){f:FuncId}{fn:Func}{c:Code}{xs os:List AV}{res:AV}(hf:Tryz.prog.funcs[f]? =some fn)(rs:List ResultVar)(han:eq e0 xs=[500000]:=by rfl)(hn:(fn.name== "runtime.NumGoroutine")=false:=by rfl)(hb:fn.body=some c:=by rfl)(hok:xs.all fe=true:=by rfl)(hnn:xs.length+(fn.ntmps-xs.length)=n:=by rfl)(hrs:fn.results.toList=rs:=by rfl)
  (g:pP xs fun ts ms=>okK ([500000].all fun b=> !fN (cd ms b)) (Go.Abs.ev Tryz.prog T ⟨n,[500000],[]⟩ c (wX T rs res e0 xs os) ts ms)):Con Tryz.prog f xs os res:=Con.evP n [500000] han bH dI hf hn hb hok hnn rs hrs g
theorem c85(k:Int)(h1:0≤k)(h2:k≤2000000000):Con Tryz.prog 85 [.int .i64 k] (aa [.int .i64 k]) (.str (Hi k)):=by
 by_cases h0:k=0
 ·subst h0
  refine rn 20 Tryz.func85 [.tmp 2] (g:= ?_)
  conv=>whnf
  repeat' (first|(focus (refine aA ?_;(exact congrArg AV.str (by decide+kernel))))|refine aO ?_)
 ·refine rn 20 Tryz.func85 [.tmp 2] (g:= ?_)
  conv=>whnf
  (refine cm ?_ ?_<;>intro hb<;>(try simp only[eH]at hb)<;>conv=>whnf);(apply ac rfl;conv=>whnf)
  iterate 2 (rotate_left)
  ·omega
  ·refine LoopG.auto (α:=Nat × List UInt8) bH dI [0,3] (fun a=>[(0,.int .i64 a.1),(3,.str a.2)]) (fun _=>[]) (fun a=>DecInv k.toNat a.1 a.2) (fun a=>a.1) ?_ ?_
   ·conv=>whnf
    (apply ChkS.mk (by kernel_rfl);conv=>whnf)
    rotate_left
    have hl:=yG k.toNat (by omega)
    exact aE (k.toNat,[]) ⟨Nat.le_refl _,by simp;omega,.inr ⟨by omega,by simp⟩⟩ (by simp only[Int.toNat_of_nonneg h1]) rfl
   ·rintro ⟨u,s⟩ hI _ _
    simp only at hI⊢
    have hu:=hI.1
    have hs:=hI.2.1
    by_cases hz:u=0
    ·subst hz
     obtain⟨_,rfl⟩|⟨hq,_⟩:=hI.2.2
     ·conv=>whnf
      iterate 3 ((first|apply ac rfl|refine ac (by(((simp[gt];omega)))) ?_|apply aJ rfl);conv=>whnf)
      rotate_left
      exact aA rfl
     ·omega
    ·have hp:decide ((u:Int)>0)=true:=by simp;omega
     conv=>whnf
     iterate 9 ((first|refine ac (by solve|simp only[decide_eq_true_eq]|fail) ?_|apply ac rfl|refine ac (by(((simp[gt];omega)))) ?_|refine mj rfl ?_|refine ChkS.mk (by kernel_rfl) ?_|refine bL (by assumption) ?_);conv=>whnf)
     rotate_left
     refine aE (u/10,_) ⟨hI.next (by omega) (by omega),by simp only;omega⟩ ?_ rfl
     rw[IR u (by omega),Hp,Go.Abs.byteOf (by omega)]
theorem c55(xs:List Bool)(left:Int):Con Tryz.prog 55 [pE xs,.int .i64 left] (aa [pE xs,.int .i64 left]) (.int .i64 (mz xs.length left)):=by
 refine rn 12 Tryz.func55 [.tmp 4] (g:= ?_)
 conv=>whnf
 repeat' (first|(focus (refine aA ?_;(first|(simp_all[mz];done)|(simp_all[mz];omega))))|refine aO ?_|(refine bS ?_ ?_<;>intro hb))
instance:CC 55:=⟨_,@c55⟩
theorem c68(rs:List Bool)(h:rs.length≤1048576):Con Tryz.prog 68 [pE rs] (aa [pE rs]) (.own 0 zB (rs.map dT)):=by
 refine rn 22 Tryz.func68 [.tmp 2] (g:= ?_)
 conv=>whnf
 refine aO ?_
 rotate_left
 refine LoopG.rounds (α:=Nat) bH dI [0,3,4] [(7,7)] (fun i=>[(0,pE rs),(3,.ref 7 0 rs.length),(4,.int .i64 i)]) (fun i=>[(7,.live ⟨true,0,zB,pF dT zB rs i⟩)]) (fun i=>i≤rs.length) (fun i=>rs.length-i) ?_ ?_
 ·conv=>whnf
  exact aE 0 (by simp) (by simp[pE]) (by simp[jd,List.length_map])
 ·intro i h1 _ _
  conv=>whnf
  (refine bS ?_ ?_<;>intro hb)
  refine bN ?_
  (refine aH (by((try simp only[Int.toNat_natCast]);exact aI dT _ _ _ default (by first|omega|(simp;omega)))) ?_;conv=>whnf)
  refine bN ?_
  refine im ?_
  rotate_left
  refine bN ?_
  refine im ?_
  rotate_left
  ·have hi:i<rs.length:=hb
   rotate_left
   refine aE (i+1) ⟨by omega,by omega⟩ (by rw[ai (by omega) (by omega)];rfl) (congrArg (fun r=>[(7,MB.live ⟨true,0,zB,r⟩)]) ?_)
   simp only[Nat.zero_add,Int.toNat_natCast]
   exact jj default hi rfl rfl
  ·obtain rfl:i=rs.length:=by omega
   (refine aA ?_;(simp[am,lr,List.take_of_length_le,List.length_map]))
instance:CC 68:=⟨_,@c68⟩
theorem c82(xs ys:List Bool):Con Tryz.prog 82 [pE xs,pE ys] (aa [pE xs,pE ys]) (.bool (decide (xs=ys))):=by
 refine Con.evF 26 bH dI Tryz.func82 rfl rfl rfl rfl [.tmp 4] rfl fun⟨hx,_⟩=> ?_
 have hx:=facts_len hx
 conv=>whnf
 (refine bS ?_ ?_<;>intro hb)
 refine aO ?_
 iterate 2 (rotate_left)
 ·refine aA ?_
  have:xs≠ys:=fun e=>hb (by rw[e])
  simp[this]
 ·refine LoopG.rounds (α:=Nat) bH dI [0,1,5] [] (fun i=>[(0,pE xs),(1,pE ys),(5,.int .i64 i)]) (fun _=>[]) (fun i=>i≤xs.length∧xs.take i=ys.take i) (fun i=>xs.length-i) ?_ ?_
  ·conv=>whnf
   exact aE 0 ⟨by simp,by simp⟩ rfl rfl
  ·rintro i ⟨h1,h2⟩- -
   conv=>whnf
   (refine bS ?_ ?_<;>intro hb)
   refine bN ?_
   (refine aH (by((try simp only[Int.toNat_natCast]);exact aI dT _ _ _ default (by first|omega|(simp;omega)))) ?_;conv=>whnf)
   refine bN ?_
   (refine aH (by((try simp only[Int.toNat_natCast]);exact aI dT _ _ _ default (by first|omega|(simp;omega)))) ?_;conv=>whnf);iterate 3 (first|refine bN ?_|(refine bS ?_ ?_<;>intro hb))
   iterate 2 (rotate_left)
   refine bN ?_
   rotate_left
   ·refine aA ?_
    have:xs≠ys:=fun e=>hb (by rw[e])
    simp[this]
   ·exact aE (i+1) ⟨⟨by omega,fX default h2 (by omega) (by omega) hb⟩,by omega⟩ (by rw[ai (by omega) (by omega)];rfl) rfl
   ·refine aA ?_
    simp[gK h2 (by omega) (by omega)]
instance:CC 82:=⟨_,@c82⟩
theorem Jz(xs:List Bool)(i:Nat)(z:List AV)(y:Bool)(h:i<xs.length):bl (xs.map dT) i 0 z [.bool y]=(xs.set i y).map dT:=by
 simp[bl,setCells,dn,List.getD_eq_getElem?_getD,h,dT,List.map_set]
theorem c86(xs:List Bool)(k:Int)(h1:0≤k)(h2:k+1*xs.length≤1000000000):Con Tryz.prog 86 [.own 0 zB (xs.map dT),.int .i64 k] [.own 0 zB ((hH lX 1 xs.length k).map dT),.undef] (.int .i64 (k+1*xs.length)):=by
 refine Con.evM 21 [true,false] [some 500000,none] [500000] rfl rfl rfl bH dI Tryz.func86 rfl rfl rfl rfl [.tmp 4] rfl ?_
 conv=>whnf
 rotate_left
 refine LoopG.rounds (α:=Nat) bH dI [0,1,5] [(500000,500000)] (fun i=>[(0,.ref 500000 0 xs.length),(1,.int .i64 (k+1*i)),(5,.int .i64 i)]) (fun i=>[(500000,.live ⟨true,0,zB,(nA lX 1 xs k i).map dT⟩)]) (fun i=>i≤xs.length) (fun i=>xs.length-i) ?_ ?_
 ·conv=>whnf
  exact aE 0 (by simp) (by simp) (by rw[ju])
 ·intro i hi _ _
  have hlen:=kA lX 1 (k:=k) hi
  have e1:i<xs.length→IntKind.i64.wrap (k+1*(i:Int)+1)=k+1*((i+1:Nat):Int):=fun _=>(ai (by omega) (by omega)).trans (by omega)
  conv=>whnf
  (refine bS ?_ ?_<;>intro hb)
  refine aO ?_
  rotate_left
  refine aO ?_
  rotate_left
  ·have hi2:i<xs.length:=by assumption
   refine aE (i+1) ⟨by omega,by omega⟩ ?_ (congrArg (fun r=>[(500000,MB.live ⟨true,0,zB,r⟩)]) ?_)
   ·rw[e1 hi2,ai (n:=(i:Int)+1) (by omega) (by omega)]
    rfl
   ·simp only[Nat.zero_add,Int.toNat_natCast]
    exact(Jz _ i _ (lX (k+1*i)) (by omega)).trans (by rw[←jq lX 1 hi2])
  ·obtain rfl:i=xs.length:=by omega
   refine pz (by simp[AV.rowsN,hlen]) (by simp[kB]) ?_
   exact aA rfl
theorem c88(xs:List Bool)(k:Int)(h1:0≤k)(h2:k+1*xs.length≤1000000000):Con Tryz.prog 88 [pE xs,.int .i64 k] (aa [pE xs,.int .i64 k]) (.int .i64 (dG lX 1 xs k)):=by
 refine rn 23 Tryz.func88 [.tmp 4] (g:= ?_)
 conv=>whnf
 rotate_left
 refine LoopG.rounds (α:=Nat) bH dI [0,1,5] [] (fun i=>[(0,pE xs),(1,.int .i64 (k+1*i)),(5,.int .i64 i)]) (fun _=>[]) (fun i=>i≤xs.length∧xs.take i=hH lX 1 i k) (fun i=>xs.length-i) ?_ ?_
 ·conv=>whnf
  exact aE 0 ⟨by simp,by simp[hH]⟩ (by simp[pE]) rfl
 ·rintro i ⟨hi,ht⟩- -
  have e1:i<xs.length→IntKind.i64.wrap (k+1*(i:Int)+1)=k+1*((i+1:Nat):Int):=fun _=>(ai (by omega) (by omega)).trans (by omega)
  conv=>whnf
  (refine bS ?_ ?_<;>intro hb)
  refine bN ?_
  (refine aH (by((try simp only[Int.toNat_natCast]);exact aI dT _ _ _ default (by first|omega|(simp;omega)))) ?_;conv=>whnf);iterate 3 (first|refine bN ?_|(refine bS ?_ ?_<;>intro hb))
  iterate 2 (rotate_left)
  refine bN ?_
  rotate_left
  ·have hi2:i<xs.length:=by assumption
   exact aA (by rw[dB lX 1 default hi2 hb])
  ·have hi2:i<xs.length:=by assumption
   exact aE (i+1) ⟨⟨by omega,hC lX 1 default hi2 ht hb⟩,by omega⟩ (by rw[e1 hi2,ai (n:=(i:Int)+1) (by omega) (by omega)];rfl) rfl
  ·obtain rfl:i=xs.length:=by omega
   exact aA (by rw[ii lX 1 (by omega) hi ht])
instance:CC 88:=⟨_,@c88⟩
theorem c18(xs:List Int)(left:Int):Con Tryz.prog 18 [dL xs,.int .i64 left] (aa [dL xs,.int .i64 left]) (.int .i64 (mz xs.length left)):=by
 refine rn 12 Tryz.func18 [.tmp 4] (g:= ?_)
 conv=>whnf
 repeat' (first|(focus (refine aA ?_;(first|(simp_all[mz];done)|(simp_all[mz];omega))))|refine aO ?_|(refine bS ?_ ?_<;>intro hb))
instance:CC 18:=⟨_,@c18⟩
theorem c27(rs:List Int)(h:rs.length≤1048576):Con Tryz.prog 27 [dL rs] (aa [dL rs]) (.own 0 zI (rs.map aj)):=by
 refine rn 22 Tryz.func27 [.tmp 2] (g:= ?_)
 conv=>whnf
 refine aO ?_
 rotate_left
 refine LoopG.rounds (α:=Nat) bH dI [0,3,4] [(7,7)] (fun i=>[(0,dL rs),(3,.ref 7 0 rs.length),(4,.int .i64 i)]) (fun i=>[(7,.live ⟨true,0,zI,pF aj zI rs i⟩)]) (fun i=>i≤rs.length) (fun i=>rs.length-i) ?_ ?_
 ·conv=>whnf
  exact aE 0 (by simp) (by simp[dL]) (by simp[jd,List.length_map])
 ·intro i h1 _ _
  conv=>whnf
  (refine bS ?_ ?_<;>intro hb)
  refine bN ?_
  (refine aH (by((try simp only[Int.toNat_natCast]);exact aI aj _ _ _ default (by first|omega|(simp;omega)))) ?_;conv=>whnf)
  refine bN ?_
  refine im ?_
  rotate_left
  refine bN ?_
  refine im ?_
  rotate_left
  ·have hi:i<rs.length:=hb
   rotate_left
   refine aE (i+1) ⟨by omega,by omega⟩ (by rw[ai (by omega) (by omega)];rfl) (congrArg (fun r=>[(7,MB.live ⟨true,0,zI,r⟩)]) ?_)
   simp only[Nat.zero_add,Int.toNat_natCast]
   exact jj default hi rfl rfl
  ·obtain rfl:i=rs.length:=by omega
   (refine aA ?_;(simp[am,lr,List.take_of_length_le,List.length_map]))
instance:CC 27:=⟨_,@c27⟩
theorem c35(xs ys:List Int):Con Tryz.prog 35 [dL xs,dL ys] (aa [dL xs,dL ys]) (.bool (decide (xs=ys))):=by
 refine Con.evF 26 bH dI Tryz.func35 rfl rfl rfl rfl [.tmp 4] rfl fun⟨hx,_⟩=> ?_
 have hx:=facts_len hx
 conv=>whnf
 (refine bS ?_ ?_<;>intro hb)
 refine aO ?_
 iterate 2 (rotate_left)
 ·refine aA ?_
  have:xs≠ys:=fun e=>hb (by rw[e])
  simp[this]
 ·refine LoopG.rounds (α:=Nat) bH dI [0,1,5] [] (fun i=>[(0,dL xs),(1,dL ys),(5,.int .i64 i)]) (fun _=>[]) (fun i=>i≤xs.length∧xs.take i=ys.take i) (fun i=>xs.length-i) ?_ ?_
  ·conv=>whnf
   exact aE 0 ⟨by simp,by simp⟩ rfl rfl
  ·rintro i ⟨h1,h2⟩- -
   conv=>whnf
   (refine bS ?_ ?_<;>intro hb)
   refine bN ?_
   (refine aH (by((try simp only[Int.toNat_natCast]);exact aI aj _ _ _ default (by first|omega|(simp;omega)))) ?_;conv=>whnf)
   refine bN ?_
   (refine aH (by((try simp only[Int.toNat_natCast]);exact aI aj _ _ _ default (by first|omega|(simp;omega)))) ?_;conv=>whnf);iterate 3 (first|refine bN ?_|(refine bS ?_ ?_<;>intro hb))
   iterate 2 (rotate_left)
   refine bN ?_
   rotate_left
   ·refine aA ?_
    have:xs≠ys:=fun e=>hb (by rw[e])
    simp[this]
   ·exact aE (i+1) ⟨⟨by omega,fX default h2 (by omega) (by omega) hb⟩,by omega⟩ (by rw[ai (by omega) (by omega)];rfl) rfl
   ·refine aA ?_
    simp[gK h2 (by omega) (by omega)]
instance:CC 35:=⟨_,@c35⟩
theorem Kb(xs:List Int)(i:Nat)(z:List AV)(y:Int)(h:i<xs.length):bl (xs.map aj) i 0 z [.int .i64 y]=(xs.set i y).map aj:=by
 simp[bl,setCells,dn,List.getD_eq_getElem?_getD,h,aj,List.map_set]
theorem c40(xs:List Int)(k:Int)(h1:0≤k)(h2:k+1*xs.length≤1000000000):Con Tryz.prog 40 [.own 0 zI (xs.map aj),.int .i64 k] [.own 0 zI ((hH eY 1 xs.length k).map aj),.undef] (.int .i64 (k+1*xs.length)):=by
 refine Con.evM 19 [true,false] [some 500000,none] [500000] rfl rfl rfl bH dI Tryz.func40 rfl rfl rfl rfl [.tmp 4] rfl ?_
 conv=>whnf
 rotate_left
 refine LoopG.rounds (α:=Nat) bH dI [0,1,5] [(500000,500000)] (fun i=>[(0,.ref 500000 0 xs.length),(1,.int .i64 (k+1*i)),(5,.int .i64 i)]) (fun i=>[(500000,.live ⟨true,0,zI,(nA eY 1 xs k i).map aj⟩)]) (fun i=>i≤xs.length) (fun i=>xs.length-i) ?_ ?_
 ·conv=>whnf
  exact aE 0 (by simp) (by simp) (by rw[ju])
 ·intro i hi _ _
  have hlen:=kA eY 1 (k:=k) hi
  have e1:i<xs.length→IntKind.i64.wrap (k+1*(i:Int)+1)=k+1*((i+1:Nat):Int):=fun _=>(ai (by omega) (by omega)).trans (by omega)
  conv=>whnf
  (refine bS ?_ ?_<;>intro hb)
  refine aO ?_
  rotate_left
  refine aO ?_
  rotate_left
  ·have hi2:i<xs.length:=by assumption
   refine aE (i+1) ⟨by omega,by omega⟩ ?_ (congrArg (fun r=>[(500000,MB.live ⟨true,0,zI,r⟩)]) ?_)
   ·rw[e1 hi2,ai (n:=(i:Int)+1) (by omega) (by omega)]
    rfl
   ·simp only[Nat.zero_add,Int.toNat_natCast]
    exact(Kb _ i _ (eY (k+1*i)) (by omega)).trans (by rw[←jq eY 1 hi2])
  ·obtain rfl:i=xs.length:=by omega
   refine pz (by simp[AV.rowsN,hlen]) (by simp[kB]) ?_
   exact aA rfl
theorem c45(xs:List Int)(k:Int)(h1:0≤k)(h2:k+1*xs.length≤1000000000):Con Tryz.prog 45 [dL xs,.int .i64 k] (aa [dL xs,.int .i64 k]) (.int .i64 (dG eY 1 xs k)):=by
 refine rn 21 Tryz.func45 [.tmp 4] (g:= ?_)
 conv=>whnf
 rotate_left
 refine LoopG.rounds (α:=Nat) bH dI [0,1,5] [] (fun i=>[(0,dL xs),(1,.int .i64 (k+1*i)),(5,.int .i64 i)]) (fun _=>[]) (fun i=>i≤xs.length∧xs.take i=hH eY 1 i k) (fun i=>xs.length-i) ?_ ?_
 ·conv=>whnf
  exact aE 0 ⟨by simp,by simp[hH]⟩ (by simp[dL]) rfl
 ·rintro i ⟨hi,ht⟩- -
  have e1:i<xs.length→IntKind.i64.wrap (k+1*(i:Int)+1)=k+1*((i+1:Nat):Int):=fun _=>(ai (by omega) (by omega)).trans (by omega)
  conv=>whnf
  (refine bS ?_ ?_<;>intro hb)
  refine bN ?_
  (refine aH (by((try simp only[Int.toNat_natCast]);exact aI aj _ _ _ default (by first|omega|(simp;omega)))) ?_;conv=>whnf);(refine bS ?_ ?_<;>intro hb)
  refine bN ?_
  iterate 2 (rotate_left)
  refine bN ?_
  rotate_left
  ·have hi2:i<xs.length:=by assumption
   exact aA (by rw[dB eY 1 default hi2 hb])
  ·have hi2:i<xs.length:=by assumption
   exact aE (i+1) ⟨⟨by omega,hC eY 1 default hi2 ht hb⟩,by omega⟩ (by rw[e1 hi2,ai (n:=(i:Int)+1) (by omega) (by omega)];rfl) rfl
  ·obtain rfl:i=xs.length:=by omega
   exact aA (by rw[ii eY 1 (by omega) hi ht])
instance:CC 45:=⟨_,@c45⟩
theorem c56(xs:List Deal)(left:Int):Con Tryz.prog 56 [lC xs,.int .i64 left] (aa [lC xs,.int .i64 left]) (.int .i64 (mz xs.length left)):=by
 refine rn 12 Tryz.func56 [.tmp 4] (g:= ?_)
 conv=>whnf
 repeat' (first|(focus (refine aA ?_;(first|(simp_all[mz];done)|(simp_all[mz];omega))))|refine aO ?_|(refine bS ?_ ?_<;>intro hb))
instance:CC 56:=⟨_,@c56⟩
theorem c109(x:Deal):Con Tryz.prog 109 [jn x] (aa [jn x]) (jn x):=
 rn 17 Tryz.func109 [.cell 2 120] (g:=go)
instance:CC 109:=⟨_,@c109⟩
theorem c120(a b:Deal):Con Tryz.prog 120 [jn a,jn b] (aa [jn a,jn b]) (.bool (decide (a=b))):=by
 refine rn 25 Tryz.func120 [.tmp 4] (g:= ?_)
 conv=>whnf
 repeat' (first|(focus (refine aA ?_;((cases a;cases b;simp_all))))|refine aO ?_|(refine bS ?_ ?_<;>intro hb))
instance:CC 120:=⟨_,@c120⟩
theorem c69(rs:List Deal)(h:rs.length≤1048576):Con Tryz.prog 69 [lC rs] (aa [lC rs]) (.own 0 zD (rs.map bc)):=by
 refine rn 23 Tryz.func69 [.tmp 2] (g:= ?_)
 conv=>whnf
 refine aO ?_
 rotate_left
 refine LoopG.rounds (α:=Nat) bH dI [0,3,4] [(7,7)] (fun i=>[(0,lC rs),(3,.ref 7 0 rs.length),(4,.int .i64 i)]) (fun i=>[(7,.live ⟨true,0,zD,pF bc zD rs i⟩)]) (fun i=>i≤rs.length) (fun i=>rs.length-i) ?_ ?_
 ·conv=>whnf
  exact aE 0 (by simp) (by simp[lC]) (by simp[jd,List.length_map])
 ·intro i h1 _ _
  conv=>whnf
  (refine bS ?_ ?_<;>intro hb)
  refine bN ?_
  (refine aH (by((try simp only[Int.toNat_natCast]);exact aI bc _ _ _ default (by first|omega|(simp;omega)))) ?_;conv=>whnf)
  refine bN ?_
  rotate_left
  refine bN ?_
  refine im ?_
  rotate_left
  ·have hi:i<rs.length:=hb
   refine aO ?_
   rotate_left
   refine aE (i+1) ⟨by omega,by omega⟩ (by rw[ai (by omega) (by omega)];rfl) (congrArg (fun r=>[(7,MB.live ⟨true,0,zD,r⟩)]) ?_)
   simp only[Nat.zero_add,Int.toNat_natCast]
   exact jj default hi rfl rfl
  ·obtain rfl:i=rs.length:=by omega
   (refine aA ?_;(simp[am,lr,List.take_of_length_le,List.length_map]))
instance:CC 69:=⟨_,@c69⟩
theorem c83(xs ys:List Deal):Con Tryz.prog 83 [lC xs,lC ys] (aa [lC xs,lC ys]) (.bool (decide (xs=ys))):=by
 refine Con.evF 27 bH dI Tryz.func83 rfl rfl rfl rfl [.tmp 4] rfl fun⟨hx,_⟩=> ?_
 have hx:=facts_len hx
 conv=>whnf
 (refine bS ?_ ?_<;>intro hb)
 refine aO ?_
 iterate 2 (rotate_left)
 ·refine aA ?_
  have:xs≠ys:=fun e=>hb (by rw[e])
  simp[this]
 ·refine LoopG.rounds (α:=Nat) bH dI [0,1,5] [] (fun i=>[(0,lC xs),(1,lC ys),(5,.int .i64 i)]) (fun _=>[]) (fun i=>i≤xs.length∧xs.take i=ys.take i) (fun i=>xs.length-i) ?_ ?_
  ·conv=>whnf
   exact aE 0 ⟨by simp,by simp⟩ rfl rfl
  ·rintro i ⟨h1,h2⟩- -
   conv=>whnf
   (refine bS ?_ ?_<;>intro hb)
   refine bN ?_
   (refine aH (by((try simp only[Int.toNat_natCast]);exact aI bc _ _ _ default (by first|omega|(simp;omega)))) ?_;conv=>whnf)
   refine bN ?_
   (refine aH (by((try simp only[Int.toNat_natCast]);exact aI bc _ _ _ default (by first|omega|(simp;omega)))) ?_;conv=>whnf);iterate 3 (first|refine bN ?_|(refine bS ?_ ?_<;>intro hb))
   iterate 2 (rotate_left)
   refine bN ?_
   rotate_left
   ·refine aA ?_
    have:xs≠ys:=fun e=>hb (by rw[e])
    simp[this]
   ·exact aE (i+1) ⟨⟨by omega,fX default h2 (by omega) (by omega) hb⟩,by omega⟩ (by rw[ai (by omega) (by omega)];rfl) rfl
   ·refine aA ?_
    simp[gK h2 (by omega) (by omega)]
instance:CC 83:=⟨_,@c83⟩
theorem J7(xs:List Deal)(i:Nat)(z:List AV)(y:Deal)(h:i<xs.length):bl (bl (bl (bl (xs.map bc) i 0 z [.int .i64 y.c]) i 1 z [.int .i64 y.a]) i 2 z [.int .i64 y.b]) i 3 z [.int .i64 y.r]=(xs.set i y).map bc:=by
 simp[bl,setCells,dn,List.getD_eq_getElem?_getD,h,bc,List.map_set]
theorem c87(xs:List Deal)(k:Int)(h1:0≤k)(h2:k+4*xs.length≤1000000000):Con Tryz.prog 87 [.own 0 zD (xs.map bc),.int .i64 k] [.own 0 zD ((hH jZ 4 xs.length k).map bc),.undef] (.int .i64 (k+4*xs.length)):=by
 refine Con.evM 41 [true,false] [some 500000,none] [500000] rfl rfl rfl bH dI Tryz.func87 rfl rfl rfl rfl [.tmp 4] rfl ?_
 conv=>whnf
 rotate_left
 refine LoopG.rounds (α:=Nat) bH dI [0,1,5] [(500000,500000)] (fun i=>[(0,.ref 500000 0 xs.length),(1,.int .i64 (k+4*i)),(5,.int .i64 i)]) (fun i=>[(500000,.live ⟨true,0,zD,(nA jZ 4 xs k i).map bc⟩)]) (fun i=>i≤xs.length) (fun i=>xs.length-i) ?_ ?_
 ·conv=>whnf
  exact aE 0 (by simp) (by simp) (by rw[ju])
 ·intro i hi _ _
  have hlen:=kA jZ 4 (k:=k) hi
  have e1:i<xs.length→IntKind.i64.wrap (k+4*(i:Int)+1)=k+4*(i:Int)+1:=fun _=>(ai (by omega) (by omega)).trans (by omega)
  have e2:i<xs.length→IntKind.i64.wrap (k+4*(i:Int)+1+1)=k+4*(i:Int)+2:=fun _=>(ai (by omega) (by omega)).trans (by omega)
  have e3:i<xs.length→IntKind.i64.wrap (k+4*(i:Int)+2+1)=k+4*(i:Int)+3:=fun _=>(ai (by omega) (by omega)).trans (by omega)
  have e4:i<xs.length→IntKind.i64.wrap (k+4*(i:Int)+3+1)=k+4*((i+1:Nat):Int):=fun _=>(ai (by omega) (by omega)).trans (by omega)
  conv=>whnf
  (refine bS ?_ ?_<;>intro hb)
  refine aO ?_
  rotate_left
  refine aO ?_
  rotate_left
  ·have hi2:i<xs.length:=by assumption
   refine aE (i+1) ⟨by omega,by omega⟩ ?_ (congrArg (fun r=>[(500000,MB.live ⟨true,0,zD,r⟩)]) ?_)
   ·rw[e1 hi2,e2 hi2,e3 hi2,e4 hi2,ai (n:=(i:Int)+1) (by omega) (by omega)]
    rfl
   ·rw[e1 hi2,e2 hi2,e3 hi2]
    simp only[Nat.zero_add,Int.toNat_natCast]
    exact(J7 _ i _ (jZ (k+4*i)) (by omega)).trans (by rw[←jq jZ 4 hi2])
  ·obtain rfl:i=xs.length:=by omega
   refine pz (by simp[AV.rowsN,hlen]) (by simp[kB]) ?_
   exact aA rfl
theorem c89(xs:List Deal)(k:Int)(h1:0≤k)(h2:k+4*xs.length≤1000000000):Con Tryz.prog 89 [lC xs,.int .i64 k] (aa [lC xs,.int .i64 k]) (.int .i64 (dG jZ 4 xs k)):=by
 refine rn 49 Tryz.func89 [.tmp 4] (g:= ?_)
 conv=>whnf
 rotate_left
 refine LoopG.rounds (α:=Nat) bH dI [0,1,5] [] (fun i=>[(0,lC xs),(1,.int .i64 (k+4*i)),(5,.int .i64 i)]) (fun _=>[]) (fun i=>i≤xs.length∧xs.take i=hH jZ 4 i k) (fun i=>xs.length-i) ?_ ?_
 ·conv=>whnf
  exact aE 0 ⟨by simp,by simp[hH]⟩ (by simp[lC]) rfl
 ·rintro i ⟨hi,ht⟩- -
  have e1:i<xs.length→IntKind.i64.wrap (k+4*(i:Int)+1)=k+4*(i:Int)+1:=fun _=>(ai (by omega) (by omega)).trans (by omega)
  have e2:i<xs.length→IntKind.i64.wrap (k+4*(i:Int)+1+1)=k+4*(i:Int)+2:=fun _=>(ai (by omega) (by omega)).trans (by omega)
  have e3:i<xs.length→IntKind.i64.wrap (k+4*(i:Int)+2+1)=k+4*(i:Int)+3:=fun _=>(ai (by omega) (by omega)).trans (by omega)
  have e4:i<xs.length→IntKind.i64.wrap (k+4*(i:Int)+3+1)=k+4*((i+1:Nat):Int):=fun _=>(ai (by omega) (by omega)).trans (by omega)
  conv=>whnf
  (refine bS ?_ ?_<;>intro hb)
  refine bN ?_
  (refine aH (by((try simp only[Int.toNat_natCast]);exact aI bc _ _ _ default (by first|omega|(simp;omega)))) ?_;conv=>whnf);(refine bS ?_ ?_<;>intro hb)
  refine bN ?_
  rotate_left
  refine bN ?_
  (refine aH (by((try simp only[Int.toNat_natCast]);exact aI bc _ _ _ default (by first|omega|(simp;omega)))) ?_;conv=>whnf);(refine bS ?_ ?_<;>intro hb)
  refine bN ?_
  rotate_left
  refine bN ?_
  (refine aH (by((try simp only[Int.toNat_natCast]);exact aI bc _ _ _ default (by first|omega|(simp;omega)))) ?_;conv=>whnf);(refine bS ?_ ?_<;>intro hb)
  refine bN ?_
  rotate_left
  refine bN ?_
  (refine aH (by((try simp only[Int.toNat_natCast]);exact aI bc _ _ _ default (by first|omega|(simp;omega)))) ?_;conv=>whnf);(refine bS ?_ ?_<;>intro hb)
  refine bN ?_
  iterate 2 (rotate_left)
  refine bN ?_
  rotate_left
  ·have hi2:i<xs.length:=by assumption
   exact aA (by rw[dB jZ 4 default hi2 fun e=>hb (by rw[e];rfl)])
  ·rename_i hi2 _
   exact aA (by rw[dB jZ 4 default hi2 fun e=>hb (by rw[e,e1 hi2];rfl)])
  ·rename_i hi2 _ _
   exact aA (by rw[dB jZ 4 default hi2 fun e=>hb (by rw[e,e1 hi2,e2 hi2];rfl)])
  ·rename_i hi2 _ _ _
   exact aA (by rw[dB jZ 4 default hi2 fun e=>hb (by rw[e,e1 hi2,e2 hi2,e3 hi2];rfl)])
  ·rename_i hi2 q1 q2 q3
   rw[e1 hi2]at q2
   rw[e1 hi2,e2 hi2]at q3
   rw[e1 hi2,e2 hi2,e3 hi2]at hb
   have h3:xs.getD i default=jZ (k+4*i):=by
    generalize hg:xs.getD i default=y at*
    cases y
    simp only at q1 q2 q3 hb
    simp only[jZ,Deal.mk.injEq]
    exact⟨q1,q2,q3,hb⟩
   refine aE (i+1) ⟨⟨by omega,hC jZ 4 default hi2 ht h3⟩,by omega⟩ (by rw[e1 hi2,e2 hi2,e3 hi2,e4 hi2,ai (n:=(i:Int)+1) (by omega) (by omega)];rfl) rfl
  ·obtain rfl:i=xs.length:=by omega
   exact aA (by rw[ii jZ 4 (by omega) hi ht])
instance:CC 89:=⟨_,@c89⟩
theorem c67(x:Wd):Con Tryz.prog 67 [wu x] (aa [wu x]) (wu x):=
 rn 14 Tryz.func67 [.cell 2 92] (g:=go)
instance:CC 67:=⟨_,@c67⟩
theorem c81(a b:Wd):Con Tryz.prog 81 [wu a,wu b] (aa [wu a,wu b]) (.bool (decide (a=b))):=by
 refine rn 20 Tryz.func81 [.tmp 4] (g:= ?_)
 conv=>whnf
 repeat' (first|(focus (refine aA ?_;((cases a;cases b;simp_all))))|refine aO ?_|(refine bS ?_ ?_<;>intro hb))
instance:CC 81:=⟨_,@c81⟩
theorem c26(rs:List Wd)(h:rs.length≤1048576):Con Tryz.prog 26 [fq rs] (aa [fq rs]) (.own 0 zW (rs.map dl)):=by
 refine rn 23 Tryz.func26 [.tmp 2] (g:= ?_)
 conv=>whnf
 refine aO ?_
 rotate_left
 refine LoopG.rounds (α:=Nat) bH dI [0,3,4] [(7,7)] (fun i=>[(0,fq rs),(3,.ref 7 0 rs.length),(4,.int .i64 i)]) (fun i=>[(7,.live ⟨true,0,zW,pF dl zW rs i⟩)]) (fun i=>i≤rs.length) (fun i=>rs.length-i) ?_ ?_
 ·conv=>whnf
  exact aE 0 (by simp) (by simp[fq]) (by simp[jd,List.length_map])
 ·intro i h1 _ _
  conv=>whnf
  (refine bS ?_ ?_<;>intro hb)
  refine bN ?_
  (refine aH (by((try simp only[Int.toNat_natCast]);exact aI dl _ _ _ default (by first|omega|(simp;omega)))) ?_;conv=>whnf)
  refine bN ?_
  rotate_left
  refine bN ?_
  refine im ?_
  rotate_left
  ·have hi:i<rs.length:=hb
   refine aO ?_
   rotate_left
   refine aE (i+1) ⟨by omega,by omega⟩ (by rw[ai (by omega) (by omega)];rfl) (congrArg (fun r=>[(7,MB.live ⟨true,0,zW,r⟩)]) ?_)
   simp only[Nat.zero_add,Int.toNat_natCast]
   exact jj default hi rfl rfl
  ·obtain rfl:i=rs.length:=by omega
   (refine aA ?_;(simp[am,lr,List.take_of_length_le,List.length_map]))
theorem c34(xs ys:List Wd):Con Tryz.prog 34 [fq xs,fq ys] (aa [fq xs,fq ys]) (.bool (decide (xs=ys))):=by
 refine Con.evF 27 bH dI Tryz.func34 rfl rfl rfl rfl [.tmp 4] rfl fun⟨hx,_⟩=> ?_
 have hx:=facts_len hx
 conv=>whnf
 (refine bS ?_ ?_<;>intro hb)
 refine aO ?_
 iterate 2 (rotate_left)
 ·refine aA ?_
  have:xs≠ys:=fun e=>hb (by rw[e])
  simp[this]
 ·refine LoopG.rounds (α:=Nat) bH dI [0,1,5] [] (fun i=>[(0,fq xs),(1,fq ys),(5,.int .i64 i)]) (fun _=>[]) (fun i=>i≤xs.length∧xs.take i=ys.take i) (fun i=>xs.length-i) ?_ ?_
  ·conv=>whnf
   exact aE 0 ⟨by simp,by simp⟩ rfl rfl
  ·rintro i ⟨h1,h2⟩- -
   conv=>whnf
   (refine bS ?_ ?_<;>intro hb)
   refine bN ?_
   (refine aH (by((try simp only[Int.toNat_natCast]);exact aI dl _ _ _ default (by first|omega|(simp;omega)))) ?_;conv=>whnf)
   refine bN ?_
   (refine aH (by((try simp only[Int.toNat_natCast]);exact aI dl _ _ _ default (by first|omega|(simp;omega)))) ?_;conv=>whnf);iterate 3 (first|refine bN ?_|(refine bS ?_ ?_<;>intro hb))
   iterate 2 (rotate_left)
   refine bN ?_
   rotate_left
   ·refine aA ?_
    have:xs≠ys:=fun e=>hb (by rw[e])
    simp[this]
   ·exact aE (i+1) ⟨⟨by omega,fX default h2 (by omega) (by omega) hb⟩,by omega⟩ (by rw[ai (by omega) (by omega)];rfl) rfl
   ·refine aA ?_
    simp[gK h2 (by omega) (by omega)]
instance:CC 34:=⟨_,@c34⟩
theorem Kr(xs:List Wd)(i:Nat)(z:List AV)(y:Wd)(h:i<xs.length):bl (bl (bl (xs.map dl) i 0 z [.str y.nm]) i 1 z [.int .i64 y.k]) i 2 z [.int .i64 y.v]=(xs.set i y).map dl:=by
 simp[bl,setCells,dn,List.getD_eq_getElem?_getD,h,dl,List.map_set]
theorem c39(xs:List Wd)(k:Int)(h1:0≤k)(h2:k+3*xs.length≤1000000000):Con Tryz.prog 39 [.own 0 zW (xs.map dl),.int .i64 k] [.own 0 zW ((hH ma 3 xs.length k).map dl),.undef] (.int .i64 (k+3*xs.length)):=by
 refine Con.evM 35 [true,false] [some 500000,none] [500000] rfl rfl rfl bH dI Tryz.func39 rfl rfl rfl rfl [.tmp 4] rfl ?_
 conv=>whnf
 rotate_left
 refine LoopG.rounds (α:=Nat) bH dI [0,1,5] [(500000,500000)] (fun i=>[(0,.ref 500000 0 xs.length),(1,.int .i64 (k+3*i)),(5,.int .i64 i)]) (fun i=>[(500000,.live ⟨true,0,zW,(nA ma 3 xs k i).map dl⟩)]) (fun i=>i≤xs.length) (fun i=>xs.length-i) ?_ ?_
 ·conv=>whnf
  exact aE 0 (by simp) (by simp) (by rw[ju])
 ·intro i hi _ _
  have hlen:=kA ma 3 (k:=k) hi
  have e1:i<xs.length→IntKind.i64.wrap (k+3*(i:Int)+1)=k+3*(i:Int)+1:=fun _=>(ai (by omega) (by omega)).trans (by omega)
  have e2:i<xs.length→IntKind.i64.wrap (k+3*(i:Int)+1+1)=k+3*(i:Int)+2:=fun _=>(ai (by omega) (by omega)).trans (by omega)
  have e3:i<xs.length→IntKind.i64.wrap (k+3*(i:Int)+2+1)=k+3*((i+1:Nat):Int):=fun _=>(ai (by omega) (by omega)).trans (by omega)
  conv=>whnf
  iterate 20 (first|(refine ac (by solve|simp only[cB,aF]|fail) ?_;(conv=>whnf))|(apply ac rfl;(conv=>whnf))|(refine ac (by refine aU rfl ?_;simp only[cB];omega) ?_;(conv=>whnf))|(apply af rfl;(conv=>whnf))|(refine aG (fun hf=> ?_);(conv=>whnf))|(refine cm ?_ ?_<;>intro hb<;>(try simp only[eH]at hb)<;>conv=>whnf)|(apply aB;(conv=>whnf))|(refine ag (c85 _ (by omega) (by omega)) ?_;(conv=>whnf)))
  rotate_left
  (apply ac rfl;conv=>whnf)
  rotate_left
  ·have hi2:i<xs.length:=by assumption
   refine aE (i+1) ⟨by omega,by omega⟩ ?_ (congrArg (fun r=>[(500000,MB.live ⟨true,0,zW,r⟩)]) ?_)
   ·rw[e1 hi2,e2 hi2,e3 hi2,ai (n:=(i:Int)+1) (by omega) (by omega)]
    rfl
   ·rw[e1 hi2,e2 hi2]
    simp only[Nat.zero_add,Int.toNat_natCast]
    exact(Kr _ i _ (ma (k+3*i)) (by omega)).trans (by rw[←jq ma 3 hi2])
  ·obtain rfl:i=xs.length:=by omega
   refine pz (by simp[AV.rowsN,hlen]) (by simp[kB]) ?_
   exact aA rfl
theorem c44(xs:List Wd)(k:Int)(h1:0≤k)(h2:k+3*xs.length≤1000000000):Con Tryz.prog 44 [fq xs,.int .i64 k] (aa [fq xs,.int .i64 k]) (.int .i64 (dG ma 3 xs k)):=by
 refine rn 41 Tryz.func44 [.tmp 4] (g:= ?_)
 conv=>whnf
 rotate_left
 refine LoopG.rounds (α:=Nat) bH dI [0,1,5] [] (fun i=>[(0,fq xs),(1,.int .i64 (k+3*i)),(5,.int .i64 i)]) (fun _=>[]) (fun i=>i≤xs.length∧xs.take i=hH ma 3 i k) (fun i=>xs.length-i) ?_ ?_
 ·conv=>whnf
  exact aE 0 ⟨by simp,by simp[hH]⟩ (by simp[fq]) rfl
 ·rintro i ⟨hi,ht⟩- -
  have e1:i<xs.length→IntKind.i64.wrap (k+3*(i:Int)+1)=k+3*(i:Int)+1:=fun _=>(ai (by omega) (by omega)).trans (by omega)
  have e2:i<xs.length→IntKind.i64.wrap (k+3*(i:Int)+1+1)=k+3*(i:Int)+2:=fun _=>(ai (by omega) (by omega)).trans (by omega)
  have e3:i<xs.length→IntKind.i64.wrap (k+3*(i:Int)+2+1)=k+3*((i+1:Nat):Int):=fun _=>(ai (by omega) (by omega)).trans (by omega)
  conv=>whnf
  (iterate 9 (first|(apply ac rfl;(conv=>whnf))|(refine ac (by refine aU rfl ?_;simp only[cB];omega) ?_;(conv=>whnf))|(refine ChkS.mk (by kernel_rfl) ?_;(conv=>whnf))|(refine cm ?_ ?_<;>intro hb<;>(try simp only[eH]at hb)<;>conv=>whnf)));(refine aH (by((try simp only[Int.toNat_natCast]);exact aI dl _ _ _ default (by first|omega|(simp;omega)))) ?_;conv=>whnf);iterate 9 (first|(apply ac rfl;(conv=>whnf))|(refine aG (fun hf=> ?_);(conv=>whnf))|(refine ChkS.mk (by kernel_rfl) ?_;(conv=>whnf))|(refine cm ?_ ?_<;>intro hb<;>(try simp only[eH]at hb)<;>conv=>whnf)|(refine ag (c85 _ (by omega) (by omega)) ?_;(conv=>whnf)))
  rotate_left
  (iterate 3 ((first|apply ac rfl|refine ac (by refine aU rfl ?_;simp only[cB];omega) ?_);conv=>whnf));(refine aH (by((try simp only[Int.toNat_natCast]);exact aI dl _ _ _ default (by first|omega|(simp;omega)))) ?_;conv=>whnf);(refine cm ?_ ?_<;>intro hb<;>(try simp only[eH]at hb)<;>conv=>whnf);(apply ac rfl;conv=>whnf)
  rotate_left
  (iterate 3 ((first|apply ac rfl|refine ac (by refine aU rfl ?_;simp only[cB];omega) ?_);conv=>whnf));(refine aH (by((try simp only[Int.toNat_natCast]);exact aI dl _ _ _ default (by first|omega|(simp;omega)))) ?_;conv=>whnf);(refine cm ?_ ?_<;>intro hb<;>(try simp only[eH]at hb)<;>conv=>whnf);(apply ac rfl;conv=>whnf)
  iterate 2 (rotate_left)
  (apply ac rfl;conv=>whnf)
  rotate_left
  ·have hi2:i<xs.length:=by assumption
   exact aA (by rw[dB ma 3 default hi2 fun e=>hb (by rw[e];rfl)])
  ·rename_i hi2 _
   exact aA (by rw[dB ma 3 default hi2 fun e=>hb (by rw[e,e1 hi2];rfl)])
  ·rename_i hi2 _ _
   exact aA (by rw[dB ma 3 default hi2 fun e=>hb (by rw[e,e1 hi2,e2 hi2];rfl)])
  ·rename_i hi2 q1 q2
   rw[e1 hi2]at q2
   rw[e1 hi2,e2 hi2]at hb
   have h3:xs.getD i default=ma (k+3*i):=by
    generalize hg:xs.getD i default=y at*
    cases y
    simp only at q1 q2 hb
    simp only[ma,Wd.mk.injEq]
    exact⟨q1,q2,hb⟩
   refine aE (i+1) ⟨⟨by omega,hC ma 3 default hi2 ht h3⟩,by omega⟩ (by rw[e1 hi2,e2 hi2,e3 hi2,ai (n:=(i:Int)+1) (by omega) (by omega)];rfl) rfl
  ·obtain rfl:i=xs.length:=by omega
   exact aA (by rw[ii ma 3 (by omega) hi ht])
theorem c21(xs:List Cal)(left:Int):Con Tryz.prog 21 [od xs,.int .i64 left] (aa [od xs,.int .i64 left]) (.int .i64 (mz xs.length left)):=by
 refine rn 12 Tryz.func21 [.tmp 4] (g:= ?_)
 conv=>whnf
 repeat' (first|(focus (refine aA ?_;(first|(simp_all[mz];done)|(simp_all[mz];omega))))|refine aO ?_|(refine bS ?_ ?_<;>intro hb))
instance:CC 21:=⟨_,@c21⟩
theorem c70(x:Cal):Con Tryz.prog 70 [rI x] (aa [rI x]) (rI x):=
 rn 17 Tryz.func70 [.cell 2 99] (g:=go)
instance:CC 70:=⟨_,@c70⟩
theorem c84(a b:Cal):Con Tryz.prog 84 [rI a,rI b] (aa [rI a,rI b]) (.bool (decide (a=b))):=by
 refine rn 25 Tryz.func84 [.tmp 4] (g:= ?_)
 conv=>whnf
 repeat' (first|(focus (refine aA ?_;((cases a;cases b;simp_all))))|refine aO ?_|(refine bS ?_ ?_<;>intro hb))
instance:CC 84:=⟨_,@c84⟩
theorem c30(rs:List Cal)(h:rs.length≤1048576):Con Tryz.prog 30 [od rs] (aa [od rs]) (.own 0 zC (rs.map bF)):=by
 refine rn 23 Tryz.func30 [.tmp 2] (g:= ?_)
 conv=>whnf
 refine aO ?_
 rotate_left
 refine LoopG.rounds (α:=Nat) bH dI [0,3,4] [(7,7)] (fun i=>[(0,od rs),(3,.ref 7 0 rs.length),(4,.int .i64 i)]) (fun i=>[(7,.live ⟨true,0,zC,pF bF zC rs i⟩)]) (fun i=>i≤rs.length) (fun i=>rs.length-i) ?_ ?_
 ·conv=>whnf
  exact aE 0 (by simp) (by simp[od]) (by simp[jd,List.length_map])
 ·intro i h1 _ _
  conv=>whnf
  (refine bS ?_ ?_<;>intro hb)
  refine bN ?_
  (refine aH (by((try simp only[Int.toNat_natCast]);exact aI bF _ _ _ default (by first|omega|(simp;omega)))) ?_;conv=>whnf)
  refine bN ?_
  rotate_left
  refine bN ?_
  refine im ?_
  rotate_left
  ·have hi:i<rs.length:=hb
   refine aO ?_
   rotate_left
   refine aE (i+1) ⟨by omega,by omega⟩ (by rw[ai (by omega) (by omega)];rfl) (congrArg (fun r=>[(7,MB.live ⟨true,0,zC,r⟩)]) ?_)
   simp only[Nat.zero_add,Int.toNat_natCast]
   exact jj default hi rfl rfl
  ·obtain rfl:i=rs.length:=by omega
   (refine aA ?_;(simp[am,lr,List.take_of_length_le,List.length_map]))
theorem c38(xs ys:List Cal):Con Tryz.prog 38 [od xs,od ys] (aa [od xs,od ys]) (.bool (decide (xs=ys))):=by
 refine Con.evF 27 bH dI Tryz.func38 rfl rfl rfl rfl [.tmp 4] rfl fun⟨hx,_⟩=> ?_
 have hx:=facts_len hx
 conv=>whnf
 (refine bS ?_ ?_<;>intro hb)
 refine aO ?_
 iterate 2 (rotate_left)
 ·refine aA ?_
  have:xs≠ys:=fun e=>hb (by rw[e])
  simp[this]
 ·refine LoopG.rounds (α:=Nat) bH dI [0,1,5] [] (fun i=>[(0,od xs),(1,od ys),(5,.int .i64 i)]) (fun _=>[]) (fun i=>i≤xs.length∧xs.take i=ys.take i) (fun i=>xs.length-i) ?_ ?_
  ·conv=>whnf
   exact aE 0 ⟨by simp,by simp⟩ rfl rfl
  ·rintro i ⟨h1,h2⟩- -
   conv=>whnf
   (refine bS ?_ ?_<;>intro hb)
   refine bN ?_
   (refine aH (by((try simp only[Int.toNat_natCast]);exact aI bF _ _ _ default (by first|omega|(simp;omega)))) ?_;conv=>whnf)
   refine bN ?_
   (refine aH (by((try simp only[Int.toNat_natCast]);exact aI bF _ _ _ default (by first|omega|(simp;omega)))) ?_;conv=>whnf);iterate 3 (first|refine bN ?_|(refine bS ?_ ?_<;>intro hb))
   iterate 2 (rotate_left)
   refine bN ?_
   rotate_left
   ·refine aA ?_
    have:xs≠ys:=fun e=>hb (by rw[e])
    simp[this]
   ·exact aE (i+1) ⟨⟨by omega,fX default h2 (by omega) (by omega) hb⟩,by omega⟩ (by rw[ai (by omega) (by omega)];rfl) rfl
   ·refine aA ?_
    simp[gK h2 (by omega) (by omega)]
instance:CC 38:=⟨_,@c38⟩
theorem KN(xs:List Cal)(i:Nat)(z:List AV)(y:Cal)(h:i<xs.length):bl (bl (bl (bl (xs.map bF) i 0 z [.int .i64 y.ip]) i 1 z [.int .i64 y.fl]) i 2 z [.int .i64 y.dp]) i 3 z [.bool y.ca]=(xs.set i y).map bF:=by
 simp[bl,setCells,dn,List.getD_eq_getElem?_getD,h,bF,List.map_set]
theorem c43(xs:List Cal)(k:Int)(h1:0≤k)(h2:k+4*xs.length≤1000000000):Con Tryz.prog 43 [.own 0 zC (xs.map bF),.int .i64 k] [.own 0 zC ((hH lm 4 xs.length k).map bF),.undef] (.int .i64 (k+4*xs.length)):=by
 refine Con.evM 43 [true,false] [some 500000,none] [500000] rfl rfl rfl bH dI Tryz.func43 rfl rfl rfl rfl [.tmp 4] rfl ?_
 conv=>whnf
 rotate_left
 refine LoopG.rounds (α:=Nat) bH dI [0,1,5] [(500000,500000)] (fun i=>[(0,.ref 500000 0 xs.length),(1,.int .i64 (k+4*i)),(5,.int .i64 i)]) (fun i=>[(500000,.live ⟨true,0,zC,(nA lm 4 xs k i).map bF⟩)]) (fun i=>i≤xs.length) (fun i=>xs.length-i) ?_ ?_
 ·conv=>whnf
  exact aE 0 (by simp) (by simp) (by rw[ju])
 ·intro i hi _ _
  have hlen:=kA lm 4 (k:=k) hi
  have e1:i<xs.length→IntKind.i64.wrap (k+4*(i:Int)+1)=k+4*(i:Int)+1:=fun _=>(ai (by omega) (by omega)).trans (by omega)
  have e2:i<xs.length→IntKind.i64.wrap (k+4*(i:Int)+1+1)=k+4*(i:Int)+2:=fun _=>(ai (by omega) (by omega)).trans (by omega)
  have e3:i<xs.length→IntKind.i64.wrap (k+4*(i:Int)+2+1)=k+4*(i:Int)+3:=fun _=>(ai (by omega) (by omega)).trans (by omega)
  have e4:i<xs.length→IntKind.i64.wrap (k+4*(i:Int)+3+1)=k+4*((i+1:Nat):Int):=fun _=>(ai (by omega) (by omega)).trans (by omega)
  conv=>whnf
  (refine bS ?_ ?_<;>intro hb)
  refine aO ?_
  rotate_left
  refine aO ?_
  rotate_left
  ·have hi2:i<xs.length:=by assumption
   refine aE (i+1) ⟨by omega,by omega⟩ ?_ (congrArg (fun r=>[(500000,MB.live ⟨true,0,zC,r⟩)]) ?_)
   ·rw[e1 hi2,e2 hi2,e3 hi2,e4 hi2,ai (n:=(i:Int)+1) (by omega) (by omega)]
    rfl
   ·rw[e1 hi2,e2 hi2,e3 hi2]
    simp only[Nat.zero_add,Int.toNat_natCast]
    exact(KN _ i _ (lm (k+4*i)) (by omega)).trans (by rw[←jq lm 4 hi2])
  ·obtain rfl:i=xs.length:=by omega
   refine pz (by simp[AV.rowsN,hlen]) (by simp[kB]) ?_
   exact aA rfl
theorem c48(xs:List Cal)(k:Int)(h1:0≤k)(h2:k+4*xs.length≤1000000000):Con Tryz.prog 48 [od xs,.int .i64 k] (aa [od xs,.int .i64 k]) (.int .i64 (dG lm 4 xs k)):=by
 refine rn 51 Tryz.func48 [.tmp 4] (g:= ?_)
 conv=>whnf
 rotate_left
 refine LoopG.rounds (α:=Nat) bH dI [0,1,5] [] (fun i=>[(0,od xs),(1,.int .i64 (k+4*i)),(5,.int .i64 i)]) (fun _=>[]) (fun i=>i≤xs.length∧xs.take i=hH lm 4 i k) (fun i=>xs.length-i) ?_ ?_
 ·conv=>whnf
  exact aE 0 ⟨by simp,by simp[hH]⟩ (by simp[od]) rfl
 ·rintro i ⟨hi,ht⟩- -
  have e1:i<xs.length→IntKind.i64.wrap (k+4*(i:Int)+1)=k+4*(i:Int)+1:=fun _=>(ai (by omega) (by omega)).trans (by omega)
  have e2:i<xs.length→IntKind.i64.wrap (k+4*(i:Int)+1+1)=k+4*(i:Int)+2:=fun _=>(ai (by omega) (by omega)).trans (by omega)
  have e3:i<xs.length→IntKind.i64.wrap (k+4*(i:Int)+2+1)=k+4*(i:Int)+3:=fun _=>(ai (by omega) (by omega)).trans (by omega)
  have e4:i<xs.length→IntKind.i64.wrap (k+4*(i:Int)+3+1)=k+4*((i+1:Nat):Int):=fun _=>(ai (by omega) (by omega)).trans (by omega)
  conv=>whnf
  (refine bS ?_ ?_<;>intro hb)
  refine bN ?_
  (refine aH (by((try simp only[Int.toNat_natCast]);exact aI bF _ _ _ default (by first|omega|(simp;omega)))) ?_;conv=>whnf);(refine bS ?_ ?_<;>intro hb)
  refine bN ?_
  rotate_left
  refine bN ?_
  (refine aH (by((try simp only[Int.toNat_natCast]);exact aI bF _ _ _ default (by first|omega|(simp;omega)))) ?_;conv=>whnf);(refine bS ?_ ?_<;>intro hb)
  refine bN ?_
  rotate_left
  refine bN ?_
  (refine aH (by((try simp only[Int.toNat_natCast]);exact aI bF _ _ _ default (by first|omega|(simp;omega)))) ?_;conv=>whnf);(refine bS ?_ ?_<;>intro hb)
  refine bN ?_
  rotate_left
  refine bN ?_
  (refine aH (by((try simp only[Int.toNat_natCast]);exact aI bF _ _ _ default (by first|omega|(simp;omega)))) ?_;conv=>whnf);iterate 3 (first|refine bN ?_|(refine bS ?_ ?_<;>intro hb))
  iterate 2 (rotate_left)
  refine bN ?_
  rotate_left
  ·have hi2:i<xs.length:=by assumption
   exact aA (by rw[dB lm 4 default hi2 fun e=>hb (by rw[e];rfl)])
  ·rename_i hi2 _
   exact aA (by rw[dB lm 4 default hi2 fun e=>hb (by rw[e,e1 hi2];rfl)])
  ·rename_i hi2 _ _
   exact aA (by rw[dB lm 4 default hi2 fun e=>hb (by rw[e,e1 hi2,e2 hi2];rfl)])
  ·rename_i hi2 _ _ _
   exact aA (by rw[dB lm 4 default hi2 fun e=>hb (by rw[e,e1 hi2,e2 hi2,e3 hi2];rfl)])
  ·rename_i hi2 q1 q2 q3
   rw[e1 hi2]at q2
   rw[e1 hi2,e2 hi2]at q3
   rw[e1 hi2,e2 hi2,e3 hi2]at hb
   have h3:xs.getD i default=lm (k+4*i):=by
    generalize hg:xs.getD i default=y at*
    cases y
    simp only at q1 q2 q3 hb
    simp only[lm,Cal.mk.injEq]
    exact⟨q1,q2,q3,hb⟩
   refine aE (i+1) ⟨⟨by omega,hC lm 4 default hi2 ht h3⟩,by omega⟩ (by rw[e1 hi2,e2 hi2,e3 hi2,e4 hi2,ai (n:=(i:Int)+1) (by omega) (by omega)];rfl) rfl
  ·obtain rfl:i=xs.length:=by omega
   exact aA (by rw[ii lm 4 (by omega) hi ht])
def ep(d:Dat):Prop:=d.st.length≤1048576∧d.bk.length≤1048576∧d.ce.length≤1048576∧d.ou.length≤1048576
def kI(d:Dat)(l:Int):Int:=jX (mz d.st.length l) (fun l=>jX (mz d.bk.length l) (fun l=>jX (mz d.ce.length l) (fun l=>jX (mz d.ou.length l) id)))
theorem c19(d:Dat)(left:Int):Con Tryz.prog 19 [az d,.int .i64 left] (aa [az d,.int .i64 left]) (.int .i64 (kI d left)):=by
 refine rn 31 Tryz.func19 [.tmp 4] (g:= ?_)
 conv=>whnf
 repeat' (first|(focus (refine aA ?_;(first|(simp_all[kI,jX,mz];done)|(simp_all[kI,jX,mz];omega)|(simp only[kI,jX];rw[BC (show 0≤IntKind.i64.wrap (left-_) by assumption)];first|(rw[if_neg (by omega),if_pos (by omega)];done)|(rw[if_neg (by omega),if_neg (by omega)];first|done|rfl)))))|refine aO ?_|(refine bS ?_ ?_<;>intro hb))
instance:CC 19:=⟨_,@c19⟩
theorem sX{d:Dat}{l:Int}(h1:0≤l)(h2:l≤1048576)(hl0:d.st.length≤9223372036854775807)(hl1:d.bk.length≤9223372036854775807)(hl2:d.ce.length≤9223372036854775807)(hl5:d.ou.length≤9223372036854775807)(e:0≤kI d l):kI d l≤l∧ep d:=by
 unfold kI at e⊢
 obtain⟨a0,e,q0⟩:=dY e
 have k0:=ja (h1) (h2) hl0 a0
 obtain⟨a1,e,q1⟩:=dY e
 have k1:=ja (by omega) (by omega) hl1 a1
 obtain⟨a2,e,q2⟩:=dY e
 have k2:=ja (by omega) (by omega) hl2 a2
 obtain⟨a5,e,q5⟩:=dY e
 have k5:=ja (by omega) (by omega) hl5 a5
 try simp only[id]at*
 refine⟨by rw[q0,q1,q2,q5];(try simp only[id]);omega,k0.2,k1.2,k2.2,k5.2⟩
theorem c28(d:Dat)(hs:ep d):Con Tryz.prog 28 [az d] (aa [az d]) (jY d):=by
 refine rn 26 Tryz.func28 [.cell 2 35] (g:= ?_)
 conv=>whnf
 (iterate 13 (first|refine im ?_|(refine ag (c27 _ hs.2.2.1) ?_;conv=>whnf)|(refine ag (c27 _ hs.2.1) ?_;conv=>whnf)|(refine ag (c27 _ hs.1) ?_;conv=>whnf)|refine bN ?_));(refine aA ?_;(rfl))
theorem c36(a b:Dat):Con Tryz.prog 36 [az a,az b] (aa [az a,az b]) (.bool (decide (a=b))):=by
 refine rn 38 Tryz.func36 [.tmp 4] (g:= ?_)
 conv=>whnf
 repeat' (first|(focus (refine aA ?_;((cases a;cases b;simp_all))))|refine aO ?_|(refine bS ?_ ?_<;>intro hb))
instance:CC 36:=⟨_,@c36⟩
def cJ(d:Dat):Int:=1*(d.st.length:Int)+1*(d.bk.length:Int)+1*(d.ce.length:Int)
def aZ(d:Dat)(k:Int):Dat:=⟨hH eY 1 d.st.length (k),hH eY 1 d.bk.length (k+1*(d.st.length:Int)),hH eY 1 d.ce.length (k+1*(d.st.length:Int)+1*(d.bk.length:Int)),d.he,d.ba,d.ou⟩
theorem c41(d:Dat)(k:Int)(h1:0≤k)(h2:k+cJ d≤100000000):Con Tryz.prog 41 [jY d,.int .i64 k] [.agg [aK (aZ d k).st,aK (aZ d k).bk,aK (aZ d k).ce,.undef,.undef,.undef],.undef] (.int .i64 (k+cJ d)):=by
 unfold cJ at h2
 refine Con.evH 18 [some 500000,some 500001,some 500002,none,none,none] [500000,500001,500002] rfl rfl bH dI Tryz.func41 rfl rfl rfl rfl [.tmp 4] rfl ?_
 conv=>whnf
 (iterate 38 (first|(refine ac (by solve|simp only[cB,aF,aK,aX,aW,bO,kh,bR,gA]|fail) ?_;(conv=>whnf))|(apply ac rfl;(conv=>whnf))|(focus (refine pz (by solve|simp[AV.rowsN,List.length_map,aF,aK,aX,aW,bO,kh,bR,gA]|fail) rfl ?_;(conv=>whnf)))|(apply af rfl;(conv=>whnf))|(refine aG (fun hf=> ?_);(conv=>whnf))|(refine mP 40 0 ?_;(conv=>whnf))|(refine jL (f:=40) (j:=0) (c40 _ _ (by omega) (by omega)) (by solve|simp[List.length_map,aF,aK,aX,aW,bO,kh,bR,gA]|fail) (by rfl) (by rfl) ?_;(conv=>whnf))));(refine aA ?_;((simp only[cJ];congr 1;omega)))
def lq(d:Dat)(k:Int):Int:=jX (dG eY 1 d.st k) (fun l=>jX (dG eY 1 d.bk l) (fun l=>jX (dG eY 1 d.ce l) id))
theorem c46(d:Dat)(k:Int)(h1:0≤k)(h2:k+cJ d≤100000000):Con Tryz.prog 46 [az d,.int .i64 k] (aa [az d,.int .i64 k]) (.int .i64 (lq d k)):=by
 unfold cJ at h2
 have g0:=hZ eY 1 d.st k
 have g1:=hZ eY 1 d.bk (dG eY 1 d.st k)
 have g2:=hZ eY 1 d.ce (dG eY 1 d.bk (dG eY 1 d.st k))
 refine rn 24 Tryz.func46 [.tmp 4] (g:= ?_)
 conv=>whnf
 repeat' (first|(refine ag (c45 _ _ (by omega) (by omega)) ?_;conv=>whnf)|(focus (refine aA ?_;(first|(simp_all[lq,jX];done)|(simp_all[lq,jX];omega))))|refine aO ?_|(refine bS ?_ ?_<;>intro hb))
theorem vH(d:Dat)(k:Int)(h1:0≤k):lq (aZ d k) k=k+cJ d:=by
 simp only[lq,aZ,kX,jX,id]
 rw[if_neg (by omega),if_neg (by omega),if_neg (by omega)]
 unfold cJ
 omega
theorem xk(d:Dat)(k:Int):cJ (aZ d k)=cJ d:=by simp[cJ,aZ,aF]
theorem wG{d:Dat}(hs:ep d):0≤cJ d∧cJ d≤12000000:=by
 unfold ep at hs
 unfold cJ
 omega
def dA(h:Hst):Prop:=h.gr.length≤1048576∧h.st.length≤1048576∧h.q.length≤1048576∧h.ds.length≤1048576
def ko(h:Hst)(l:Int):Int:=jX (mz h.gr.length l) (fun l=>jX (mz h.st.length l) (fun l=>jX (mz h.q.length l) (fun l=>jX (mz h.ds.length l) id)))
theorem c20(h:Hst)(left:Int):Con Tryz.prog 20 [cV h,.int .i64 left] (aa [cV h,.int .i64 left]) (.int .i64 (ko h left)):=by
 refine rn 30 Tryz.func20 [.tmp 4] (g:= ?_)
 conv=>whnf
 repeat' (first|(focus (refine aA ?_;(first|(simp_all[ko,jX,mz];done)|(simp_all[ko,jX,mz];omega)|(simp only[ko,jX];rw[BC (show 0≤IntKind.i64.wrap (left-_) by assumption)];first|(rw[if_neg (by omega),if_pos (by omega)];done)|(rw[if_neg (by omega),if_neg (by omega)];first|done|rfl)))))|refine aO ?_|(refine bS ?_ ?_<;>intro hb))
instance:CC 20:=⟨_,@c20⟩
theorem tz{h:Hst}{l:Int}(h1:0≤l)(h2:l≤1048576)(hl0:h.gr.length≤9223372036854775807)(hl1:h.st.length≤9223372036854775807)(hl2:h.q.length≤9223372036854775807)(hl4:h.ds.length≤9223372036854775807)(e:0≤ko h l):ko h l≤l∧dA h:=by
 unfold ko at e⊢
 obtain⟨a0,e,q0⟩:=dY e
 have k0:=ja (h1) (h2) hl0 a0
 obtain⟨a1,e,q1⟩:=dY e
 have k1:=ja (by omega) (by omega) hl1 a1
 obtain⟨a2,e,q2⟩:=dY e
 have k2:=ja (by omega) (by omega) hl2 a2
 obtain⟨a4,e,q4⟩:=dY e
 have k4:=ja (by omega) (by omega) hl4 a4
 try simp only[id]at*
 refine⟨by rw[q0,q1,q2,q4];(try simp only[id]);omega,k0.2,k1.2,k2.2,k4.2⟩
theorem c29(h:Hst)(hs:dA h):Con Tryz.prog 29 [cV h] (aa [cV h]) (fR h):=by
 refine rn 24 Tryz.func29 [.cell 2 38] (g:= ?_)
 conv=>whnf
 (iterate 17 (first|refine im ?_|(refine ag (c69 _ hs.2.2.2) ?_;conv=>whnf)|(refine ag (c27 _ hs.2.2.1) ?_;conv=>whnf)|(refine ag (c27 _ hs.2.1) ?_;conv=>whnf)|(refine ag (c68 _ hs.1) ?_;conv=>whnf)|refine bN ?_));(refine aA ?_;(rfl))
theorem c37(a b:Hst):Con Tryz.prog 37 [cV a,cV b] (aa [cV a,cV b]) (.bool (decide (a=b))):=by
 refine rn 34 Tryz.func37 [.tmp 4] (g:= ?_)
 conv=>whnf
 repeat' (first|(focus (refine aA ?_;((cases a;cases b;simp_all))))|refine aO ?_|(refine bS ?_ ?_<;>intro hb))
instance:CC 37:=⟨_,@c37⟩
def dg(h:Hst):Int:=1*(h.gr.length:Int)+1*(h.st.length:Int)+1*(h.q.length:Int)+4*(h.ds.length:Int)
def aV(h:Hst)(k:Int):Hst:=⟨hH lX 1 h.gr.length (k),hH eY 1 h.st.length (k+1*(h.gr.length:Int)),hH eY 1 h.q.length (k+1*(h.gr.length:Int)+1*(h.st.length:Int)),h.tk,hH jZ 4 h.ds.length (k+1*(h.gr.length:Int)+1*(h.st.length:Int)+1*(h.q.length:Int))⟩
theorem c42(h:Hst)(k:Int)(h1:0≤k)(h2:k+dg h≤100000000):Con Tryz.prog 42 [fR h,.int .i64 k] [.agg [aX (aV h k).gr,aK (aV h k).st,aK (aV h k).q,.undef,aW (aV h k).ds],.undef] (.int .i64 (k+dg h)):=by
 unfold dg at h2
 refine Con.evH 22 [some 500000,some 500001,some 500002,none,some 500004] [500000,500001,500002,500004] rfl rfl bH dI Tryz.func42 rfl rfl rfl rfl [.tmp 4] rfl ?_
 conv=>whnf
 (iterate 50 (first|(refine ac (by solve|simp only[cB,aF,aK,aX,aW,bO,kh,bR,gA]|fail) ?_;(conv=>whnf))|(apply ac rfl;(conv=>whnf))|(focus (refine pz (by solve|simp[AV.rowsN,List.length_map,aF,aK,aX,aW,bO,kh,bR,gA]|fail) rfl ?_;(conv=>whnf)))|(apply af rfl;(conv=>whnf))|(refine aG (fun hf=> ?_);(conv=>whnf))|(refine mP 86 0 ?_;(conv=>whnf))|(refine jL (f:=86) (j:=0) (c86 _ _ (by omega) (by omega)) (by solve|simp[List.length_map,aF,aK,aX,aW,bO,kh,bR,gA]|fail) (by rfl) (by rfl) ?_;(conv=>whnf))|(refine mP 40 0 ?_;(conv=>whnf))|(refine jL (f:=40) (j:=0) (c40 _ _ (by omega) (by omega)) (by solve|simp[List.length_map,aF,aK,aX,aW,bO,kh,bR,gA]|fail) (by rfl) (by rfl) ?_;(conv=>whnf))|(refine mP 87 0 ?_;(conv=>whnf))|(refine jL (f:=87) (j:=0) (c87 _ _ (by omega) (by omega)) (by solve|simp[List.length_map,aF,aK,aX,aW,bO,kh,bR,gA]|fail) (by rfl) (by rfl) ?_;(conv=>whnf))));(refine aA ?_;((simp only[dg];congr 1;omega)))
def kj(h:Hst)(k:Int):Int:=jX (dG lX 1 h.gr k) (fun l=>jX (dG eY 1 h.st l) (fun l=>jX (dG eY 1 h.q l) (fun l=>jX (dG jZ 4 h.ds l) id)))
theorem c47(h:Hst)(k:Int)(h1:0≤k)(h2:k+dg h≤100000000):Con Tryz.prog 47 [cV h,.int .i64 k] (aa [cV h,.int .i64 k]) (.int .i64 (kj h k)):=by
 unfold dg at h2
 have g0:=hZ lX 1 h.gr k
 have g1:=hZ eY 1 h.st (dG lX 1 h.gr k)
 have g2:=hZ eY 1 h.q (dG eY 1 h.st (dG lX 1 h.gr k))
 have g3:=hZ jZ 4 h.ds (dG eY 1 h.q (dG eY 1 h.st (dG lX 1 h.gr k)))
 refine rn 30 Tryz.func47 [.tmp 4] (g:= ?_)
 conv=>whnf
 repeat' (first|(refine ag (c88 _ _ (by omega) (by omega)) ?_;conv=>whnf)|(refine ag (c45 _ _ (by omega) (by omega)) ?_;conv=>whnf)|(refine ag (c89 _ _ (by omega) (by omega)) ?_;conv=>whnf)|(focus (refine aA ?_;(first|(simp_all[kj,jX];done)|(simp_all[kj,jX];omega))))|refine aO ?_|(refine bS ?_ ?_<;>intro hb))
theorem vR(h:Hst)(k:Int)(h1:0≤k):kj (aV h k) k=k+dg h:=by
 simp only[kj,aV,kX,jX,id]
 rw[if_neg (by omega),if_neg (by omega),if_neg (by omega),if_neg (by omega)]
 unfold dg
 omega
theorem xi(h:Hst)(k:Int):dg (aV h k)=dg h:=by simp[dg,aV,aF]
theorem vX{h:Hst}(hs:dA h):0≤dg h∧dg h≤12000000:=by
 unfold dA at hs
 unfold dg
 omega
end V1
