/- Sizes, copies, comparisons and marks of the data, each with its contract. -/
import Derived.Test.YtidkogijdlfjpaaGreatDoorProg
import Derived.KernelRfl
import Derived.Test.YtidkogijdlfjpaaGreatDoorAbsf
import Derived.Test.YtidkogijdlfjpaaGreatDoorAbs7
import Derived.Test.YtidkogijdlfjpaaGreatDoorAbsk
set_option linter.unusedVariables false
set_option linter.unusedSimpArgs false
set_option maxRecDepth 100000
open Go Go.Abs Go.Proofs
namespace V1
def T:TT:=[(2,TI.mk (UT.int IntKind.i64) 1 8 [AV.int IntKind.i64 0] false),
 (3,TI.mk (UT.int IntKind.i64) 1 8 [AV.int IntKind.i64 0] false),
 (4,TI.mk UT.bool 1 1 [AV.bool false] false),
 (5,TI.mk (UT.int IntKind.u8) 1 1 [AV.int IntKind.u8 0] false),
 (6,TI.mk (UT.int IntKind.u8) 1 1 [AV.int IntKind.u8 0] false),
 (7,TI.mk (UT.struct [(0,2),(1,3),(2,4),(3,6)]) 4 24 [AV.int IntKind.i64 0,AV.int IntKind.i64 0,AV.bool false,AV.int IntKind.u8 0] true),
 (8,TI.mk (UT.struct [(0,2),(1,3),(2,4),(3,6)]) 4 24 [AV.int IntKind.i64 0,AV.int IntKind.i64 0,AV.bool false,AV.int IntKind.u8 0] true),
 (9,TI.mk UT.str 1 16 [AV.str []] false),
 (10,TI.mk UT.str 1 16 [AV.str []] false),
 (11,TI.mk UT.str 1 16 [AV.str []] false),
 (12,TI.mk (UT.int IntKind.u64) 1 8 [AV.int IntKind.u64 0] false),
 (13,TI.mk (UT.struct [(0,9),(1,12)]) 2 24 [AV.str [],AV.int IntKind.u64 0] false),
 (14,TI.mk (UT.struct [(0,9),(1,12)]) 2 24 [AV.str [],AV.int IntKind.u64 0] false),
 (18,TI.mk (UT.struct [(0,17)]) 1 8 [AV.nilp] false),
 (19,TI.mk (UT.struct [(0,17)]) 1 8 [AV.nilp] false),
 (21,TI.mk (UT.int IntKind.i32) 1 4 [AV.int IntKind.i32 0] false),
 (22,TI.mk (UT.slice 3) 1 24 [AV.emp] false),
 (23,TI.mk (UT.struct [(0,22),(1,22),(2,22),(3,3),(4,3),(5,9)]) 6 104 [AV.emp,AV.emp,AV.emp,AV.int IntKind.i64 0,AV.int IntKind.i64 0,AV.str []] true),
 (24,TI.mk (UT.struct [(0,22),(1,22),(2,22),(3,3),(4,3),(5,9)]) 6 104 [AV.emp,AV.emp,AV.emp,AV.int IntKind.i64 0,AV.int IntKind.i64 0,AV.str []] true),
 (26,TI.mk (UT.struct [(0,22),(1,22),(2,22),(3,3),(4,3),(5,9)]) 6 104 [AV.emp,AV.emp,AV.emp,AV.int IntKind.i64 0,AV.int IntKind.i64 0,AV.str []] true),
 (39,TI.mk (UT.slice 5) 1 24 [AV.emp] false),
 (48,TI.mk (UT.slice 22) 1 24 [AV.emp] false),
 (68,TI.mk (UT.array 3 3) 3 24 [AV.int IntKind.i64 0,AV.int IntKind.i64 0,AV.int IntKind.i64 0] false),
 (76,TI.mk (UT.struct [(0,39),(1,3),(2,3)]) 3 40 [AV.emp,AV.int IntKind.i64 0,AV.int IntKind.i64 0] true),
 (77,TI.mk (UT.struct [(0,39),(1,3),(2,3)]) 3 40 [AV.emp,AV.int IntKind.i64 0,AV.int IntKind.i64 0] true),
 (80,TI.mk (UT.slice 9) 1 24 [AV.emp] false),
 (83,TI.mk (UT.slice 4) 1 24 [AV.emp] false),
 (92,TI.mk (UT.int IntKind.u32) 1 4 [AV.int IntKind.u32 0] false),
 (93,TI.mk (UT.int IntKind.u64) 1 8 [AV.int IntKind.u64 0] false),
 (94,TI.mk (UT.int IntKind.u64) 1 8 [AV.int IntKind.u64 0] false),
 (98,TI.mk (UT.struct [(0,97),(1,39)]) 2 32 [AV.nilp,AV.emp] true),
 (99,TI.mk (UT.struct [(0,97),(1,39)]) 2 32 [AV.nilp,AV.emp] true),
 (126,TI.mk (UT.slice 141) 1 24 [AV.emp] false),
 (128,TI.mk (UT.array 65 5) 65 65 [AV.int IntKind.u8 0,AV.int IntKind.u8 0,AV.int IntKind.u8 0,AV.int IntKind.u8 0,AV.int IntKind.u8 0,AV.int IntKind.u8 0,AV.int IntKind.u8 0,AV.int IntKind.u8 0,AV.int IntKind.u8 0,AV.int IntKind.u8 0,AV.int IntKind.u8 0,AV.int IntKind.u8 0,AV.int IntKind.u8 0,AV.int IntKind.u8 0,AV.int IntKind.u8 0,AV.int IntKind.u8 0,AV.int IntKind.u8 0,AV.int IntKind.u8 0,AV.int IntKind.u8 0,AV.int IntKind.u8 0,AV.int IntKind.u8 0,AV.int IntKind.u8 0,AV.int IntKind.u8 0,AV.int IntKind.u8 0,AV.int IntKind.u8 0,AV.int IntKind.u8 0,AV.int IntKind.u8 0,AV.int IntKind.u8 0,AV.int IntKind.u8 0,AV.int IntKind.u8 0,AV.int IntKind.u8 0,AV.int IntKind.u8 0,AV.int IntKind.u8 0,AV.int IntKind.u8 0,AV.int IntKind.u8 0,AV.int IntKind.u8 0,AV.int IntKind.u8 0,AV.int IntKind.u8 0,AV.int IntKind.u8 0,AV.int IntKind.u8 0,AV.int IntKind.u8 0,AV.int IntKind.u8 0,AV.int IntKind.u8 0,AV.int IntKind.u8 0,AV.int IntKind.u8 0,AV.int IntKind.u8 0,AV.int IntKind.u8 0,AV.int IntKind.u8 0,AV.int IntKind.u8 0,AV.int IntKind.u8 0,AV.int IntKind.u8 0,AV.int IntKind.u8 0,AV.int IntKind.u8 0,AV.int IntKind.u8 0,AV.int IntKind.u8 0,AV.int IntKind.u8 0,AV.int IntKind.u8 0,AV.int IntKind.u8 0,AV.int IntKind.u8 0,AV.int IntKind.u8 0,AV.int IntKind.u8 0,AV.int IntKind.u8 0,AV.int IntKind.u8 0,AV.int IntKind.u8 0,AV.int IntKind.u8 0] false),
 (131,TI.mk (UT.struct [(0,5),(1,5)]) 2 2 [AV.int IntKind.u8 0,AV.int IntKind.u8 0] true),
 (132,TI.mk (UT.struct [(0,5),(1,5)]) 2 2 [AV.int IntKind.u8 0,AV.int IntKind.u8 0] true),
 (140,TI.mk (UT.struct [(0,92),(1,92),(2,139)]) 5 20 [AV.int IntKind.u32 0,AV.int IntKind.u32 0,AV.int IntKind.i32 0,AV.int IntKind.i32 0,AV.int IntKind.i32 0] true),
 (141,TI.mk (UT.struct [(0,92),(1,92),(2,139)]) 5 20 [AV.int IntKind.u32 0,AV.int IntKind.u32 0,AV.int IntKind.i32 0,AV.int IntKind.i32 0,AV.int IntKind.i32 0] true),
 (144,TI.mk (UT.struct [(0,17),(1,17),(2,17),(3,9)]) 4 40 [AV.nilp,AV.nilp,AV.nilp,AV.str []] false),
 (145,TI.mk (UT.struct [(0,17),(1,17),(2,17),(3,9)]) 4 40 [AV.nilp,AV.nilp,AV.nilp,AV.str []] false),
 (147,TI.mk (UT.struct [(0,146)]) 0 0 [] false),
 (148,TI.mk (UT.struct [(0,146)]) 0 0 [] false),
 (149,TI.mk (UT.int IntKind.u8) 1 1 [AV.int IntKind.u8 0] false),
 (150,TI.mk (UT.int IntKind.u8) 1 1 [AV.int IntKind.u8 0] false),
 (152,TI.mk (UT.int IntKind.i32) 1 4 [AV.int IntKind.i32 0] false),
 (153,TI.mk (UT.int IntKind.i32) 1 4 [AV.int IntKind.i32 0] false),
 (154,TI.mk (UT.struct [(0,12),(1,12),(2,92),(3,149),(4,5),(5,5),(6,150),(7,151),(8,108),(9,152),(10,153)]) 11 48 [AV.int IntKind.u64 0,AV.int IntKind.u64 0,AV.int IntKind.u32 0,AV.int IntKind.u8 0,AV.int IntKind.u8 0,AV.int IntKind.u8 0,AV.int IntKind.u8 0,AV.nilfn,AV.nilp,AV.int IntKind.i32 0,AV.int IntKind.i32 0] false),
 (155,TI.mk (UT.struct [(0,12),(1,12),(2,92),(3,149),(4,5),(5,5),(6,150),(7,151),(8,108),(9,152),(10,153)]) 11 48 [AV.int IntKind.u64 0,AV.int IntKind.u64 0,AV.int IntKind.u32 0,AV.int IntKind.u8 0,AV.int IntKind.u8 0,AV.int IntKind.u8 0,AV.int IntKind.u8 0,AV.nilfn,AV.nilp,AV.int IntKind.i32 0,AV.int IntKind.i32 0] false)]
theorem T_ok:T.ok Tryz.prog:=by repeat' first|exact TT.ok_nil|refine TT.ok_cons (by kernel_rfl) ?_
theorem mix:Tryz.prog.follows .mixedOrders=true:=by kernel_rfl
def smallData(d:Dat):Prop:=d.st.length≤1048576∧d.bk.length≤1048576∧d.ce.length≤1048576∧d.ou.length≤1048576
def mkData(d:Dat)(k:Int):Dat:=⟨mkS mksI 1 d.st.length (k),mkS mksI 1 d.bk.length (k+1*(d.st.length:Int)),mkS mksI 1 d.ce.length (k+1*(d.st.length:Int)+1*(d.bk.length:Int)),d.he,d.ba,d.ou⟩
end V1
