/- Sizes, copies, comparisons and marks of the data, each with its contract. -/
import Derived.Test.YtdbjklhadnnbdaaDoorProg
import Derived.KernelRfl
import Derived.Test.YtdbjklhadnnbdaaDoorAbsf
import Derived.Test.YtdbjklhadnnbdaaDoorAbs7
import Derived.Test.YtdbjklhadnnbdaaDoorAbsk
set_option linter.unusedVariables false
set_option linter.unusedSimpArgs false
set_option maxRecDepth 100000
open Go Go.Abs Go.Proofs
namespace V1
def T : TT := [(2, TI.mk (UT.int IntKind.i64) 1 8 [AV.int IntKind.i64 0] false),
  (3, TI.mk (UT.int IntKind.i64) 1 8 [AV.int IntKind.i64 0] false),
  (4, TI.mk UT.bool 1 1 [AV.bool false] false),
  (5, TI.mk (UT.int IntKind.u8) 1 1 [AV.int IntKind.u8 0] false),
  (6, TI.mk (UT.int IntKind.u8) 1 1 [AV.int IntKind.u8 0] false),
  (7, TI.mk (UT.struct [(0, 2), (1, 3), (2, 4), (3, 6)]) 4 24 [AV.int IntKind.i64 0, AV.int IntKind.i64 0, AV.bool false, AV.int IntKind.u8 0] true),
  (8, TI.mk (UT.struct [(0, 2), (1, 3), (2, 4), (3, 6)]) 4 24 [AV.int IntKind.i64 0, AV.int IntKind.i64 0, AV.bool false, AV.int IntKind.u8 0] true),
  (9, TI.mk UT.str 1 16 [AV.str []] false),
  (10, TI.mk UT.str 1 16 [AV.str []] false),
  (11, TI.mk UT.str 1 16 [AV.str []] false),
  (12, TI.mk (UT.int IntKind.u64) 1 8 [AV.int IntKind.u64 0] false),
  (13, TI.mk (UT.struct [(0, 9), (1, 12)]) 2 24 [AV.str [], AV.int IntKind.u64 0] false),
  (14, TI.mk (UT.struct [(0, 9), (1, 12)]) 2 24 [AV.str [], AV.int IntKind.u64 0] false),
  (18, TI.mk (UT.struct [(0, 17)]) 1 8 [AV.nilp] false),
  (19, TI.mk (UT.struct [(0, 17)]) 1 8 [AV.nilp] false),
  (21, TI.mk (UT.int IntKind.i32) 1 4 [AV.int IntKind.i32 0] false),
  (22, TI.mk (UT.slice 3) 1 24 [AV.emp] false),
  (23, TI.mk (UT.struct [(0, 3), (1, 3), (2, 9), (3, 22), (4, 4)]) 5 64 [AV.int IntKind.i64 0, AV.int IntKind.i64 0, AV.str [], AV.emp, AV.bool false] true),
  (24, TI.mk (UT.struct [(0, 3), (1, 3), (2, 9), (3, 22), (4, 4)]) 5 64 [AV.int IntKind.i64 0, AV.int IntKind.i64 0, AV.str [], AV.emp, AV.bool false] true),
  (28, TI.mk (UT.struct [(0, 3), (1, 3), (2, 9), (3, 22), (4, 4)]) 5 64 [AV.int IntKind.i64 0, AV.int IntKind.i64 0, AV.str [], AV.emp, AV.bool false] true),
  (32, TI.mk (UT.slice 4) 1 24 [AV.emp] false),
  (33, TI.mk (UT.slice 137) 1 24 [AV.emp] false),
  (34, TI.mk (UT.struct [(0, 32), (1, 22), (2, 22), (3, 3), (4, 33)]) 5 104 [AV.emp, AV.emp, AV.emp, AV.int IntKind.i64 0, AV.emp] true),
  (35, TI.mk (UT.struct [(0, 32), (1, 22), (2, 22), (3, 3), (4, 33)]) 5 104 [AV.emp, AV.emp, AV.emp, AV.int IntKind.i64 0, AV.emp] true),
  (37, TI.mk (UT.slice 9) 1 24 [AV.emp] false),
  (40, TI.mk (UT.slice 135) 1 24 [AV.emp] false),
  (41, TI.mk (UT.struct [(0, 32), (1, 22), (2, 22), (3, 3), (4, 40)]) 5 104 [AV.emp, AV.emp, AV.emp, AV.int IntKind.i64 0, AV.emp] true),
  (42, TI.mk (UT.struct [(0, 32), (1, 22), (2, 22), (3, 3), (4, 40)]) 5 104 [AV.emp, AV.emp, AV.emp, AV.int IntKind.i64 0, AV.emp] true),
  (49, TI.mk (UT.slice 108) 1 24 [AV.emp] false),
  (50, TI.mk (UT.struct [(0, 3), (1, 3)]) 2 16 [AV.int IntKind.i64 0, AV.int IntKind.i64 0] true),
  (51, TI.mk (UT.struct [(0, 3), (1, 3)]) 2 16 [AV.int IntKind.i64 0, AV.int IntKind.i64 0] true),
  (54, TI.mk (UT.slice 112) 1 24 [AV.emp] false),
  (56, TI.mk (UT.struct [(0, 3), (1, 3)]) 2 16 [AV.int IntKind.i64 0, AV.int IntKind.i64 0] true),
  (60, TI.mk (UT.struct [(0, 3), (1, 3), (2, 9)]) 3 32 [AV.int IntKind.i64 0, AV.int IntKind.i64 0, AV.str []] true),
  (61, TI.mk (UT.struct [(0, 3), (1, 3), (2, 9)]) 3 32 [AV.int IntKind.i64 0, AV.int IntKind.i64 0, AV.str []] true),
  (66, TI.mk (UT.struct [(0, 22), (1, 22), (2, 22), (3, 3), (4, 3), (5, 9)]) 6 104 [AV.emp, AV.emp, AV.emp, AV.int IntKind.i64 0, AV.int IntKind.i64 0, AV.str []] true),
  (67, TI.mk (UT.struct [(0, 22), (1, 22), (2, 22), (3, 3), (4, 3), (5, 9)]) 6 104 [AV.emp, AV.emp, AV.emp, AV.int IntKind.i64 0, AV.int IntKind.i64 0, AV.str []] true),
  (68, TI.mk (UT.slice 179) 1 24 [AV.emp] false),
  (69, TI.mk (UT.struct [(0, 54), (1, 22), (2, 67), (8, 42), (13, 68), (14, 3), (15, 3)]) 16 296 [AV.emp, AV.emp, AV.emp, AV.emp, AV.emp, AV.int IntKind.i64 0, AV.int IntKind.i64 0, AV.str [], AV.emp, AV.emp, AV.emp, AV.int IntKind.i64 0, AV.emp, AV.emp, AV.int IntKind.i64 0, AV.int IntKind.i64 0] false),
  (70, TI.mk (UT.struct [(0, 54), (1, 22), (2, 67), (8, 42), (13, 68), (14, 3), (15, 3)]) 16 296 [AV.emp, AV.emp, AV.emp, AV.emp, AV.emp, AV.int IntKind.i64 0, AV.int IntKind.i64 0, AV.str [], AV.emp, AV.emp, AV.emp, AV.int IntKind.i64 0, AV.emp, AV.emp, AV.int IntKind.i64 0, AV.int IntKind.i64 0] false),
  (71, TI.mk (UT.slice 157) 1 24 [AV.emp] false),
  (72, TI.mk (UT.slice 56) 1 24 [AV.emp] false),
  (73, TI.mk (UT.struct [(0, 70), (16, 71), (17, 4), (18, 9), (19, 72)]) 20 368 [AV.emp, AV.emp, AV.emp, AV.emp, AV.emp, AV.int IntKind.i64 0, AV.int IntKind.i64 0, AV.str [], AV.emp, AV.emp, AV.emp, AV.int IntKind.i64 0, AV.emp, AV.emp, AV.int IntKind.i64 0, AV.int IntKind.i64 0, AV.emp, AV.bool false, AV.str [], AV.emp] false),
  (74, TI.mk (UT.struct [(0, 70), (16, 71), (17, 4), (18, 9), (19, 72)]) 20 368 [AV.emp, AV.emp, AV.emp, AV.emp, AV.emp, AV.int IntKind.i64 0, AV.int IntKind.i64 0, AV.str [], AV.emp, AV.emp, AV.emp, AV.int IntKind.i64 0, AV.emp, AV.emp, AV.int IntKind.i64 0, AV.int IntKind.i64 0, AV.emp, AV.bool false, AV.str [], AV.emp] false),
  (79, TI.mk (UT.slice 5) 1 24 [AV.emp] false),
  (93, TI.mk (UT.int IntKind.u64) 1 8 [AV.int IntKind.u64 0] false),
  (107, TI.mk (UT.struct [(0, 9), (1, 3), (2, 3)]) 3 32 [AV.str [], AV.int IntKind.i64 0, AV.int IntKind.i64 0] true),
  (108, TI.mk (UT.struct [(0, 9), (1, 3), (2, 3)]) 3 32 [AV.str [], AV.int IntKind.i64 0, AV.int IntKind.i64 0] true),
  (112, TI.mk (UT.struct [(0, 9), (1, 3), (2, 3)]) 3 32 [AV.str [], AV.int IntKind.i64 0, AV.int IntKind.i64 0] true),
  (134, TI.mk (UT.struct [(0, 3), (1, 3), (2, 3), (3, 3)]) 4 32 [AV.int IntKind.i64 0, AV.int IntKind.i64 0, AV.int IntKind.i64 0, AV.int IntKind.i64 0] true),
  (135, TI.mk (UT.struct [(0, 3), (1, 3), (2, 3), (3, 3)]) 4 32 [AV.int IntKind.i64 0, AV.int IntKind.i64 0, AV.int IntKind.i64 0, AV.int IntKind.i64 0] true),
  (137, TI.mk (UT.struct [(0, 3), (1, 3), (2, 3), (3, 3)]) 4 32 [AV.int IntKind.i64 0, AV.int IntKind.i64 0, AV.int IntKind.i64 0, AV.int IntKind.i64 0] true),
  (141, TI.mk (UT.slice 54) 1 24 [AV.emp] false),
  (156, TI.mk (UT.struct [(0, 3), (1, 72)]) 2 32 [AV.int IntKind.i64 0, AV.emp] true),
  (157, TI.mk (UT.struct [(0, 3), (1, 72)]) 2 32 [AV.int IntKind.i64 0, AV.emp] true),
  (162, TI.mk (UT.struct [(0, 79), (1, 3), (2, 3)]) 3 40 [AV.emp, AV.int IntKind.i64 0, AV.int IntKind.i64 0] true),
  (163, TI.mk (UT.struct [(0, 79), (1, 3), (2, 3)]) 3 40 [AV.emp, AV.int IntKind.i64 0, AV.int IntKind.i64 0] true),
  (178, TI.mk (UT.struct [(0, 3), (1, 3), (2, 3), (3, 4)]) 4 32 [AV.int IntKind.i64 0, AV.int IntKind.i64 0, AV.int IntKind.i64 0, AV.bool false] true),
  (179, TI.mk (UT.struct [(0, 3), (1, 3), (2, 3), (3, 4)]) 4 32 [AV.int IntKind.i64 0, AV.int IntKind.i64 0, AV.int IntKind.i64 0, AV.bool false] true),
  (181, TI.mk (UT.slice 37) 1 24 [AV.emp] false),
  (186, TI.mk (UT.array 256 5) 256 256 [AV.int IntKind.u8 0, AV.int IntKind.u8 0, AV.int IntKind.u8 0, AV.int IntKind.u8 0, AV.int IntKind.u8 0, AV.int IntKind.u8 0, AV.int IntKind.u8 0, AV.int IntKind.u8 0, AV.int IntKind.u8 0, AV.int IntKind.u8 0, AV.int IntKind.u8 0, AV.int IntKind.u8 0, AV.int IntKind.u8 0, AV.int IntKind.u8 0, AV.int IntKind.u8 0, AV.int IntKind.u8 0, AV.int IntKind.u8 0, AV.int IntKind.u8 0, AV.int IntKind.u8 0, AV.int IntKind.u8 0, AV.int IntKind.u8 0, AV.int IntKind.u8 0, AV.int IntKind.u8 0, AV.int IntKind.u8 0, AV.int IntKind.u8 0, AV.int IntKind.u8 0, AV.int IntKind.u8 0, AV.int IntKind.u8 0, AV.int IntKind.u8 0, AV.int IntKind.u8 0, AV.int IntKind.u8 0, AV.int IntKind.u8 0, AV.int IntKind.u8 0, AV.int IntKind.u8 0, AV.int IntKind.u8 0, AV.int IntKind.u8 0, AV.int IntKind.u8 0, AV.int IntKind.u8 0, AV.int IntKind.u8 0, AV.int IntKind.u8 0, AV.int IntKind.u8 0, AV.int IntKind.u8 0, AV.int IntKind.u8 0, AV.int IntKind.u8 0, AV.int IntKind.u8 0, AV.int IntKind.u8 0, AV.int IntKind.u8 0, AV.int IntKind.u8 0, AV.int IntKind.u8 0, AV.int IntKind.u8 0, AV.int IntKind.u8 0, AV.int IntKind.u8 0, AV.int IntKind.u8 0, AV.int IntKind.u8 0, AV.int IntKind.u8 0, AV.int IntKind.u8 0, AV.int IntKind.u8 0, AV.int IntKind.u8 0, AV.int IntKind.u8 0, AV.int IntKind.u8 0, AV.int IntKind.u8 0, AV.int IntKind.u8 0, AV.int IntKind.u8 0, AV.int IntKind.u8 0, AV.int IntKind.u8 0, AV.int IntKind.u8 0, AV.int IntKind.u8 0, AV.int IntKind.u8 0, AV.int IntKind.u8 0, AV.int IntKind.u8 0, AV.int IntKind.u8 0, AV.int IntKind.u8 0, AV.int IntKind.u8 0, AV.int IntKind.u8 0, AV.int IntKind.u8 0, AV.int IntKind.u8 0, AV.int IntKind.u8 0, AV.int IntKind.u8 0, AV.int IntKind.u8 0, AV.int IntKind.u8 0, AV.int IntKind.u8 0, AV.int IntKind.u8 0, AV.int IntKind.u8 0, AV.int IntKind.u8 0, AV.int IntKind.u8 0, AV.int IntKind.u8 0, AV.int IntKind.u8 0, AV.int IntKind.u8 0, AV.int IntKind.u8 0, AV.int IntKind.u8 0, AV.int IntKind.u8 0, AV.int IntKind.u8 0, AV.int IntKind.u8 0, AV.int IntKind.u8 0, AV.int IntKind.u8 0, AV.int IntKind.u8 0, AV.int IntKind.u8 0, AV.int IntKind.u8 0, AV.int IntKind.u8 0, AV.int IntKind.u8 0, AV.int IntKind.u8 0, AV.int IntKind.u8 0, AV.int IntKind.u8 0, AV.int IntKind.u8 0, AV.int IntKind.u8 0, AV.int IntKind.u8 0, AV.int IntKind.u8 0, AV.int IntKind.u8 0, AV.int IntKind.u8 0, AV.int IntKind.u8 0, AV.int IntKind.u8 0, AV.int IntKind.u8 0, AV.int IntKind.u8 0, AV.int IntKind.u8 0, AV.int IntKind.u8 0, AV.int IntKind.u8 0, AV.int IntKind.u8 0, AV.int IntKind.u8 0, AV.int IntKind.u8 0, AV.int IntKind.u8 0, AV.int IntKind.u8 0, AV.int IntKind.u8 0, AV.int IntKind.u8 0, AV.int IntKind.u8 0, AV.int IntKind.u8 0, AV.int IntKind.u8 0, AV.int IntKind.u8 0, AV.int IntKind.u8 0, AV.int IntKind.u8 0, AV.int IntKind.u8 0, AV.int IntKind.u8 0, AV.int IntKind.u8 0, AV.int IntKind.u8 0, AV.int IntKind.u8 0, AV.int IntKind.u8 0, AV.int IntKind.u8 0, AV.int IntKind.u8 0, AV.int IntKind.u8 0, AV.int IntKind.u8 0, AV.int IntKind.u8 0, AV.int IntKind.u8 0, AV.int IntKind.u8 0, AV.int IntKind.u8 0, AV.int IntKind.u8 0, AV.int IntKind.u8 0, AV.int IntKind.u8 0, AV.int IntKind.u8 0, AV.int IntKind.u8 0, AV.int IntKind.u8 0, AV.int IntKind.u8 0, AV.int IntKind.u8 0, AV.int IntKind.u8 0, AV.int IntKind.u8 0, AV.int IntKind.u8 0, AV.int IntKind.u8 0, AV.int IntKind.u8 0, AV.int IntKind.u8 0, AV.int IntKind.u8 0, AV.int IntKind.u8 0, AV.int IntKind.u8 0, AV.int IntKind.u8 0, AV.int IntKind.u8 0, AV.int IntKind.u8 0, AV.int IntKind.u8 0, AV.int IntKind.u8 0, AV.int IntKind.u8 0, AV.int IntKind.u8 0, AV.int IntKind.u8 0, AV.int IntKind.u8 0, AV.int IntKind.u8 0, AV.int IntKind.u8 0, AV.int IntKind.u8 0, AV.int IntKind.u8 0, AV.int IntKind.u8 0, AV.int IntKind.u8 0, AV.int IntKind.u8 0, AV.int IntKind.u8 0, AV.int IntKind.u8 0, AV.int IntKind.u8 0, AV.int IntKind.u8 0, AV.int IntKind.u8 0, AV.int IntKind.u8 0, AV.int IntKind.u8 0, AV.int IntKind.u8 0, AV.int IntKind.u8 0, AV.int IntKind.u8 0, AV.int IntKind.u8 0, AV.int IntKind.u8 0, AV.int IntKind.u8 0, AV.int IntKind.u8 0, AV.int IntKind.u8 0, AV.int IntKind.u8 0, AV.int IntKind.u8 0, AV.int IntKind.u8 0, AV.int IntKind.u8 0, AV.int IntKind.u8 0, AV.int IntKind.u8 0, AV.int IntKind.u8 0, AV.int IntKind.u8 0, AV.int IntKind.u8 0, AV.int IntKind.u8 0, AV.int IntKind.u8 0, AV.int IntKind.u8 0, AV.int IntKind.u8 0, AV.int IntKind.u8 0, AV.int IntKind.u8 0, AV.int IntKind.u8 0, AV.int IntKind.u8 0, AV.int IntKind.u8 0, AV.int IntKind.u8 0, AV.int IntKind.u8 0, AV.int IntKind.u8 0, AV.int IntKind.u8 0, AV.int IntKind.u8 0, AV.int IntKind.u8 0, AV.int IntKind.u8 0, AV.int IntKind.u8 0, AV.int IntKind.u8 0, AV.int IntKind.u8 0, AV.int IntKind.u8 0, AV.int IntKind.u8 0, AV.int IntKind.u8 0, AV.int IntKind.u8 0, AV.int IntKind.u8 0, AV.int IntKind.u8 0, AV.int IntKind.u8 0, AV.int IntKind.u8 0, AV.int IntKind.u8 0, AV.int IntKind.u8 0, AV.int IntKind.u8 0, AV.int IntKind.u8 0, AV.int IntKind.u8 0, AV.int IntKind.u8 0, AV.int IntKind.u8 0, AV.int IntKind.u8 0, AV.int IntKind.u8 0, AV.int IntKind.u8 0, AV.int IntKind.u8 0, AV.int IntKind.u8 0, AV.int IntKind.u8 0, AV.int IntKind.u8 0, AV.int IntKind.u8 0, AV.int IntKind.u8 0, AV.int IntKind.u8 0, AV.int IntKind.u8 0, AV.int IntKind.u8 0, AV.int IntKind.u8 0, AV.int IntKind.u8 0, AV.int IntKind.u8 0, AV.int IntKind.u8 0, AV.int IntKind.u8 0, AV.int IntKind.u8 0, AV.int IntKind.u8 0, AV.int IntKind.u8 0, AV.int IntKind.u8 0, AV.int IntKind.u8 0] false),
  (189, TI.mk (UT.int IntKind.u32) 1 4 [AV.int IntKind.u32 0] false),
  (190, TI.mk (UT.int IntKind.u64) 1 8 [AV.int IntKind.u64 0] false),
  (191, TI.mk (UT.array 24 5) 24 24 [AV.int IntKind.u8 0, AV.int IntKind.u8 0, AV.int IntKind.u8 0, AV.int IntKind.u8 0, AV.int IntKind.u8 0, AV.int IntKind.u8 0, AV.int IntKind.u8 0, AV.int IntKind.u8 0, AV.int IntKind.u8 0, AV.int IntKind.u8 0, AV.int IntKind.u8 0, AV.int IntKind.u8 0, AV.int IntKind.u8 0, AV.int IntKind.u8 0, AV.int IntKind.u8 0, AV.int IntKind.u8 0, AV.int IntKind.u8 0, AV.int IntKind.u8 0, AV.int IntKind.u8 0, AV.int IntKind.u8 0, AV.int IntKind.u8 0, AV.int IntKind.u8 0, AV.int IntKind.u8 0, AV.int IntKind.u8 0] false),
  (198, TI.mk (UT.int IntKind.i64) 1 8 [AV.int IntKind.i64 0] false),
  (204, TI.mk (UT.slice 206) 1 24 [AV.emp] false),
  (205, TI.mk (UT.struct [(0, 3), (1, 3)]) 2 16 [AV.int IntKind.i64 0, AV.int IntKind.i64 0] true),
  (206, TI.mk (UT.struct [(0, 3), (1, 3)]) 2 16 [AV.int IntKind.i64 0, AV.int IntKind.i64 0] true),
  (210, TI.mk (UT.array 20 190) 20 160 [AV.int IntKind.u64 0, AV.int IntKind.u64 0, AV.int IntKind.u64 0, AV.int IntKind.u64 0, AV.int IntKind.u64 0, AV.int IntKind.u64 0, AV.int IntKind.u64 0, AV.int IntKind.u64 0, AV.int IntKind.u64 0, AV.int IntKind.u64 0, AV.int IntKind.u64 0, AV.int IntKind.u64 0, AV.int IntKind.u64 0, AV.int IntKind.u64 0, AV.int IntKind.u64 0, AV.int IntKind.u64 0, AV.int IntKind.u64 0, AV.int IntKind.u64 0, AV.int IntKind.u64 0, AV.int IntKind.u64 0] false),
  (211, TI.mk (UT.array 65 5) 65 65 [AV.int IntKind.u8 0, AV.int IntKind.u8 0, AV.int IntKind.u8 0, AV.int IntKind.u8 0, AV.int IntKind.u8 0, AV.int IntKind.u8 0, AV.int IntKind.u8 0, AV.int IntKind.u8 0, AV.int IntKind.u8 0, AV.int IntKind.u8 0, AV.int IntKind.u8 0, AV.int IntKind.u8 0, AV.int IntKind.u8 0, AV.int IntKind.u8 0, AV.int IntKind.u8 0, AV.int IntKind.u8 0, AV.int IntKind.u8 0, AV.int IntKind.u8 0, AV.int IntKind.u8 0, AV.int IntKind.u8 0, AV.int IntKind.u8 0, AV.int IntKind.u8 0, AV.int IntKind.u8 0, AV.int IntKind.u8 0, AV.int IntKind.u8 0, AV.int IntKind.u8 0, AV.int IntKind.u8 0, AV.int IntKind.u8 0, AV.int IntKind.u8 0, AV.int IntKind.u8 0, AV.int IntKind.u8 0, AV.int IntKind.u8 0, AV.int IntKind.u8 0, AV.int IntKind.u8 0, AV.int IntKind.u8 0, AV.int IntKind.u8 0, AV.int IntKind.u8 0, AV.int IntKind.u8 0, AV.int IntKind.u8 0, AV.int IntKind.u8 0, AV.int IntKind.u8 0, AV.int IntKind.u8 0, AV.int IntKind.u8 0, AV.int IntKind.u8 0, AV.int IntKind.u8 0, AV.int IntKind.u8 0, AV.int IntKind.u8 0, AV.int IntKind.u8 0, AV.int IntKind.u8 0, AV.int IntKind.u8 0, AV.int IntKind.u8 0, AV.int IntKind.u8 0, AV.int IntKind.u8 0, AV.int IntKind.u8 0, AV.int IntKind.u8 0, AV.int IntKind.u8 0, AV.int IntKind.u8 0, AV.int IntKind.u8 0, AV.int IntKind.u8 0, AV.int IntKind.u8 0, AV.int IntKind.u8 0, AV.int IntKind.u8 0, AV.int IntKind.u8 0, AV.int IntKind.u8 0, AV.int IntKind.u8 0] false),
  (219, TI.mk (UT.struct [(0, 9), (1, 9), (2, 173)]) 3 48 [AV.str [], AV.str [], AV.undef] false),
  (220, TI.mk (UT.struct [(0, 9), (1, 9), (2, 173)]) 3 48 [AV.str [], AV.str [], AV.undef] false),
  (222, TI.mk (UT.slice 228) 1 24 [AV.emp] false),
  (223, TI.mk (UT.slice 231) 1 24 [AV.emp] false),
  (224, TI.mk (UT.struct [(0, 222), (1, 223), (2, 3)]) 3 56 [AV.emp, AV.emp, AV.int IntKind.i64 0] true),
  (225, TI.mk (UT.struct [(0, 222), (1, 223), (2, 3)]) 3 56 [AV.emp, AV.emp, AV.int IntKind.i64 0] true),
  (226, TI.mk (UT.int IntKind.u16) 1 2 [AV.int IntKind.u16 0] false),
  (227, TI.mk (UT.struct [(0, 226), (1, 226), (2, 226)]) 3 6 [AV.int IntKind.u16 0, AV.int IntKind.u16 0, AV.int IntKind.u16 0] true),
  (228, TI.mk (UT.struct [(0, 226), (1, 226), (2, 226)]) 3 6 [AV.int IntKind.u16 0, AV.int IntKind.u16 0, AV.int IntKind.u16 0] true),
  (230, TI.mk (UT.struct [(0, 189), (1, 189), (2, 189)]) 3 12 [AV.int IntKind.u32 0, AV.int IntKind.u32 0, AV.int IntKind.u32 0] true),
  (231, TI.mk (UT.struct [(0, 189), (1, 189), (2, 189)]) 3 12 [AV.int IntKind.u32 0, AV.int IntKind.u32 0, AV.int IntKind.u32 0] true)]
theorem T_ok : T.ok Tryd.prog := TT.ok_cons (by kernel_rfl) <| TT.ok_cons (by kernel_rfl) <| TT.ok_cons (by kernel_rfl) <| TT.ok_cons (by kernel_rfl) <| TT.ok_cons (by kernel_rfl) <| TT.ok_cons (by kernel_rfl) <| TT.ok_cons (by kernel_rfl) <| TT.ok_cons (by kernel_rfl) <| TT.ok_cons (by kernel_rfl) <| TT.ok_cons (by kernel_rfl) <| TT.ok_cons (by kernel_rfl) <| TT.ok_cons (by kernel_rfl) <| TT.ok_cons (by kernel_rfl) <| TT.ok_cons (by kernel_rfl) <| TT.ok_cons (by kernel_rfl) <| TT.ok_cons (by kernel_rfl) <| TT.ok_cons (by kernel_rfl) <| TT.ok_cons (by kernel_rfl) <| TT.ok_cons (by kernel_rfl) <| TT.ok_cons (by kernel_rfl) <| TT.ok_cons (by kernel_rfl) <| TT.ok_cons (by kernel_rfl) <| TT.ok_cons (by kernel_rfl) <| TT.ok_cons (by kernel_rfl) <| TT.ok_cons (by kernel_rfl) <| TT.ok_cons (by kernel_rfl) <| TT.ok_cons (by kernel_rfl) <| TT.ok_cons (by kernel_rfl) <| TT.ok_cons (by kernel_rfl) <| TT.ok_cons (by kernel_rfl) <| TT.ok_cons (by kernel_rfl) <| TT.ok_cons (by kernel_rfl) <| TT.ok_cons (by kernel_rfl) <| TT.ok_cons (by kernel_rfl) <| TT.ok_cons (by kernel_rfl) <| TT.ok_cons (by kernel_rfl) <| TT.ok_cons (by kernel_rfl) <| TT.ok_cons (by kernel_rfl) <| TT.ok_cons (by kernel_rfl) <| TT.ok_cons (by kernel_rfl) <| TT.ok_cons (by kernel_rfl) <| TT.ok_cons (by kernel_rfl) <| TT.ok_cons (by kernel_rfl) <| TT.ok_cons (by kernel_rfl) <| TT.ok_cons (by kernel_rfl) <| TT.ok_cons (by kernel_rfl) <| TT.ok_cons (by kernel_rfl) <| TT.ok_cons (by kernel_rfl) <| TT.ok_cons (by kernel_rfl) <| TT.ok_cons (by kernel_rfl) <| TT.ok_cons (by kernel_rfl) <| TT.ok_cons (by kernel_rfl) <| TT.ok_cons (by kernel_rfl) <| TT.ok_cons (by kernel_rfl) <| TT.ok_cons (by kernel_rfl) <| TT.ok_cons (by kernel_rfl) <| TT.ok_cons (by kernel_rfl) <| TT.ok_cons (by kernel_rfl) <| TT.ok_cons (by kernel_rfl) <| TT.ok_cons (by kernel_rfl) <| TT.ok_cons (by kernel_rfl) <| TT.ok_cons (by kernel_rfl) <| TT.ok_cons (by kernel_rfl) <| TT.ok_cons (by kernel_rfl) <| TT.ok_cons (by kernel_rfl) <| TT.ok_cons (by kernel_rfl) <| TT.ok_cons (by kernel_rfl) <| TT.ok_cons (by kernel_rfl) <| TT.ok_cons (by kernel_rfl) <| TT.ok_cons (by kernel_rfl) <| TT.ok_cons (by kernel_rfl) <| TT.ok_cons (by kernel_rfl) <| TT.ok_cons (by kernel_rfl) <| TT.ok_cons (by kernel_rfl) <| TT.ok_cons (by kernel_rfl) <| TT.ok_cons (by kernel_rfl) <| TT.ok_cons (by kernel_rfl) <| TT.ok_cons (by kernel_rfl) <| TT.ok_cons (by kernel_rfl) <| TT.ok_cons (by kernel_rfl) <| TT.ok_cons (by kernel_rfl) <| TT.ok_nil

theorem mix : Tryd.prog.follows .mixedOrders = true := by kernel_rfl

theorem c66 (k : Int) (h1 : 0 ≤ k) (h2 : k ≤ 2000000000) : Con Tryd.prog 66 [.int .i64 k] (undefs [.int .i64 k]) (.str (mksS k)) := by
  by_cases h0 : k = 0
  · subst h0
    refine Con.ev 20 T_ok mix Tryd.func66 rfl rfl rfl rfl [.tmp 2] rfl ?_
    conv => whnf
    (refine br_t rfl ?_; conv => whnf)
    (refine rq_s (by (rfl)) ?_; conv => whnf)
    (refine sh_s ?_; (exact congrArg AV.str (by decide +kernel)))
  · refine Con.ev 20 T_ok mix Tryd.func66 rfl rfl rfl rfl [.tmp 2] rfl ?_
    conv => whnf
    (refine br_s (fun hb => ?_) (fun hb => ?_) <;> (try simp only [beq_iff_eq, bne_iff_ne, ne_eq, decide_eq_true_eq, decide_eq_false_iff_not, Int.not_lt, Int.not_le, Bool.false_eq_true, if_false, if_true, beq_eq_false_iff_ne, bne_eq_false_iff_eq, Bool.not_eq_true', Bool.not_eq_false', Int.ofNat_lt, Int.ofNat_le, Int.ofNat_inj, List.length_map, List.length_nil, List.length_cons] at hb) <;> conv => whnf)
    (refine rq_s (by (rfl)) ?_; conv => whnf)
    iterate 2 (rotate_left)
    · omega
    · refine LoopG.auto (α := Nat × List UInt8) T_ok mix [0, 3] (fun a => [(0, .int .i64 a.1), (3, .str a.2)]) (fun _ => []) (fun a => DecInv k.toNat a.1 a.2) (fun a => a.1) ?_ ?_
      · conv => whnf
        (refine ChkS.mk (by kernel_rfl) ?_; conv => whnf)
        rotate_left
        have hl := dec_len k.toNat (by omega)
        exact head_s (k.toNat, []) ⟨Nat.le_refl _, by simp; omega, .inr ⟨by omega, by simp⟩⟩ (by simp only [Int.toNat_of_nonneg h1]) rfl
      · rintro ⟨u, s⟩ hI _ _
        simp only at hI ⊢
        have hu := hI.1
        have hs := hI.2.1
        by_cases hz : u = 0
        · subst hz
          obtain ⟨_, rfl⟩ | ⟨hq, _⟩ := hI.2.2
          · conv => whnf
            (refine br_f rfl ?_; conv => whnf)
            (refine rq_s (by (((simp [maxStr]; omega)))) ?_; conv => whnf)
            (refine rq_s (by (rfl)) ?_; conv => whnf)
            rotate_left
            exact sh_s rfl
          · omega
        · have hp : decide ((u : Int) > 0) = true := by simp; omega
          conv => whnf
          (refine br_t (by assumption) ?_; conv => whnf)
          iterate 2 (refine rq_s (by (rfl)) ?_; conv => whnf)
          (refine rq_s (by ((simp only [decide_eq_true_eq]; done))) ?_; conv => whnf)
          (refine rq_s (by (rfl)) ?_; conv => whnf)
          (refine byt_s rfl ?_; conv => whnf)
          (refine rq_s (by (((simp [maxStr]; omega)))) ?_; conv => whnf)
          (refine rq_s (by (rfl)) ?_; conv => whnf)
          (refine ChkS.mk (by kernel_rfl) ?_; conv => whnf)
          rotate_left
          refine head_s (u / 10, _) ⟨hI.next (by omega) (by omega), by simp only; omega⟩ ?_ rfl
          rw [quo10 u (by omega), rem10, Go.Abs.byteOf (by omega)]






theorem c71 (x : Wd) : Con Tryd.prog 71 [wdV x] (undefs [wdV x]) (wdV x) := by
  refine Con.ev 14 T_ok mix Tryd.func71 rfl rfl rfl rfl [.cell 2 112] rfl ?_
  conv => whnf
  iterate 11 (refine rq_s (by (rfl)) ?_; conv => whnf)
  (refine sh_s ?_; (rfl))
theorem c76 (a b : Wd) : Con Tryd.prog 76 [wdV a, wdV b] (undefs [wdV a, wdV b]) (.bool (decide (a = b))) := by
  refine Con.ev 20 T_ok mix Tryd.func76 rfl rfl rfl rfl [.tmp 4] rfl ?_
  conv => whnf
  iterate 4 (refine rq_s (by (rfl)) ?_; conv => whnf)
  (refine br_s (fun hb => ?_) (fun hb => ?_) <;> (try simp only [beq_iff_eq, bne_iff_ne, ne_eq, decide_eq_true_eq, decide_eq_false_iff_not, Int.not_lt, Int.not_le, Bool.false_eq_true, if_false, if_true, beq_eq_false_iff_ne, bne_eq_false_iff_eq, Bool.not_eq_true', Bool.not_eq_false', Int.ofNat_lt, Int.ofNat_le, Int.ofNat_inj, List.length_map, List.length_nil, List.length_cons] at hb) <;> conv => whnf)
  (refine rq_s (by (rfl)) ?_; conv => whnf)
  (refine sh_s ?_; ((cases a; cases b; simp_all)))
  iterate 2 (refine rq_s (by (rfl)) ?_; conv => whnf)
  (refine br_s (fun hb => ?_) (fun hb => ?_) <;> (try simp only [beq_iff_eq, bne_iff_ne, ne_eq, decide_eq_true_eq, decide_eq_false_iff_not, Int.not_lt, Int.not_le, Bool.false_eq_true, if_false, if_true, beq_eq_false_iff_ne, bne_eq_false_iff_eq, Bool.not_eq_true', Bool.not_eq_false', Int.ofNat_lt, Int.ofNat_le, Int.ofNat_inj, List.length_map, List.length_nil, List.length_cons] at hb) <;> conv => whnf)
  (refine rq_s (by (rfl)) ?_; conv => whnf)
  (refine sh_s ?_; ((cases a; cases b; simp_all)))
  iterate 2 (refine rq_s (by (rfl)) ?_; conv => whnf)
  (refine br_s (fun hb => ?_) (fun hb => ?_) <;> (try simp only [beq_iff_eq, bne_iff_ne, ne_eq, decide_eq_true_eq, decide_eq_false_iff_not, Int.not_lt, Int.not_le, Bool.false_eq_true, if_false, if_true, beq_eq_false_iff_ne, bne_eq_false_iff_eq, Bool.not_eq_true', Bool.not_eq_false', Int.ofNat_lt, Int.ofNat_le, Int.ofNat_inj, List.length_map, List.length_nil, List.length_cons] at hb) <;> conv => whnf)
  (refine rq_s (by (rfl)) ?_; conv => whnf)
  (refine sh_s ?_; ((cases a; cases b; simp_all)))
  (refine rq_s (by (rfl)) ?_; conv => whnf)
  (refine sh_s ?_; ((cases a; cases b; simp_all)))
theorem c25 (rs : List Wd) (h : rs.length ≤ 1048576) : Con Tryd.prog 25 [roW rs] (undefs [roW rs]) (.own 0 zW (rs.map wdR)) := by
  refine Con.ev 23 T_ok mix Tryd.func25 rfl rfl rfl rfl [.tmp 2] rfl ?_
  conv => whnf
  iterate 2 (refine rq_s (by (rfl)) ?_; conv => whnf)
  (refine rq_s (by (((simp [maxBytes, AV.plain]; omega)))) ?_; conv => whnf)
  rotate_left
  refine LoopG.rounds (α := Nat) T_ok mix [0, 3, 4] [(7, 7)] (fun i => [(0, roW rs), (3, .ref 7 0 rs.length), (4, .int .i64 i)]) (fun i => [(7, .live ⟨true, 0, zW, cpyR wdR zW rs i⟩)]) (fun i => i ≤ rs.length) (fun i => rs.length - i) ?_ ?_
  · conv => whnf
    exact head_s 0 (by simp) (by simp [roW]) (by simp [cpyR_zero, List.length_map])
  · intro i h1 _ _
    conv => whnf
    (refine br_s (fun hb => ?_) (fun hb => ?_) <;> (try simp only [beq_iff_eq, bne_iff_ne, ne_eq, decide_eq_true_eq, decide_eq_false_iff_not, Int.not_lt, Int.not_le, Bool.false_eq_true, if_false, if_true, beq_eq_false_iff_ne, bne_eq_false_iff_eq, Bool.not_eq_true', Bool.not_eq_false', Int.ofNat_lt, Int.ofNat_le, Int.ofNat_inj, List.length_map, List.length_nil, List.length_cons] at hb) <;> conv => whnf)
    (refine rq_s (by (rfl)) ?_; conv => whnf)
    (refine rq_s (by ((refine and_s rfl ?_; simp only [decide_eq_true_eq, List.length_map]; omega))) ?_; conv => whnf)
    (refine row_s (by ((try simp only [Int.toNat_natCast]); exact row_map wdR _ _ _ default (by first | omega | (simp; omega)))) ?_; conv => whnf)
    iterate 3 (refine rq_s (by (rfl)) ?_; conv => whnf)
    (refine lend_s ?_; conv => whnf)
    rotate_left
    (refine rq_s (by ((simp only [decide_eq_true_eq, List.length_map, mkS_len]; done))) ?_; conv => whnf)
    (refine rq_s (by (rfl)) ?_; conv => whnf)
    (refine rows_s (by (rfl)) ?_; conv => whnf)
    rotate_left
    · have hi : i < rs.length := hb
      (refine call_s (c71 ..) ?_; conv => whnf)
      (refine rq_s (by (rfl)) ?_; conv => whnf)
      (refine rq_s (by ((simp only [decide_eq_true_eq, List.length_map, mkS_len]; done))) ?_; conv => whnf)
      (refine rq_s (by ((refine and_s rfl ?_; simp only [decide_eq_true_eq, List.length_map]; omega))) ?_; conv => whnf)
      (refine rows_s (by (rfl)) ?_; conv => whnf)
      iterate 3 (refine fac_s (fun hf => ?_); conv => whnf)
      rotate_left
      refine head_s (i + 1) ⟨by omega, by omega⟩ (by rw [wrap64 (by omega) (by omega)]; rfl) (congrArg (fun r => [(7, MB.live ⟨true, 0, zW, r⟩)]) ?_)
      simp only [Nat.zero_add, Int.toNat_natCast]
      exact cpyR_next default hi rfl rfl
    · obtain rfl : i = rs.length := by omega
      (refine sh_s ?_; (simp [subA, cpyR_all, List.take_of_length_le, List.length_map]))
theorem c28 (xs ys : List Wd) : Con Tryd.prog 28 [roW xs, roW ys] (undefs [roW xs, roW ys]) (.bool (decide (xs = ys))) := by
  refine Con.evF 27 T_ok mix Tryd.func28 rfl rfl rfl rfl [.tmp 4] rfl fun ⟨hx, _⟩ => ?_
  have hx := facts_len hx
  conv => whnf
  (refine br_s (fun hb => ?_) (fun hb => ?_) <;> (try simp only [beq_iff_eq, bne_iff_ne, ne_eq, decide_eq_true_eq, decide_eq_false_iff_not, Int.not_lt, Int.not_le, Bool.false_eq_true, if_false, if_true, beq_eq_false_iff_ne, bne_eq_false_iff_eq, Bool.not_eq_true', Bool.not_eq_false', Int.ofNat_lt, Int.ofNat_le, Int.ofNat_inj, List.length_map, List.length_nil, List.length_cons] at hb) <;> conv => whnf)
  (refine rq_s (by (rfl)) ?_; conv => whnf)
  iterate 2 (rotate_left)
  · refine sh_s ?_
    have : xs ≠ ys := fun e => hb (by rw [e])
    simp [this]
  · refine LoopG.rounds (α := Nat) T_ok mix [0, 1, 5] [] (fun i => [(0, roW xs), (1, roW ys), (5, .int .i64 i)]) (fun _ => []) (fun i => i ≤ xs.length ∧ xs.take i = ys.take i) (fun i => xs.length - i) ?_ ?_
    · conv => whnf
      exact head_s 0 ⟨by simp, by simp⟩ rfl rfl
    · rintro i ⟨h1, h2⟩ - -
      conv => whnf
      (refine br_s (fun hb => ?_) (fun hb => ?_) <;> (try simp only [beq_iff_eq, bne_iff_ne, ne_eq, decide_eq_true_eq, decide_eq_false_iff_not, Int.not_lt, Int.not_le, Bool.false_eq_true, if_false, if_true, beq_eq_false_iff_ne, bne_eq_false_iff_eq, Bool.not_eq_true', Bool.not_eq_false', Int.ofNat_lt, Int.ofNat_le, Int.ofNat_inj, List.length_map, List.length_nil, List.length_cons] at hb) <;> conv => whnf)
      iterate 3 (refine ChkS.mk (by kernel_rfl) ?_; conv => whnf)
      (refine rq_s (by (rfl)) ?_; conv => whnf)
      (refine rq_s (by ((refine and_s rfl ?_; simp only [decide_eq_true_eq, List.length_map]; omega))) ?_; conv => whnf)
      (refine ChkS.mk (by kernel_rfl) ?_; conv => whnf)
      (refine row_s (by ((try simp only [Int.toNat_natCast]); exact row_map wdR _ _ _ default (by first | omega | (simp; omega)))) ?_; conv => whnf)
      iterate 3 (refine ChkS.mk (by kernel_rfl) ?_; conv => whnf)
      (refine rq_s (by (rfl)) ?_; conv => whnf)
      (refine rq_s (by ((refine and_s rfl ?_; simp only [decide_eq_true_eq, List.length_map]; omega))) ?_; conv => whnf)
      (refine ChkS.mk (by kernel_rfl) ?_; conv => whnf)
      (refine row_s (by ((try simp only [Int.toNat_natCast]); exact row_map wdR _ _ _ default (by first | omega | (simp; omega)))) ?_; conv => whnf)
      (refine ChkS.mk (by kernel_rfl) ?_; conv => whnf)
      iterate 6 (refine rq_s (by (rfl)) ?_; conv => whnf)
      (refine call_s (c76 ..) ?_; conv => whnf)
      iterate 2 (refine ChkS.mk (by kernel_rfl) ?_; conv => whnf)
      (refine br_s (fun hb => ?_) (fun hb => ?_) <;> (try simp only [beq_iff_eq, bne_iff_ne, ne_eq, decide_eq_true_eq, decide_eq_false_iff_not, Int.not_lt, Int.not_le, Bool.false_eq_true, if_false, if_true, beq_eq_false_iff_ne, bne_eq_false_iff_eq, Bool.not_eq_true', Bool.not_eq_false', Int.ofNat_lt, Int.ofNat_le, Int.ofNat_inj, List.length_map, List.length_nil, List.length_cons] at hb) <;> conv => whnf)
      (refine rq_s (by (rfl)) ?_; conv => whnf)
      iterate 2 (rotate_left)
      (refine rq_s (by (rfl)) ?_; conv => whnf)
      rotate_left
      · refine sh_s ?_
        have : xs ≠ ys := fun e => hb (by rw [e])
        simp [this]
      · exact head_s (i + 1) ⟨⟨by omega, take_next default h2 (by omega) (by omega) hb⟩, by omega⟩ (by rw [wrap64 (by omega) (by omega)]; rfl) rfl
      · refine sh_s ?_
        simp [take_done h2 (by omega) (by omega)]

theorem c26 (x : Itm) : Con Tryd.prog 26 [itV x] (undefs [itV x]) (itV x) := by
  refine Con.ev 11 T_ok mix Tryd.func26 rfl rfl rfl rfl [.cell 2 56] rfl ?_
  conv => whnf
  iterate 8 (refine rq_s (by (rfl)) ?_; conv => whnf)
  (refine sh_s ?_; (rfl))
theorem c135 (a b : Itm) : Con Tryd.prog 135 [itV a, itV b] (undefs [itV a, itV b]) (.bool (decide (a = b))) := by
  refine Con.ev 15 T_ok mix Tryd.func135 rfl rfl rfl rfl [.tmp 4] rfl ?_
  conv => whnf
  iterate 4 (refine rq_s (by (rfl)) ?_; conv => whnf)
  (refine br_s (fun hb => ?_) (fun hb => ?_) <;> (try simp only [beq_iff_eq, bne_iff_ne, ne_eq, decide_eq_true_eq, decide_eq_false_iff_not, Int.not_lt, Int.not_le, Bool.false_eq_true, if_false, if_true, beq_eq_false_iff_ne, bne_eq_false_iff_eq, Bool.not_eq_true', Bool.not_eq_false', Int.ofNat_lt, Int.ofNat_le, Int.ofNat_inj, List.length_map, List.length_nil, List.length_cons] at hb) <;> conv => whnf)
  (refine rq_s (by (rfl)) ?_; conv => whnf)
  (refine sh_s ?_; ((cases a; cases b; simp_all)))
  iterate 2 (refine rq_s (by (rfl)) ?_; conv => whnf)
  (refine br_s (fun hb => ?_) (fun hb => ?_) <;> (try simp only [beq_iff_eq, bne_iff_ne, ne_eq, decide_eq_true_eq, decide_eq_false_iff_not, Int.not_lt, Int.not_le, Bool.false_eq_true, if_false, if_true, beq_eq_false_iff_ne, bne_eq_false_iff_eq, Bool.not_eq_true', Bool.not_eq_false', Int.ofNat_lt, Int.ofNat_le, Int.ofNat_inj, List.length_map, List.length_nil, List.length_cons] at hb) <;> conv => whnf)
  (refine rq_s (by (rfl)) ?_; conv => whnf)
  (refine sh_s ?_; ((cases a; cases b; simp_all)))
  (refine rq_s (by (rfl)) ?_; conv => whnf)
  (refine sh_s ?_; ((cases a; cases b; simp_all)))
theorem c83 (xs ys : List Itm) : Con Tryd.prog 83 [roT xs, roT ys] (undefs [roT xs, roT ys]) (.bool (decide (xs = ys))) := by
  refine Con.evF 27 T_ok mix Tryd.func83 rfl rfl rfl rfl [.tmp 4] rfl fun ⟨hx, _⟩ => ?_
  have hx := facts_len hx
  conv => whnf
  (refine br_s (fun hb => ?_) (fun hb => ?_) <;> (try simp only [beq_iff_eq, bne_iff_ne, ne_eq, decide_eq_true_eq, decide_eq_false_iff_not, Int.not_lt, Int.not_le, Bool.false_eq_true, if_false, if_true, beq_eq_false_iff_ne, bne_eq_false_iff_eq, Bool.not_eq_true', Bool.not_eq_false', Int.ofNat_lt, Int.ofNat_le, Int.ofNat_inj, List.length_map, List.length_nil, List.length_cons] at hb) <;> conv => whnf)
  (refine rq_s (by (rfl)) ?_; conv => whnf)
  iterate 2 (rotate_left)
  · refine sh_s ?_
    have : xs ≠ ys := fun e => hb (by rw [e])
    simp [this]
  · refine LoopG.rounds (α := Nat) T_ok mix [0, 1, 5] [] (fun i => [(0, roT xs), (1, roT ys), (5, .int .i64 i)]) (fun _ => []) (fun i => i ≤ xs.length ∧ xs.take i = ys.take i) (fun i => xs.length - i) ?_ ?_
    · conv => whnf
      exact head_s 0 ⟨by simp, by simp⟩ rfl rfl
    · rintro i ⟨h1, h2⟩ - -
      conv => whnf
      (refine br_s (fun hb => ?_) (fun hb => ?_) <;> (try simp only [beq_iff_eq, bne_iff_ne, ne_eq, decide_eq_true_eq, decide_eq_false_iff_not, Int.not_lt, Int.not_le, Bool.false_eq_true, if_false, if_true, beq_eq_false_iff_ne, bne_eq_false_iff_eq, Bool.not_eq_true', Bool.not_eq_false', Int.ofNat_lt, Int.ofNat_le, Int.ofNat_inj, List.length_map, List.length_nil, List.length_cons] at hb) <;> conv => whnf)
      iterate 3 (refine ChkS.mk (by kernel_rfl) ?_; conv => whnf)
      (refine rq_s (by (rfl)) ?_; conv => whnf)
      (refine rq_s (by ((refine and_s rfl ?_; simp only [decide_eq_true_eq, List.length_map]; omega))) ?_; conv => whnf)
      (refine ChkS.mk (by kernel_rfl) ?_; conv => whnf)
      (refine row_s (by ((try simp only [Int.toNat_natCast]); exact row_map itR _ _ _ default (by first | omega | (simp; omega)))) ?_; conv => whnf)
      iterate 3 (refine ChkS.mk (by kernel_rfl) ?_; conv => whnf)
      (refine rq_s (by (rfl)) ?_; conv => whnf)
      (refine rq_s (by ((refine and_s rfl ?_; simp only [decide_eq_true_eq, List.length_map]; omega))) ?_; conv => whnf)
      (refine ChkS.mk (by kernel_rfl) ?_; conv => whnf)
      (refine row_s (by ((try simp only [Int.toNat_natCast]); exact row_map itR _ _ _ default (by first | omega | (simp; omega)))) ?_; conv => whnf)
      (refine ChkS.mk (by kernel_rfl) ?_; conv => whnf)
      iterate 4 (refine rq_s (by (rfl)) ?_; conv => whnf)
      (refine call_s (c135 ..) ?_; conv => whnf)
      iterate 2 (refine ChkS.mk (by kernel_rfl) ?_; conv => whnf)
      (refine br_s (fun hb => ?_) (fun hb => ?_) <;> (try simp only [beq_iff_eq, bne_iff_ne, ne_eq, decide_eq_true_eq, decide_eq_false_iff_not, Int.not_lt, Int.not_le, Bool.false_eq_true, if_false, if_true, beq_eq_false_iff_ne, bne_eq_false_iff_eq, Bool.not_eq_true', Bool.not_eq_false', Int.ofNat_lt, Int.ofNat_le, Int.ofNat_inj, List.length_map, List.length_nil, List.length_cons] at hb) <;> conv => whnf)
      (refine rq_s (by (rfl)) ?_; conv => whnf)
      iterate 2 (rotate_left)
      (refine rq_s (by (rfl)) ?_; conv => whnf)
      rotate_left
      · refine sh_s ?_
        have : xs ≠ ys := fun e => hb (by rw [e])
        simp [this]
      · exact head_s (i + 1) ⟨⟨by omega, take_next default h2 (by omega) (by omega) hb⟩, by omega⟩ (by rw [wrap64 (by omega) (by omega)]; rfl) rfl
      · refine sh_s ?_
        simp [take_done h2 (by omega) (by omega)]


end V1
