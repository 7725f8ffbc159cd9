/- Sizes, copies, comparisons and marks of the data, each with its contract. -/
import Derived.Test.YtdbjklhadnnbdaaDoorProg
import Derived.KernelRfl
import Derived.Test.YtdbjklhadnnbdaaDoorAbsf
import Derived.Test.YtdbjklhadnnbdaaDoorAbs7
import Derived.Test.YtdbjklhadnnbdaaDoorAbsk
set_option linter.unusedVariables false
set_option linter.unusedSimpArgs false
set_option maxRecDepth 100000
open Go Go.Abs Go.Proofs
namespace V1
def T : TT := [(2, TI.mk (UT.int IntKind.i64) 1 8 [AV.int IntKind.i64 0] false),
  (3, TI.mk (UT.int IntKind.i64) 1 8 [AV.int IntKind.i64 0] false),
  (4, TI.mk UT.bool 1 1 [AV.bool false] false),
  (5, TI.mk (UT.int IntKind.u8) 1 1 [AV.int IntKind.u8 0] false),
  (6, TI.mk (UT.int IntKind.u8) 1 1 [AV.int IntKind.u8 0] false),
  (7, TI.mk (UT.struct [(0, 2), (1, 3), (2, 4), (3, 6)]) 4 24 [AV.int IntKind.i64 0, AV.int IntKind.i64 0, AV.bool false, AV.int IntKind.u8 0] true),
  (8, TI.mk (UT.struct [(0, 2), (1, 3), (2, 4), (3, 6)]) 4 24 [AV.int IntKind.i64 0, AV.int IntKind.i64 0, AV.bool false, AV.int IntKind.u8 0] true),
  (9, TI.mk UT.str 1 16 [AV.str []] false),
  (10, TI.mk UT.str 1 16 [AV.str []] false),
  (11, TI.mk UT.str 1 16 [AV.str []] false),
  (12, TI.mk (UT.int IntKind.u64) 1 8 [AV.int IntKind.u64 0] false),
  (13, TI.mk (UT.struct [(0, 9), (1, 12)]) 2 24 [AV.str [], AV.int IntKind.u64 0] false),
  (14, TI.mk (UT.struct [(0, 9), (1, 12)]) 2 24 [AV.str [], AV.int IntKind.u64 0] false),
  (18, TI.mk (UT.struct [(0, 17)]) 1 8 [AV.nilp] false),
  (19, TI.mk (UT.struct [(0, 17)]) 1 8 [AV.nilp] false),
  (21, TI.mk (UT.int IntKind.i32) 1 4 [AV.int IntKind.i32 0] false),
  (22, TI.mk (UT.slice 3) 1 24 [AV.emp] false),
  (23, TI.mk (UT.struct [(0, 3), (1, 3), (2, 9), (3, 22), (4, 4)]) 5 64 [AV.int IntKind.i64 0, AV.int IntKind.i64 0, AV.str [], AV.emp, AV.bool false] true),
  (24, TI.mk (UT.struct [(0, 3), (1, 3), (2, 9), (3, 22), (4, 4)]) 5 64 [AV.int IntKind.i64 0, AV.int IntKind.i64 0, AV.str [], AV.emp, AV.bool false] true),
  (28, TI.mk (UT.struct [(0, 3), (1, 3), (2, 9), (3, 22), (4, 4)]) 5 64 [AV.int IntKind.i64 0, AV.int IntKind.i64 0, AV.str [], AV.emp, AV.bool false] true),
  (32, TI.mk (UT.slice 4) 1 24 [AV.emp] false),
  (33, TI.mk (UT.slice 137) 1 24 [AV.emp] false),
  (34, TI.mk (UT.struct [(0, 32), (1, 22), (2, 22), (3, 3), (4, 33)]) 5 104 [AV.emp, AV.emp, AV.emp, AV.int IntKind.i64 0, AV.emp] true),
  (35, TI.mk (UT.struct [(0, 32), (1, 22), (2, 22), (3, 3), (4, 33)]) 5 104 [AV.emp, AV.emp, AV.emp, AV.int IntKind.i64 0, AV.emp] true),
  (37, TI.mk (UT.slice 9) 1 24 [AV.emp] false),
  (40, TI.mk (UT.slice 135) 1 24 [AV.emp] false),
  (41, TI.mk (UT.struct [(0, 32), (1, 22), (2, 22), (3, 3), (4, 40)]) 5 104 [AV.emp, AV.emp, AV.emp, AV.int IntKind.i64 0, AV.emp] true),
  (42, TI.mk (UT.struct [(0, 32), (1, 22), (2, 22), (3, 3), (4, 40)]) 5 104 [AV.emp, AV.emp, AV.emp, AV.int IntKind.i64 0, AV.emp] true),
  (49, TI.mk (UT.slice 108) 1 24 [AV.emp] false),
  (50, TI.mk (UT.struct [(0, 3), (1, 3)]) 2 16 [AV.int IntKind.i64 0, AV.int IntKind.i64 0] true),
  (51, TI.mk (UT.struct [(0, 3), (1, 3)]) 2 16 [AV.int IntKind.i64 0, AV.int IntKind.i64 0] true),
  (54, TI.mk (UT.slice 112) 1 24 [AV.emp] false),
  (56, TI.mk (UT.struct [(0, 3), (1, 3)]) 2 16 [AV.int IntKind.i64 0, AV.int IntKind.i64 0] true),
  (60, TI.mk (UT.struct [(0, 3), (1, 3), (2, 9)]) 3 32 [AV.int IntKind.i64 0, AV.int IntKind.i64 0, AV.str []] true),
  (61, TI.mk (UT.struct [(0, 3), (1, 3), (2, 9)]) 3 32 [AV.int IntKind.i64 0, AV.int IntKind.i64 0, AV.str []] true),
  (66, TI.mk (UT.struct [(0, 22), (1, 22), (2, 22), (3, 3), (4, 3), (5, 9)]) 6 104 [AV.emp, AV.emp, AV.emp, AV.int IntKind.i64 0, AV.int IntKind.i64 0, AV.str []] true),
  (67, TI.mk (UT.struct [(0, 22), (1, 22), (2, 22), (3, 3), (4, 3), (5, 9)]) 6 104 [AV.emp, AV.emp, AV.emp, AV.int IntKind.i64 0, AV.int IntKind.i64 0, AV.str []] true),
  (68, TI.mk (UT.slice 179) 1 24 [AV.emp] false),
  (69, TI.mk (UT.struct [(0, 54), (1, 22), (2, 67), (8, 42), (13, 68), (14, 3), (15, 3)]) 16 296 [AV.emp, AV.emp, AV.emp, AV.emp, AV.emp, AV.int IntKind.i64 0, AV.int IntKind.i64 0, AV.str [], AV.emp, AV.emp, AV.emp, AV.int IntKind.i64 0, AV.emp, AV.emp, AV.int IntKind.i64 0, AV.int IntKind.i64 0] false),
  (70, TI.mk (UT.struct [(0, 54), (1, 22), (2, 67), (8, 42), (13, 68), (14, 3), (15, 3)]) 16 296 [AV.emp, AV.emp, AV.emp, AV.emp, AV.emp, AV.int IntKind.i64 0, AV.int IntKind.i64 0, AV.str [], AV.emp, AV.emp, AV.emp, AV.int IntKind.i64 0, AV.emp, AV.emp, AV.int IntKind.i64 0, AV.int IntKind.i64 0] false),
  (71, TI.mk (UT.slice 157) 1 24 [AV.emp] false),
  (72, TI.mk (UT.slice 56) 1 24 [AV.emp] false),
  (73, TI.mk (UT.struct [(0, 70), (16, 71), (17, 4), (18, 9), (19, 72)]) 20 368 [AV.emp, AV.emp, AV.emp, AV.emp, AV.emp, AV.int IntKind.i64 0, AV.int IntKind.i64 0, AV.str [], AV.emp, AV.emp, AV.emp, AV.int IntKind.i64 0, AV.emp, AV.emp, AV.int IntKind.i64 0, AV.int IntKind.i64 0, AV.emp, AV.bool false, AV.str [], AV.emp] false),
  (74, TI.mk (UT.struct [(0, 70), (16, 71), (17, 4), (18, 9), (19, 72)]) 20 368 [AV.emp, AV.emp, AV.emp, AV.emp, AV.emp, AV.int IntKind.i64 0, AV.int IntKind.i64 0, AV.str [], AV.emp, AV.emp, AV.emp, AV.int IntKind.i64 0, AV.emp, AV.emp, AV.int IntKind.i64 0, AV.int IntKind.i64 0, AV.emp, AV.bool false, AV.str [], AV.emp] false),
  (79, TI.mk (UT.slice 5) 1 24 [AV.emp] false),
  (93, TI.mk (UT.int IntKind.u64) 1 8 [AV.int IntKind.u64 0] false),
  (107, TI.mk (UT.struct [(0, 9), (1, 3), (2, 3)]) 3 32 [AV.str [], AV.int IntKind.i64 0, AV.int IntKind.i64 0] true),
  (108, TI.mk (UT.struct [(0, 9), (1, 3), (2, 3)]) 3 32 [AV.str [], AV.int IntKind.i64 0, AV.int IntKind.i64 0] true),
  (112, TI.mk (UT.struct [(0, 9), (1, 3), (2, 3)]) 3 32 [AV.str [], AV.int IntKind.i64 0, AV.int IntKind.i64 0] true),
  (134, TI.mk (UT.struct [(0, 3), (1, 3), (2, 3), (3, 3)]) 4 32 [AV.int IntKind.i64 0, AV.int IntKind.i64 0, AV.int IntKind.i64 0, AV.int IntKind.i64 0] true),
  (135, TI.mk (UT.struct [(0, 3), (1, 3), (2, 3), (3, 3)]) 4 32 [AV.int IntKind.i64 0, AV.int IntKind.i64 0, AV.int IntKind.i64 0, AV.int IntKind.i64 0] true),
  (137, TI.mk (UT.struct [(0, 3), (1, 3), (2, 3), (3, 3)]) 4 32 [AV.int IntKind.i64 0, AV.int IntKind.i64 0, AV.int IntKind.i64 0, AV.int IntKind.i64 0] true),
  (141, TI.mk (UT.slice 54) 1 24 [AV.emp] false),
  (156, TI.mk (UT.struct [(0, 3), (1, 72)]) 2 32 [AV.int IntKind.i64 0, AV.emp] true),
  (157, TI.mk (UT.struct [(0, 3), (1, 72)]) 2 32 [AV.int IntKind.i64 0, AV.emp] true),
  (162, TI.mk (UT.struct [(0, 79), (1, 3), (2, 3)]) 3 40 [AV.emp, AV.int IntKind.i64 0, AV.int IntKind.i64 0] true),
  (163, TI.mk (UT.struct [(0, 79), (1, 3), (2, 3)]) 3 40 [AV.emp, AV.int IntKind.i64 0, AV.int IntKind.i64 0] true),
  (178, TI.mk (UT.struct [(0, 3), (1, 3), (2, 3), (3, 4)]) 4 32 [AV.int IntKind.i64 0, AV.int IntKind.i64 0, AV.int IntKind.i64 0, AV.bool false] true),
  (179, TI.mk (UT.struct [(0, 3), (1, 3), (2, 3), (3, 4)]) 4 32 [AV.int IntKind.i64 0, AV.int IntKind.i64 0, AV.int IntKind.i64 0, AV.bool false] true),
  (181, TI.mk (UT.slice 37) 1 24 [AV.emp] false),
  (186, TI.mk (UT.array 256 5) 256 256 [AV.int IntKind.u8 0, AV.int IntKind.u8 0, AV.int IntKind.u8 0, AV.int IntKind.u8 0, AV.int IntKind.u8 0, AV.int IntKind.u8 0, AV.int IntKind.u8 0, AV.int IntKind.u8 0, AV.int IntKind.u8 0, AV.int IntKind.u8 0, AV.int IntKind.u8 0, AV.int IntKind.u8 0, AV.int IntKind.u8 0, AV.int IntKind.u8 0, AV.int IntKind.u8 0, AV.int IntKind.u8 0, AV.int IntKind.u8 0, AV.int IntKind.u8 0, AV.int IntKind.u8 0, AV.int IntKind.u8 0, AV.int IntKind.u8 0, AV.int IntKind.u8 0, AV.int IntKind.u8 0, AV.int IntKind.u8 0, AV.int IntKind.u8 0, AV.int IntKind.u8 0, AV.int IntKind.u8 0, AV.int IntKind.u8 0, AV.int IntKind.u8 0, AV.int IntKind.u8 0, AV.int IntKind.u8 0, AV.int IntKind.u8 0, AV.int IntKind.u8 0, AV.int IntKind.u8 0, AV.int IntKind.u8 0, AV.int IntKind.u8 0, AV.int IntKind.u8 0, AV.int IntKind.u8 0, AV.int IntKind.u8 0, AV.int IntKind.u8 0, AV.int IntKind.u8 0, AV.int IntKind.u8 0, AV.int IntKind.u8 0, AV.int IntKind.u8 0, AV.int IntKind.u8 0, AV.int IntKind.u8 0, AV.int IntKind.u8 0, AV.int IntKind.u8 0, AV.int IntKind.u8 0, AV.int IntKind.u8 0, AV.int IntKind.u8 0, AV.int IntKind.u8 0, AV.int IntKind.u8 0, AV.int IntKind.u8 0, AV.int IntKind.u8 0, AV.int IntKind.u8 0, AV.int IntKind.u8 0, AV.int IntKind.u8 0, AV.int IntKind.u8 0, AV.int IntKind.u8 0, AV.int IntKind.u8 0, AV.int IntKind.u8 0, AV.int IntKind.u8 0, AV.int IntKind.u8 0, AV.int IntKind.u8 0, AV.int IntKind.u8 0, AV.int IntKind.u8 0, AV.int IntKind.u8 0, AV.int IntKind.u8 0, AV.int IntKind.u8 0, AV.int IntKind.u8 0, AV.int IntKind.u8 0, AV.int IntKind.u8 0, AV.int IntKind.u8 0, AV.int IntKind.u8 0, AV.int IntKind.u8 0, AV.int IntKind.u8 0, AV.int IntKind.u8 0, AV.int IntKind.u8 0, AV.int IntKind.u8 0, AV.int IntKind.u8 0, AV.int IntKind.u8 0, AV.int IntKind.u8 0, AV.int IntKind.u8 0, AV.int IntKind.u8 0, AV.int IntKind.u8 0, AV.int IntKind.u8 0, AV.int IntKind.u8 0, AV.int IntKind.u8 0, AV.int IntKind.u8 0, AV.int IntKind.u8 0, AV.int IntKind.u8 0, AV.int IntKind.u8 0, AV.int IntKind.u8 0, AV.int IntKind.u8 0, AV.int IntKind.u8 0, AV.int IntKind.u8 0, AV.int IntKind.u8 0, AV.int IntKind.u8 0, AV.int IntKind.u8 0, AV.int IntKind.u8 0, AV.int IntKind.u8 0, AV.int IntKind.u8 0, AV.int IntKind.u8 0, AV.int IntKind.u8 0, AV.int IntKind.u8 0, AV.int IntKind.u8 0, AV.int IntKind.u8 0, AV.int IntKind.u8 0, AV.int IntKind.u8 0, AV.int IntKind.u8 0, AV.int IntKind.u8 0, AV.int IntKind.u8 0, AV.int IntKind.u8 0, AV.int IntKind.u8 0, AV.int IntKind.u8 0, AV.int IntKind.u8 0, AV.int IntKind.u8 0, AV.int IntKind.u8 0, AV.int IntKind.u8 0, AV.int IntKind.u8 0, AV.int IntKind.u8 0, AV.int IntKind.u8 0, AV.int IntKind.u8 0, AV.int IntKind.u8 0, AV.int IntKind.u8 0, AV.int IntKind.u8 0, AV.int IntKind.u8 0, AV.int IntKind.u8 0, AV.int IntKind.u8 0, AV.int IntKind.u8 0, AV.int IntKind.u8 0, AV.int IntKind.u8 0, AV.int IntKind.u8 0, AV.int IntKind.u8 0, AV.int IntKind.u8 0, AV.int IntKind.u8 0, AV.int IntKind.u8 0, AV.int IntKind.u8 0, AV.int IntKind.u8 0, AV.int IntKind.u8 0, AV.int IntKind.u8 0, AV.int IntKind.u8 0, AV.int IntKind.u8 0, AV.int IntKind.u8 0, AV.int IntKind.u8 0, AV.int IntKind.u8 0, AV.int IntKind.u8 0, AV.int IntKind.u8 0, AV.int IntKind.u8 0, AV.int IntKind.u8 0, AV.int IntKind.u8 0, AV.int IntKind.u8 0, AV.int IntKind.u8 0, AV.int IntKind.u8 0, AV.int IntKind.u8 0, AV.int IntKind.u8 0, AV.int IntKind.u8 0, AV.int IntKind.u8 0, AV.int IntKind.u8 0, AV.int IntKind.u8 0, AV.int IntKind.u8 0, AV.int IntKind.u8 0, AV.int IntKind.u8 0, AV.int IntKind.u8 0, AV.int IntKind.u8 0, AV.int IntKind.u8 0, AV.int IntKind.u8 0, AV.int IntKind.u8 0, AV.int IntKind.u8 0, AV.int IntKind.u8 0, AV.int IntKind.u8 0, AV.int IntKind.u8 0, AV.int IntKind.u8 0, AV.int IntKind.u8 0, AV.int IntKind.u8 0, AV.int IntKind.u8 0, AV.int IntKind.u8 0, AV.int IntKind.u8 0, AV.int IntKind.u8 0, AV.int IntKind.u8 0, AV.int IntKind.u8 0, AV.int IntKind.u8 0, AV.int IntKind.u8 0, AV.int IntKind.u8 0, AV.int IntKind.u8 0, AV.int IntKind.u8 0, AV.int IntKind.u8 0, AV.int IntKind.u8 0, AV.int IntKind.u8 0, AV.int IntKind.u8 0, AV.int IntKind.u8 0, AV.int IntKind.u8 0, AV.int IntKind.u8 0, AV.int IntKind.u8 0, AV.int IntKind.u8 0, AV.int IntKind.u8 0, AV.int IntKind.u8 0, AV.int IntKind.u8 0, AV.int IntKind.u8 0, AV.int IntKind.u8 0, AV.int IntKind.u8 0, AV.int IntKind.u8 0, AV.int IntKind.u8 0, AV.int IntKind.u8 0, AV.int IntKind.u8 0, AV.int IntKind.u8 0, AV.int IntKind.u8 0, AV.int IntKind.u8 0, AV.int IntKind.u8 0, AV.int IntKind.u8 0, AV.int IntKind.u8 0, AV.int IntKind.u8 0, AV.int IntKind.u8 0, AV.int IntKind.u8 0, AV.int IntKind.u8 0, AV.int IntKind.u8 0, AV.int IntKind.u8 0, AV.int IntKind.u8 0, AV.int IntKind.u8 0, AV.int IntKind.u8 0, AV.int IntKind.u8 0, AV.int IntKind.u8 0, AV.int IntKind.u8 0, AV.int IntKind.u8 0, AV.int IntKind.u8 0, AV.int IntKind.u8 0, AV.int IntKind.u8 0, AV.int IntKind.u8 0, AV.int IntKind.u8 0, AV.int IntKind.u8 0, AV.int IntKind.u8 0, AV.int IntKind.u8 0, AV.int IntKind.u8 0, AV.int IntKind.u8 0, AV.int IntKind.u8 0, AV.int IntKind.u8 0, AV.int IntKind.u8 0, AV.int IntKind.u8 0, AV.int IntKind.u8 0, AV.int IntKind.u8 0, AV.int IntKind.u8 0, AV.int IntKind.u8 0, AV.int IntKind.u8 0, AV.int IntKind.u8 0, AV.int IntKind.u8 0, AV.int IntKind.u8 0, AV.int IntKind.u8 0, AV.int IntKind.u8 0, AV.int IntKind.u8 0, AV.int IntKind.u8 0, AV.int IntKind.u8 0, AV.int IntKind.u8 0, AV.int IntKind.u8 0, AV.int IntKind.u8 0, AV.int IntKind.u8 0] false),
  (189, TI.mk (UT.int IntKind.u32) 1 4 [AV.int IntKind.u32 0] false),
  (190, TI.mk (UT.int IntKind.u64) 1 8 [AV.int IntKind.u64 0] false),
  (191, TI.mk (UT.array 24 5) 24 24 [AV.int IntKind.u8 0, AV.int IntKind.u8 0, AV.int IntKind.u8 0, AV.int IntKind.u8 0, AV.int IntKind.u8 0, AV.int IntKind.u8 0, AV.int IntKind.u8 0, AV.int IntKind.u8 0, AV.int IntKind.u8 0, AV.int IntKind.u8 0, AV.int IntKind.u8 0, AV.int IntKind.u8 0, AV.int IntKind.u8 0, AV.int IntKind.u8 0, AV.int IntKind.u8 0, AV.int IntKind.u8 0, AV.int IntKind.u8 0, AV.int IntKind.u8 0, AV.int IntKind.u8 0, AV.int IntKind.u8 0, AV.int IntKind.u8 0, AV.int IntKind.u8 0, AV.int IntKind.u8 0, AV.int IntKind.u8 0] false),
  (198, TI.mk (UT.int IntKind.i64) 1 8 [AV.int IntKind.i64 0] false),
  (204, TI.mk (UT.slice 206) 1 24 [AV.emp] false),
  (205, TI.mk (UT.struct [(0, 3), (1, 3)]) 2 16 [AV.int IntKind.i64 0, AV.int IntKind.i64 0] true),
  (206, TI.mk (UT.struct [(0, 3), (1, 3)]) 2 16 [AV.int IntKind.i64 0, AV.int IntKind.i64 0] true),
  (210, TI.mk (UT.array 20 190) 20 160 [AV.int IntKind.u64 0, AV.int IntKind.u64 0, AV.int IntKind.u64 0, AV.int IntKind.u64 0, AV.int IntKind.u64 0, AV.int IntKind.u64 0, AV.int IntKind.u64 0, AV.int IntKind.u64 0, AV.int IntKind.u64 0, AV.int IntKind.u64 0, AV.int IntKind.u64 0, AV.int IntKind.u64 0, AV.int IntKind.u64 0, AV.int IntKind.u64 0, AV.int IntKind.u64 0, AV.int IntKind.u64 0, AV.int IntKind.u64 0, AV.int IntKind.u64 0, AV.int IntKind.u64 0, AV.int IntKind.u64 0] false),
  (211, TI.mk (UT.array 65 5) 65 65 [AV.int IntKind.u8 0, AV.int IntKind.u8 0, AV.int IntKind.u8 0, AV.int IntKind.u8 0, AV.int IntKind.u8 0, AV.int IntKind.u8 0, AV.int IntKind.u8 0, AV.int IntKind.u8 0, AV.int IntKind.u8 0, AV.int IntKind.u8 0, AV.int IntKind.u8 0, AV.int IntKind.u8 0, AV.int IntKind.u8 0, AV.int IntKind.u8 0, AV.int IntKind.u8 0, AV.int IntKind.u8 0, AV.int IntKind.u8 0, AV.int IntKind.u8 0, AV.int IntKind.u8 0, AV.int IntKind.u8 0, AV.int IntKind.u8 0, AV.int IntKind.u8 0, AV.int IntKind.u8 0, AV.int IntKind.u8 0, AV.int IntKind.u8 0, AV.int IntKind.u8 0, AV.int IntKind.u8 0, AV.int IntKind.u8 0, AV.int IntKind.u8 0, AV.int IntKind.u8 0, AV.int IntKind.u8 0, AV.int IntKind.u8 0, AV.int IntKind.u8 0, AV.int IntKind.u8 0, AV.int IntKind.u8 0, AV.int IntKind.u8 0, AV.int IntKind.u8 0, AV.int IntKind.u8 0, AV.int IntKind.u8 0, AV.int IntKind.u8 0, AV.int IntKind.u8 0, AV.int IntKind.u8 0, AV.int IntKind.u8 0, AV.int IntKind.u8 0, AV.int IntKind.u8 0, AV.int IntKind.u8 0, AV.int IntKind.u8 0, AV.int IntKind.u8 0, AV.int IntKind.u8 0, AV.int IntKind.u8 0, AV.int IntKind.u8 0, AV.int IntKind.u8 0, AV.int IntKind.u8 0, AV.int IntKind.u8 0, AV.int IntKind.u8 0, AV.int IntKind.u8 0, AV.int IntKind.u8 0, AV.int IntKind.u8 0, AV.int IntKind.u8 0, AV.int IntKind.u8 0, AV.int IntKind.u8 0, AV.int IntKind.u8 0, AV.int IntKind.u8 0, AV.int IntKind.u8 0, AV.int IntKind.u8 0] false),
  (219, TI.mk (UT.struct [(0, 9), (1, 9), (2, 173)]) 3 48 [AV.str [], AV.str [], AV.undef] false),
  (220, TI.mk (UT.struct [(0, 9), (1, 9), (2, 173)]) 3 48 [AV.str [], AV.str [], AV.undef] false),
  (222, TI.mk (UT.slice 228) 1 24 [AV.emp] false),
  (223, TI.mk (UT.slice 231) 1 24 [AV.emp] false),
  (224, TI.mk (UT.struct [(0, 222), (1, 223), (2, 3)]) 3 56 [AV.emp, AV.emp, AV.int IntKind.i64 0] true),
  (225, TI.mk (UT.struct [(0, 222), (1, 223), (2, 3)]) 3 56 [AV.emp, AV.emp, AV.int IntKind.i64 0] true),
  (226, TI.mk (UT.int IntKind.u16) 1 2 [AV.int IntKind.u16 0] false),
  (227, TI.mk (UT.struct [(0, 226), (1, 226), (2, 226)]) 3 6 [AV.int IntKind.u16 0, AV.int IntKind.u16 0, AV.int IntKind.u16 0] true),
  (228, TI.mk (UT.struct [(0, 226), (1, 226), (2, 226)]) 3 6 [AV.int IntKind.u16 0, AV.int IntKind.u16 0, AV.int IntKind.u16 0] true),
  (230, TI.mk (UT.struct [(0, 189), (1, 189), (2, 189)]) 3 12 [AV.int IntKind.u32 0, AV.int IntKind.u32 0, AV.int IntKind.u32 0] true),
  (231, TI.mk (UT.struct [(0, 189), (1, 189), (2, 189)]) 3 12 [AV.int IntKind.u32 0, AV.int IntKind.u32 0, AV.int IntKind.u32 0] true)]
theorem T_ok : T.ok Tryd.prog := TT.ok_cons (by kernel_rfl) <| TT.ok_cons (by kernel_rfl) <| TT.ok_cons (by kernel_rfl) <| TT.ok_cons (by kernel_rfl) <| TT.ok_cons (by kernel_rfl) <| TT.ok_cons (by kernel_rfl) <| TT.ok_cons (by kernel_rfl) <| TT.ok_cons (by kernel_rfl) <| TT.ok_cons (by kernel_rfl) <| TT.ok_cons (by kernel_rfl) <| TT.ok_cons (by kernel_rfl) <| TT.ok_cons (by kernel_rfl) <| TT.ok_cons (by kernel_rfl) <| TT.ok_cons (by kernel_rfl) <| TT.ok_cons (by kernel_rfl) <| TT.ok_cons (by kernel_rfl) <| TT.ok_cons (by kernel_rfl) <| TT.ok_cons (by kernel_rfl) <| TT.ok_cons (by kernel_rfl) <| TT.ok_cons (by kernel_rfl) <| TT.ok_cons (by kernel_rfl) <| TT.ok_cons (by kernel_rfl) <| TT.ok_cons (by kernel_rfl) <| TT.ok_cons (by kernel_rfl) <| TT.ok_cons (by kernel_rfl) <| TT.ok_cons (by kernel_rfl) <| TT.ok_cons (by kernel_rfl) <| TT.ok_cons (by kernel_rfl) <| TT.ok_cons (by kernel_rfl) <| TT.ok_cons (by kernel_rfl) <| TT.ok_cons (by kernel_rfl) <| TT.ok_cons (by kernel_rfl) <| TT.ok_cons (by kernel_rfl) <| TT.ok_cons (by kernel_rfl) <| TT.ok_cons (by kernel_rfl) <| TT.ok_cons (by kernel_rfl) <| TT.ok_cons (by kernel_rfl) <| TT.ok_cons (by kernel_rfl) <| TT.ok_cons (by kernel_rfl) <| TT.ok_cons (by kernel_rfl) <| TT.ok_cons (by kernel_rfl) <| TT.ok_cons (by kernel_rfl) <| TT.ok_cons (by kernel_rfl) <| TT.ok_cons (by kernel_rfl) <| TT.ok_cons (by kernel_rfl) <| TT.ok_cons (by kernel_rfl) <| TT.ok_cons (by kernel_rfl) <| TT.ok_cons (by kernel_rfl) <| TT.ok_cons (by kernel_rfl) <| TT.ok_cons (by kernel_rfl) <| TT.ok_cons (by kernel_rfl) <| TT.ok_cons (by kernel_rfl) <| TT.ok_cons (by kernel_rfl) <| TT.ok_cons (by kernel_rfl) <| TT.ok_cons (by kernel_rfl) <| TT.ok_cons (by kernel_rfl) <| TT.ok_cons (by kernel_rfl) <| TT.ok_cons (by kernel_rfl) <| TT.ok_cons (by kernel_rfl) <| TT.ok_cons (by kernel_rfl) <| TT.ok_cons (by kernel_rfl) <| TT.ok_cons (by kernel_rfl) <| TT.ok_cons (by kernel_rfl) <| TT.ok_cons (by kernel_rfl) <| TT.ok_cons (by kernel_rfl) <| TT.ok_cons (by kernel_rfl) <| TT.ok_cons (by kernel_rfl) <| TT.ok_cons (by kernel_rfl) <| TT.ok_cons (by kernel_rfl) <| TT.ok_cons (by kernel_rfl) <| TT.ok_cons (by kernel_rfl) <| TT.ok_cons (by kernel_rfl) <| TT.ok_cons (by kernel_rfl) <| TT.ok_cons (by kernel_rfl) <| TT.ok_cons (by kernel_rfl) <| TT.ok_cons (by kernel_rfl) <| TT.ok_cons (by kernel_rfl) <| TT.ok_cons (by kernel_rfl) <| TT.ok_cons (by kernel_rfl) <| TT.ok_cons (by kernel_rfl) <| TT.ok_cons (by kernel_rfl) <| TT.ok_nil

theorem mix : Tryd.prog.follows .mixedOrders = true := by kernel_rfl

theorem c66 (k : Int) (h1 : 0 ≤ k) (h2 : k ≤ 2000000000) : Con Tryd.prog 66 [.int .i64 k] (undefs [.int .i64 k]) (.str (mksS k)) := by
  by_cases h0 : k = 0
  · subst h0
    refine Con.ev 20 T_ok mix Tryd.func66 rfl rfl rfl rfl [.tmp 2] rfl ?_
    conv => whnf
    (refine br_t rfl ?_; conv => whnf)
    (refine rq_s (by (rfl)) ?_; conv => whnf)
    (refine sh_s ?_; (exact congrArg AV.str (by decide +kernel)))
  · refine Con.ev 20 T_ok mix Tryd.func66 rfl rfl rfl rfl [.tmp 2] rfl ?_
    conv => whnf
    (refine br_s (fun hb => ?_) (fun hb => ?_) <;> (try simp only [beq_iff_eq, bne_iff_ne, ne_eq, decide_eq_true_eq, decide_eq_false_iff_not, Int.not_lt, Int.not_le, Bool.false_eq_true, if_false, if_true, beq_eq_false_iff_ne, bne_eq_false_iff_eq, Bool.not_eq_true', Bool.not_eq_false', Int.ofNat_lt, Int.ofNat_le, Int.ofNat_inj, List.length_map, List.length_nil, List.length_cons] at hb) <;> conv => whnf)
    (refine rq_s (by (rfl)) ?_; conv => whnf)
    iterate 2 (rotate_left)
    · omega
    · refine LoopG.auto (α := Nat × List UInt8) T_ok mix [0, 3] (fun a => [(0, .int .i64 a.1), (3, .str a.2)]) (fun _ => []) (fun a => DecInv k.toNat a.1 a.2) (fun a => a.1) ?_ ?_
      · conv => whnf
        (refine ChkS.mk (by kernel_rfl) ?_; conv => whnf)
        rotate_left
        have hl := dec_len k.toNat (by omega)
        exact head_s (k.toNat, []) ⟨Nat.le_refl _, by simp; omega, .inr ⟨by omega, by simp⟩⟩ (by simp only [Int.toNat_of_nonneg h1]) rfl
      · rintro ⟨u, s⟩ hI _ _
        simp only at hI ⊢
        have hu := hI.1
        have hs := hI.2.1
        by_cases hz : u = 0
        · subst hz
          obtain ⟨_, rfl⟩ | ⟨hq, _⟩ := hI.2.2
          · conv => whnf
            (refine br_f rfl ?_; conv => whnf)
            (refine rq_s (by (((simp [maxStr]; omega)))) ?_; conv => whnf)
            (refine rq_s (by (rfl)) ?_; conv => whnf)
            rotate_left
            exact sh_s rfl
          · omega
        · have hp : decide ((u : Int) > 0) = true := by simp; omega
          conv => whnf
          (refine br_t (by assumption) ?_; conv => whnf)
          iterate 2 (refine rq_s (by (rfl)) ?_; conv => whnf)
          (refine rq_s (by ((simp only [decide_eq_true_eq]; done))) ?_; conv => whnf)
          (refine rq_s (by (rfl)) ?_; conv => whnf)
          (refine byt_s rfl ?_; conv => whnf)
          (refine rq_s (by (((simp [maxStr]; omega)))) ?_; conv => whnf)
          (refine rq_s (by (rfl)) ?_; conv => whnf)
          (refine ChkS.mk (by kernel_rfl) ?_; conv => whnf)
          rotate_left
          refine head_s (u / 10, _) ⟨hI.next (by omega) (by omega), by simp only; omega⟩ ?_ rfl
          rw [quo10 u (by omega), rem10, Go.Abs.byteOf (by omega)]


theorem c61 (xs ys : List Bool) : Con Tryd.prog 61 [roB xs, roB ys] (undefs [roB xs, roB ys]) (.bool (decide (xs = ys))) := by
  refine Con.evF 26 T_ok mix Tryd.func61 rfl rfl rfl rfl [.tmp 4] rfl fun ⟨hx, _⟩ => ?_
  have hx := facts_len hx
  conv => whnf
  (refine br_s (fun hb => ?_) (fun hb => ?_) <;> (try simp only [beq_iff_eq, bne_iff_ne, ne_eq, decide_eq_true_eq, decide_eq_false_iff_not, Int.not_lt, Int.not_le, Bool.false_eq_true, if_false, if_true, beq_eq_false_iff_ne, bne_eq_false_iff_eq, Bool.not_eq_true', Bool.not_eq_false', Int.ofNat_lt, Int.ofNat_le, Int.ofNat_inj, List.length_map, List.length_nil, List.length_cons] at hb) <;> conv => whnf)
  (refine rq_s (by (rfl)) ?_; conv => whnf)
  iterate 2 (rotate_left)
  · refine sh_s ?_
    have : xs ≠ ys := fun e => hb (by rw [e])
    simp [this]
  · refine LoopG.rounds (α := Nat) T_ok mix [0, 1, 5] [] (fun i => [(0, roB xs), (1, roB ys), (5, .int .i64 i)]) (fun _ => []) (fun i => i ≤ xs.length ∧ xs.take i = ys.take i) (fun i => xs.length - i) ?_ ?_
    · conv => whnf
      exact head_s 0 ⟨by simp, by simp⟩ rfl rfl
    · rintro i ⟨h1, h2⟩ - -
      conv => whnf
      (refine br_s (fun hb => ?_) (fun hb => ?_) <;> (try simp only [beq_iff_eq, bne_iff_ne, ne_eq, decide_eq_true_eq, decide_eq_false_iff_not, Int.not_lt, Int.not_le, Bool.false_eq_true, if_false, if_true, beq_eq_false_iff_ne, bne_eq_false_iff_eq, Bool.not_eq_true', Bool.not_eq_false', Int.ofNat_lt, Int.ofNat_le, Int.ofNat_inj, List.length_map, List.length_nil, List.length_cons] at hb) <;> conv => whnf)
      iterate 3 (refine ChkS.mk (by kernel_rfl) ?_; conv => whnf)
      (refine rq_s (by (rfl)) ?_; conv => whnf)
      (refine rq_s (by ((refine and_s rfl ?_; simp only [decide_eq_true_eq, List.length_map]; omega))) ?_; conv => whnf)
      (refine ChkS.mk (by kernel_rfl) ?_; conv => whnf)
      (refine row_s (by ((try simp only [Int.toNat_natCast]); exact row_map boolR _ _ _ default (by first | omega | (simp; omega)))) ?_; conv => whnf)
      iterate 3 (refine ChkS.mk (by kernel_rfl) ?_; conv => whnf)
      (refine rq_s (by (rfl)) ?_; conv => whnf)
      (refine rq_s (by ((refine and_s rfl ?_; simp only [decide_eq_true_eq, List.length_map]; omega))) ?_; conv => whnf)
      (refine ChkS.mk (by kernel_rfl) ?_; conv => whnf)
      (refine row_s (by ((try simp only [Int.toNat_natCast]); exact row_map boolR _ _ _ default (by first | omega | (simp; omega)))) ?_; conv => whnf)
      iterate 2 (refine ChkS.mk (by kernel_rfl) ?_; conv => whnf)
      (refine br_s (fun hb => ?_) (fun hb => ?_) <;> (try simp only [beq_iff_eq, bne_iff_ne, ne_eq, decide_eq_true_eq, decide_eq_false_iff_not, Int.not_lt, Int.not_le, Bool.false_eq_true, if_false, if_true, beq_eq_false_iff_ne, bne_eq_false_iff_eq, Bool.not_eq_true', Bool.not_eq_false', Int.ofNat_lt, Int.ofNat_le, Int.ofNat_inj, List.length_map, List.length_nil, List.length_cons] at hb) <;> conv => whnf)
      (refine rq_s (by (rfl)) ?_; conv => whnf)
      iterate 2 (rotate_left)
      (refine rq_s (by (rfl)) ?_; conv => whnf)
      rotate_left
      · refine sh_s ?_
        have : xs ≠ ys := fun e => hb (by rw [e])
        simp [this]
      · exact head_s (i + 1) ⟨⟨by omega, take_next default h2 (by omega) (by omega) hb⟩, by omega⟩ (by rw [wrap64 (by omega) (by omega)]; rfl) rfl
      · refine sh_s ?_
        simp [take_done h2 (by omega) (by omega)]
theorem mr63 (xs : List Bool) (i : Nat) (z : List AV) (y : Bool) (h : i < xs.length) : setRow (xs.map boolR) i 0 z [.bool y] = (xs.set i y).map boolR := by
  simp [setRow, setCells, rowA, List.getD_eq_getElem?_getD, h, boolR, List.map_set]
theorem c63 (xs : List Bool) (k : Int) (h1 : 0 ≤ k) (h2 : k + 1 * xs.length ≤ 1000000000) : Con Tryd.prog 63 [.own 0 zB (xs.map boolR), .int .i64 k] [.own 0 zB ((mkS mksB 1 xs.length k).map boolR), .undef] (.int .i64 (k + 1 * xs.length)) := by
  refine Con.evM 21 [true, false] [some 500000, none] [500000] rfl rfl rfl T_ok mix Tryd.func63 rfl rfl rfl rfl [.tmp 4] rfl ?_
  conv => whnf
  rotate_left
  refine LoopG.rounds (α := Nat) T_ok mix [0, 1, 5] [(500000, 500000)] (fun i => [(0, .ref 500000 0 xs.length), (1, .int .i64 (k + 1 * i)), (5, .int .i64 i)]) (fun i => [(500000, .live ⟨true, 0, zB, (mixS mksB 1 xs k i).map boolR⟩)]) (fun i => i ≤ xs.length) (fun i => xs.length - i) ?_ ?_
  · conv => whnf
    exact head_s 0 (by simp) (by simp) (by rw [mixS_zero])
  · intro i hi _ _
    have hlen := mixS_len mksB 1 (k := k) hi
    have e1 : i < xs.length → IntKind.i64.wrap (k + 1 * (i : Int) + 1) = k + 1 * ((i + 1 : Nat) : Int) := fun _ => (wrap64 (by omega) (by omega)).trans (by omega)
    conv => whnf
    (refine br_s (fun hb => ?_) (fun hb => ?_) <;> (try simp only [beq_iff_eq, bne_iff_ne, ne_eq, decide_eq_true_eq, decide_eq_false_iff_not, Int.not_lt, Int.not_le, Bool.false_eq_true, if_false, if_true, beq_eq_false_iff_ne, bne_eq_false_iff_eq, Bool.not_eq_true', Bool.not_eq_false', Int.ofNat_lt, Int.ofNat_le, Int.ofNat_inj, List.length_map, List.length_nil, List.length_cons] at hb) <;> conv => whnf)
    iterate 2 (refine rq_s (by (rfl)) ?_; conv => whnf)
    (refine rq_s (by ((simp only [decide_eq_true_eq, List.length_map, mkS_len]; done))) ?_; conv => whnf)
    (refine rq_s (by ((refine and_s rfl ?_; simp only [decide_eq_true_eq, List.length_map]; omega))) ?_; conv => whnf)
    (refine rows_s (by (rfl)) ?_; conv => whnf)
    rotate_left
    (refine rq_s (by (rfl)) ?_; conv => whnf)
    rotate_left
    · have hi2 : i < xs.length := by assumption
      refine head_s (i + 1) ⟨by omega, by omega⟩ ?_ (congrArg (fun r => [(500000, MB.live ⟨true, 0, zB, r⟩)]) ?_)
      · rw [e1 hi2, wrap64 (n := (i : Int) + 1) (by omega) (by omega)]
        rfl
      · simp only [Nat.zero_add, Int.toNat_natCast]
        exact (mr63 _ i _ (mksB (k + 1 * i)) (by omega)).trans (by rw [← mixS_next mksB 1 hi2])
    · obtain rfl : i = xs.length := by omega
      refine aft_s (by simp [AV.rowsN, hlen]) (by simp [mixS_all]) ?_
      exact sh_s rfl
theorem c167 (xs : List Bool) (k : Int) (h1 : 0 ≤ k) (h2 : k + 1 * xs.length ≤ 1000000000) : Con Tryd.prog 167 [roB xs, .int .i64 k] (undefs [roB xs, .int .i64 k]) (.int .i64 (heldS mksB 1 xs k)) := by
  refine Con.ev 23 T_ok mix Tryd.func167 rfl rfl rfl rfl [.tmp 4] rfl ?_
  conv => whnf
  rotate_left
  refine LoopG.rounds (α := Nat) T_ok mix [0, 1, 5] [] (fun i => [(0, roB xs), (1, .int .i64 (k + 1 * i)), (5, .int .i64 i)]) (fun _ => []) (fun i => i ≤ xs.length ∧ xs.take i = mkS mksB 1 i k) (fun i => xs.length - i) ?_ ?_
  · conv => whnf
    exact head_s 0 ⟨by simp, by simp [mkS]⟩ (by simp [roB]) rfl
  · rintro i ⟨hi, ht⟩ - -
    have e1 : i < xs.length → IntKind.i64.wrap (k + 1 * (i : Int) + 1) = k + 1 * ((i + 1 : Nat) : Int) := fun _ => (wrap64 (by omega) (by omega)).trans (by omega)
    conv => whnf
    (refine br_s (fun hb => ?_) (fun hb => ?_) <;> (try simp only [beq_iff_eq, bne_iff_ne, ne_eq, decide_eq_true_eq, decide_eq_false_iff_not, Int.not_lt, Int.not_le, Bool.false_eq_true, if_false, if_true, beq_eq_false_iff_ne, bne_eq_false_iff_eq, Bool.not_eq_true', Bool.not_eq_false', Int.ofNat_lt, Int.ofNat_le, Int.ofNat_inj, List.length_map, List.length_nil, List.length_cons] at hb) <;> conv => whnf)
    (refine rq_s (by (rfl)) ?_; conv => whnf)
    (refine rq_s (by ((refine and_s rfl ?_; simp only [decide_eq_true_eq, List.length_map]; omega))) ?_; conv => whnf)
    (refine row_s (by ((try simp only [Int.toNat_natCast]); exact row_map boolR _ _ _ default (by first | omega | (simp; omega)))) ?_; conv => whnf)
    (refine rq_s (by (rfl)) ?_; conv => whnf)
    (refine br_s (fun hb => ?_) (fun hb => ?_) <;> (try simp only [beq_iff_eq, bne_iff_ne, ne_eq, decide_eq_true_eq, decide_eq_false_iff_not, Int.not_lt, Int.not_le, Bool.false_eq_true, if_false, if_true, beq_eq_false_iff_ne, bne_eq_false_iff_eq, Bool.not_eq_true', Bool.not_eq_false', Int.ofNat_lt, Int.ofNat_le, Int.ofNat_inj, List.length_map, List.length_nil, List.length_cons] at hb) <;> conv => whnf)
    (refine rq_s (by (rfl)) ?_; conv => whnf)
    iterate 2 (rotate_left)
    (refine rq_s (by (rfl)) ?_; conv => whnf)
    rotate_left
    · have hi2 : i < xs.length := by assumption
      exact sh_s (by rw [heldS_bad mksB 1 default hi2 hb])
    · have hi2 : i < xs.length := by assumption
      exact head_s (i + 1) ⟨⟨by omega, heldS_next mksB 1 default hi2 ht hb⟩, by omega⟩ (by rw [e1 hi2, wrap64 (n := (i : Int) + 1) (by omega) (by omega)]; rfl) rfl
    · obtain rfl : i = xs.length := by omega
      exact sh_s (by rw [heldS_done mksB 1 (by omega) hi ht])

theorem c52 (xs ys : List Int) : Con Tryd.prog 52 [roI xs, roI ys] (undefs [roI xs, roI ys]) (.bool (decide (xs = ys))) := by
  refine Con.evF 26 T_ok mix Tryd.func52 rfl rfl rfl rfl [.tmp 4] rfl fun ⟨hx, _⟩ => ?_
  have hx := facts_len hx
  conv => whnf
  (refine br_s (fun hb => ?_) (fun hb => ?_) <;> (try simp only [beq_iff_eq, bne_iff_ne, ne_eq, decide_eq_true_eq, decide_eq_false_iff_not, Int.not_lt, Int.not_le, Bool.false_eq_true, if_false, if_true, beq_eq_false_iff_ne, bne_eq_false_iff_eq, Bool.not_eq_true', Bool.not_eq_false', Int.ofNat_lt, Int.ofNat_le, Int.ofNat_inj, List.length_map, List.length_nil, List.length_cons] at hb) <;> conv => whnf)
  (refine rq_s (by (rfl)) ?_; conv => whnf)
  iterate 2 (rotate_left)
  · refine sh_s ?_
    have : xs ≠ ys := fun e => hb (by rw [e])
    simp [this]
  · refine LoopG.rounds (α := Nat) T_ok mix [0, 1, 5] [] (fun i => [(0, roI xs), (1, roI ys), (5, .int .i64 i)]) (fun _ => []) (fun i => i ≤ xs.length ∧ xs.take i = ys.take i) (fun i => xs.length - i) ?_ ?_
    · conv => whnf
      exact head_s 0 ⟨by simp, by simp⟩ rfl rfl
    · rintro i ⟨h1, h2⟩ - -
      conv => whnf
      (refine br_s (fun hb => ?_) (fun hb => ?_) <;> (try simp only [beq_iff_eq, bne_iff_ne, ne_eq, decide_eq_true_eq, decide_eq_false_iff_not, Int.not_lt, Int.not_le, Bool.false_eq_true, if_false, if_true, beq_eq_false_iff_ne, bne_eq_false_iff_eq, Bool.not_eq_true', Bool.not_eq_false', Int.ofNat_lt, Int.ofNat_le, Int.ofNat_inj, List.length_map, List.length_nil, List.length_cons] at hb) <;> conv => whnf)
      iterate 3 (refine ChkS.mk (by kernel_rfl) ?_; conv => whnf)
      (refine rq_s (by (rfl)) ?_; conv => whnf)
      (refine rq_s (by ((refine and_s rfl ?_; simp only [decide_eq_true_eq, List.length_map]; omega))) ?_; conv => whnf)
      (refine ChkS.mk (by kernel_rfl) ?_; conv => whnf)
      (refine row_s (by ((try simp only [Int.toNat_natCast]); exact row_map intR _ _ _ default (by first | omega | (simp; omega)))) ?_; conv => whnf)
      iterate 3 (refine ChkS.mk (by kernel_rfl) ?_; conv => whnf)
      (refine rq_s (by (rfl)) ?_; conv => whnf)
      (refine rq_s (by ((refine and_s rfl ?_; simp only [decide_eq_true_eq, List.length_map]; omega))) ?_; conv => whnf)
      (refine ChkS.mk (by kernel_rfl) ?_; conv => whnf)
      (refine row_s (by ((try simp only [Int.toNat_natCast]); exact row_map intR _ _ _ default (by first | omega | (simp; omega)))) ?_; conv => whnf)
      iterate 2 (refine ChkS.mk (by kernel_rfl) ?_; conv => whnf)
      (refine br_s (fun hb => ?_) (fun hb => ?_) <;> (try simp only [beq_iff_eq, bne_iff_ne, ne_eq, decide_eq_true_eq, decide_eq_false_iff_not, Int.not_lt, Int.not_le, Bool.false_eq_true, if_false, if_true, beq_eq_false_iff_ne, bne_eq_false_iff_eq, Bool.not_eq_true', Bool.not_eq_false', Int.ofNat_lt, Int.ofNat_le, Int.ofNat_inj, List.length_map, List.length_nil, List.length_cons] at hb) <;> conv => whnf)
      (refine rq_s (by (rfl)) ?_; conv => whnf)
      iterate 2 (rotate_left)
      (refine rq_s (by (rfl)) ?_; conv => whnf)
      rotate_left
      · refine sh_s ?_
        have : xs ≠ ys := fun e => hb (by rw [e])
        simp [this]
      · exact head_s (i + 1) ⟨⟨by omega, take_next default h2 (by omega) (by omega) hb⟩, by omega⟩ (by rw [wrap64 (by omega) (by omega)]; rfl) rfl
      · refine sh_s ?_
        simp [take_done h2 (by omega) (by omega)]
theorem mr64 (xs : List Int) (i : Nat) (z : List AV) (y : Int) (h : i < xs.length) : setRow (xs.map intR) i 0 z [.int .i64 y] = (xs.set i y).map intR := by
  simp [setRow, setCells, rowA, List.getD_eq_getElem?_getD, h, intR, List.map_set]
theorem c64 (xs : List Int) (k : Int) (h1 : 0 ≤ k) (h2 : k + 1 * xs.length ≤ 1000000000) : Con Tryd.prog 64 [.own 0 zI (xs.map intR), .int .i64 k] [.own 0 zI ((mkS mksI 1 xs.length k).map intR), .undef] (.int .i64 (k + 1 * xs.length)) := by
  refine Con.evM 19 [true, false] [some 500000, none] [500000] rfl rfl rfl T_ok mix Tryd.func64 rfl rfl rfl rfl [.tmp 4] rfl ?_
  conv => whnf
  rotate_left
  refine LoopG.rounds (α := Nat) T_ok mix [0, 1, 5] [(500000, 500000)] (fun i => [(0, .ref 500000 0 xs.length), (1, .int .i64 (k + 1 * i)), (5, .int .i64 i)]) (fun i => [(500000, .live ⟨true, 0, zI, (mixS mksI 1 xs k i).map intR⟩)]) (fun i => i ≤ xs.length) (fun i => xs.length - i) ?_ ?_
  · conv => whnf
    exact head_s 0 (by simp) (by simp) (by rw [mixS_zero])
  · intro i hi _ _
    have hlen := mixS_len mksI 1 (k := k) hi
    have e1 : i < xs.length → IntKind.i64.wrap (k + 1 * (i : Int) + 1) = k + 1 * ((i + 1 : Nat) : Int) := fun _ => (wrap64 (by omega) (by omega)).trans (by omega)
    conv => whnf
    (refine br_s (fun hb => ?_) (fun hb => ?_) <;> (try simp only [beq_iff_eq, bne_iff_ne, ne_eq, decide_eq_true_eq, decide_eq_false_iff_not, Int.not_lt, Int.not_le, Bool.false_eq_true, if_false, if_true, beq_eq_false_iff_ne, bne_eq_false_iff_eq, Bool.not_eq_true', Bool.not_eq_false', Int.ofNat_lt, Int.ofNat_le, Int.ofNat_inj, List.length_map, List.length_nil, List.length_cons] at hb) <;> conv => whnf)
    (refine rq_s (by (rfl)) ?_; conv => whnf)
    (refine rq_s (by ((simp only [decide_eq_true_eq, List.length_map, mkS_len]; done))) ?_; conv => whnf)
    (refine rq_s (by ((refine and_s rfl ?_; simp only [decide_eq_true_eq, List.length_map]; omega))) ?_; conv => whnf)
    (refine rows_s (by (rfl)) ?_; conv => whnf)
    rotate_left
    (refine rq_s (by (rfl)) ?_; conv => whnf)
    rotate_left
    · have hi2 : i < xs.length := by assumption
      refine head_s (i + 1) ⟨by omega, by omega⟩ ?_ (congrArg (fun r => [(500000, MB.live ⟨true, 0, zI, r⟩)]) ?_)
      · rw [e1 hi2, wrap64 (n := (i : Int) + 1) (by omega) (by omega)]
        rfl
      · simp only [Nat.zero_add, Int.toNat_natCast]
        exact (mr64 _ i _ (mksI (k + 1 * i)) (by omega)).trans (by rw [← mixS_next mksI 1 hi2])
    · obtain rfl : i = xs.length := by omega
      refine aft_s (by simp [AV.rowsN, hlen]) (by simp [mixS_all]) ?_
      exact sh_s rfl
theorem c140 (xs : List Int) (k : Int) (h1 : 0 ≤ k) (h2 : k + 1 * xs.length ≤ 1000000000) : Con Tryd.prog 140 [roI xs, .int .i64 k] (undefs [roI xs, .int .i64 k]) (.int .i64 (heldS mksI 1 xs k)) := by
  refine Con.ev 21 T_ok mix Tryd.func140 rfl rfl rfl rfl [.tmp 4] rfl ?_
  conv => whnf
  rotate_left
  refine LoopG.rounds (α := Nat) T_ok mix [0, 1, 5] [] (fun i => [(0, roI xs), (1, .int .i64 (k + 1 * i)), (5, .int .i64 i)]) (fun _ => []) (fun i => i ≤ xs.length ∧ xs.take i = mkS mksI 1 i k) (fun i => xs.length - i) ?_ ?_
  · conv => whnf
    exact head_s 0 ⟨by simp, by simp [mkS]⟩ (by simp [roI]) rfl
  · rintro i ⟨hi, ht⟩ - -
    have e1 : i < xs.length → IntKind.i64.wrap (k + 1 * (i : Int) + 1) = k + 1 * ((i + 1 : Nat) : Int) := fun _ => (wrap64 (by omega) (by omega)).trans (by omega)
    conv => whnf
    (refine br_s (fun hb => ?_) (fun hb => ?_) <;> (try simp only [beq_iff_eq, bne_iff_ne, ne_eq, decide_eq_true_eq, decide_eq_false_iff_not, Int.not_lt, Int.not_le, Bool.false_eq_true, if_false, if_true, beq_eq_false_iff_ne, bne_eq_false_iff_eq, Bool.not_eq_true', Bool.not_eq_false', Int.ofNat_lt, Int.ofNat_le, Int.ofNat_inj, List.length_map, List.length_nil, List.length_cons] at hb) <;> conv => whnf)
    (refine rq_s (by (rfl)) ?_; conv => whnf)
    (refine rq_s (by ((refine and_s rfl ?_; simp only [decide_eq_true_eq, List.length_map]; omega))) ?_; conv => whnf)
    (refine row_s (by ((try simp only [Int.toNat_natCast]); exact row_map intR _ _ _ default (by first | omega | (simp; omega)))) ?_; conv => whnf)
    (refine br_s (fun hb => ?_) (fun hb => ?_) <;> (try simp only [beq_iff_eq, bne_iff_ne, ne_eq, decide_eq_true_eq, decide_eq_false_iff_not, Int.not_lt, Int.not_le, Bool.false_eq_true, if_false, if_true, beq_eq_false_iff_ne, bne_eq_false_iff_eq, Bool.not_eq_true', Bool.not_eq_false', Int.ofNat_lt, Int.ofNat_le, Int.ofNat_inj, List.length_map, List.length_nil, List.length_cons] at hb) <;> conv => whnf)
    (refine rq_s (by (rfl)) ?_; conv => whnf)
    iterate 2 (rotate_left)
    (refine rq_s (by (rfl)) ?_; conv => whnf)
    rotate_left
    · have hi2 : i < xs.length := by assumption
      exact sh_s (by rw [heldS_bad mksI 1 default hi2 hb])
    · have hi2 : i < xs.length := by assumption
      exact head_s (i + 1) ⟨⟨by omega, heldS_next mksI 1 default hi2 ht hb⟩, by omega⟩ (by rw [e1 hi2, wrap64 (n := (i : Int) + 1) (by omega) (by omega)]; rfl) rfl
    · obtain rfl : i = xs.length := by omega
      exact sh_s (by rw [heldS_done mksI 1 (by omega) hi ht])


theorem c111 (a b : Deal) : Con Tryd.prog 111 [dealV a, dealV b] (undefs [dealV a, dealV b]) (.bool (decide (a = b))) := by
  refine Con.ev 25 T_ok mix Tryd.func111 rfl rfl rfl rfl [.tmp 4] rfl ?_
  conv => whnf
  iterate 4 (refine rq_s (by (rfl)) ?_; conv => whnf)
  (refine br_s (fun hb => ?_) (fun hb => ?_) <;> (try simp only [beq_iff_eq, bne_iff_ne, ne_eq, decide_eq_true_eq, decide_eq_false_iff_not, Int.not_lt, Int.not_le, Bool.false_eq_true, if_false, if_true, beq_eq_false_iff_ne, bne_eq_false_iff_eq, Bool.not_eq_true', Bool.not_eq_false', Int.ofNat_lt, Int.ofNat_le, Int.ofNat_inj, List.length_map, List.length_nil, List.length_cons] at hb) <;> conv => whnf)
  (refine rq_s (by (rfl)) ?_; conv => whnf)
  (refine sh_s ?_; ((cases a; cases b; simp_all)))
  iterate 2 (refine rq_s (by (rfl)) ?_; conv => whnf)
  (refine br_s (fun hb => ?_) (fun hb => ?_) <;> (try simp only [beq_iff_eq, bne_iff_ne, ne_eq, decide_eq_true_eq, decide_eq_false_iff_not, Int.not_lt, Int.not_le, Bool.false_eq_true, if_false, if_true, beq_eq_false_iff_ne, bne_eq_false_iff_eq, Bool.not_eq_true', Bool.not_eq_false', Int.ofNat_lt, Int.ofNat_le, Int.ofNat_inj, List.length_map, List.length_nil, List.length_cons] at hb) <;> conv => whnf)
  (refine rq_s (by (rfl)) ?_; conv => whnf)
  (refine sh_s ?_; ((cases a; cases b; simp_all)))
  iterate 2 (refine rq_s (by (rfl)) ?_; conv => whnf)
  (refine br_s (fun hb => ?_) (fun hb => ?_) <;> (try simp only [beq_iff_eq, bne_iff_ne, ne_eq, decide_eq_true_eq, decide_eq_false_iff_not, Int.not_lt, Int.not_le, Bool.false_eq_true, if_false, if_true, beq_eq_false_iff_ne, bne_eq_false_iff_eq, Bool.not_eq_true', Bool.not_eq_false', Int.ofNat_lt, Int.ofNat_le, Int.ofNat_inj, List.length_map, List.length_nil, List.length_cons] at hb) <;> conv => whnf)
  (refine rq_s (by (rfl)) ?_; conv => whnf)
  (refine sh_s ?_; ((cases a; cases b; simp_all)))
  iterate 2 (refine rq_s (by (rfl)) ?_; conv => whnf)
  (refine br_s (fun hb => ?_) (fun hb => ?_) <;> (try simp only [beq_iff_eq, bne_iff_ne, ne_eq, decide_eq_true_eq, decide_eq_false_iff_not, Int.not_lt, Int.not_le, Bool.false_eq_true, if_false, if_true, beq_eq_false_iff_ne, bne_eq_false_iff_eq, Bool.not_eq_true', Bool.not_eq_false', Int.ofNat_lt, Int.ofNat_le, Int.ofNat_inj, List.length_map, List.length_nil, List.length_cons] at hb) <;> conv => whnf)
  (refine rq_s (by (rfl)) ?_; conv => whnf)
  (refine sh_s ?_; ((cases a; cases b; simp_all)))
  (refine rq_s (by (rfl)) ?_; conv => whnf)
  (refine sh_s ?_; ((cases a; cases b; simp_all)))
theorem c62 (xs ys : List Deal) : Con Tryd.prog 62 [roD xs, roD ys] (undefs [roD xs, roD ys]) (.bool (decide (xs = ys))) := by
  refine Con.evF 27 T_ok mix Tryd.func62 rfl rfl rfl rfl [.tmp 4] rfl fun ⟨hx, _⟩ => ?_
  have hx := facts_len hx
  conv => whnf
  (refine br_s (fun hb => ?_) (fun hb => ?_) <;> (try simp only [beq_iff_eq, bne_iff_ne, ne_eq, decide_eq_true_eq, decide_eq_false_iff_not, Int.not_lt, Int.not_le, Bool.false_eq_true, if_false, if_true, beq_eq_false_iff_ne, bne_eq_false_iff_eq, Bool.not_eq_true', Bool.not_eq_false', Int.ofNat_lt, Int.ofNat_le, Int.ofNat_inj, List.length_map, List.length_nil, List.length_cons] at hb) <;> conv => whnf)
  (refine rq_s (by (rfl)) ?_; conv => whnf)
  iterate 2 (rotate_left)
  · refine sh_s ?_
    have : xs ≠ ys := fun e => hb (by rw [e])
    simp [this]
  · refine LoopG.rounds (α := Nat) T_ok mix [0, 1, 5] [] (fun i => [(0, roD xs), (1, roD ys), (5, .int .i64 i)]) (fun _ => []) (fun i => i ≤ xs.length ∧ xs.take i = ys.take i) (fun i => xs.length - i) ?_ ?_
    · conv => whnf
      exact head_s 0 ⟨by simp, by simp⟩ rfl rfl
    · rintro i ⟨h1, h2⟩ - -
      conv => whnf
      (refine br_s (fun hb => ?_) (fun hb => ?_) <;> (try simp only [beq_iff_eq, bne_iff_ne, ne_eq, decide_eq_true_eq, decide_eq_false_iff_not, Int.not_lt, Int.not_le, Bool.false_eq_true, if_false, if_true, beq_eq_false_iff_ne, bne_eq_false_iff_eq, Bool.not_eq_true', Bool.not_eq_false', Int.ofNat_lt, Int.ofNat_le, Int.ofNat_inj, List.length_map, List.length_nil, List.length_cons] at hb) <;> conv => whnf)
      iterate 3 (refine ChkS.mk (by kernel_rfl) ?_; conv => whnf)
      (refine rq_s (by (rfl)) ?_; conv => whnf)
      (refine rq_s (by ((refine and_s rfl ?_; simp only [decide_eq_true_eq, List.length_map]; omega))) ?_; conv => whnf)
      (refine ChkS.mk (by kernel_rfl) ?_; conv => whnf)
      (refine row_s (by ((try simp only [Int.toNat_natCast]); exact row_map dealR _ _ _ default (by first | omega | (simp; omega)))) ?_; conv => whnf)
      iterate 3 (refine ChkS.mk (by kernel_rfl) ?_; conv => whnf)
      (refine rq_s (by (rfl)) ?_; conv => whnf)
      (refine rq_s (by ((refine and_s rfl ?_; simp only [decide_eq_true_eq, List.length_map]; omega))) ?_; conv => whnf)
      (refine ChkS.mk (by kernel_rfl) ?_; conv => whnf)
      (refine row_s (by ((try simp only [Int.toNat_natCast]); exact row_map dealR _ _ _ default (by first | omega | (simp; omega)))) ?_; conv => whnf)
      (refine ChkS.mk (by kernel_rfl) ?_; conv => whnf)
      iterate 8 (refine rq_s (by (rfl)) ?_; conv => whnf)
      (refine call_s (c111 ..) ?_; conv => whnf)
      iterate 2 (refine ChkS.mk (by kernel_rfl) ?_; conv => whnf)
      (refine br_s (fun hb => ?_) (fun hb => ?_) <;> (try simp only [beq_iff_eq, bne_iff_ne, ne_eq, decide_eq_true_eq, decide_eq_false_iff_not, Int.not_lt, Int.not_le, Bool.false_eq_true, if_false, if_true, beq_eq_false_iff_ne, bne_eq_false_iff_eq, Bool.not_eq_true', Bool.not_eq_false', Int.ofNat_lt, Int.ofNat_le, Int.ofNat_inj, List.length_map, List.length_nil, List.length_cons] at hb) <;> conv => whnf)
      (refine rq_s (by (rfl)) ?_; conv => whnf)
      iterate 2 (rotate_left)
      (refine rq_s (by (rfl)) ?_; conv => whnf)
      rotate_left
      · refine sh_s ?_
        have : xs ≠ ys := fun e => hb (by rw [e])
        simp [this]
      · exact head_s (i + 1) ⟨⟨by omega, take_next default h2 (by omega) (by omega) hb⟩, by omega⟩ (by rw [wrap64 (by omega) (by omega)]; rfl) rfl
      · refine sh_s ?_
        simp [take_done h2 (by omega) (by omega)]
theorem mr65 (xs : List Deal) (i : Nat) (z : List AV) (y : Deal) (h : i < xs.length) : setRow (setRow (setRow (setRow (xs.map dealR) i 0 z [.int .i64 y.c]) i 1 z [.int .i64 y.a]) i 2 z [.int .i64 y.b]) i 3 z [.int .i64 y.r] = (xs.set i y).map dealR := by
  simp [setRow, setCells, rowA, List.getD_eq_getElem?_getD, h, dealR, List.map_set]
theorem c65 (xs : List Deal) (k : Int) (h1 : 0 ≤ k) (h2 : k + 4 * xs.length ≤ 1000000000) : Con Tryd.prog 65 [.own 0 zD (xs.map dealR), .int .i64 k] [.own 0 zD ((mkS mksD 4 xs.length k).map dealR), .undef] (.int .i64 (k + 4 * xs.length)) := by
  refine Con.evM 41 [true, false] [some 500000, none] [500000] rfl rfl rfl T_ok mix Tryd.func65 rfl rfl rfl rfl [.tmp 4] rfl ?_
  conv => whnf
  rotate_left
  refine LoopG.rounds (α := Nat) T_ok mix [0, 1, 5] [(500000, 500000)] (fun i => [(0, .ref 500000 0 xs.length), (1, .int .i64 (k + 4 * i)), (5, .int .i64 i)]) (fun i => [(500000, .live ⟨true, 0, zD, (mixS mksD 4 xs k i).map dealR⟩)]) (fun i => i ≤ xs.length) (fun i => xs.length - i) ?_ ?_
  · conv => whnf
    exact head_s 0 (by simp) (by simp) (by rw [mixS_zero])
  · intro i hi _ _
    have hlen := mixS_len mksD 4 (k := k) hi
    have e1 : i < xs.length → IntKind.i64.wrap (k + 4 * (i : Int) + 1) = k + 4 * (i : Int) + 1 := fun _ => (wrap64 (by omega) (by omega)).trans (by omega)
    have e2 : i < xs.length → IntKind.i64.wrap (k + 4 * (i : Int) + 1 + 1) = k + 4 * (i : Int) + 2 := fun _ => (wrap64 (by omega) (by omega)).trans (by omega)
    have e3 : i < xs.length → IntKind.i64.wrap (k + 4 * (i : Int) + 2 + 1) = k + 4 * (i : Int) + 3 := fun _ => (wrap64 (by omega) (by omega)).trans (by omega)
    have e4 : i < xs.length → IntKind.i64.wrap (k + 4 * (i : Int) + 3 + 1) = k + 4 * ((i + 1 : Nat) : Int) := fun _ => (wrap64 (by omega) (by omega)).trans (by omega)
    conv => whnf
    (refine br_s (fun hb => ?_) (fun hb => ?_) <;> (try simp only [beq_iff_eq, bne_iff_ne, ne_eq, decide_eq_true_eq, decide_eq_false_iff_not, Int.not_lt, Int.not_le, Bool.false_eq_true, if_false, if_true, beq_eq_false_iff_ne, bne_eq_false_iff_eq, Bool.not_eq_true', Bool.not_eq_false', Int.ofNat_lt, Int.ofNat_le, Int.ofNat_inj, List.length_map, List.length_nil, List.length_cons] at hb) <;> conv => whnf)
    (refine rq_s (by (rfl)) ?_; conv => whnf)
    (refine rq_s (by ((simp only [decide_eq_true_eq, List.length_map, mkS_len]; done))) ?_; conv => whnf)
    (refine rq_s (by ((refine and_s rfl ?_; simp only [decide_eq_true_eq, List.length_map]; omega))) ?_; conv => whnf)
    (refine rq_s (by (rfl)) ?_; conv => whnf)
    (refine rows_s (by (rfl)) ?_; conv => whnf)
    (refine rq_s (by (rfl)) ?_; conv => whnf)
    (refine rq_s (by ((simp only [decide_eq_true_eq, List.length_map, mkS_len]; done))) ?_; conv => whnf)
    (refine rq_s (by ((refine and_s rfl ?_; simp only [decide_eq_true_eq, List.length_map]; omega))) ?_; conv => whnf)
    (refine rq_s (by (rfl)) ?_; conv => whnf)
    (refine rows_s (by (rfl)) ?_; conv => whnf)
    (refine rq_s (by (rfl)) ?_; conv => whnf)
    (refine rq_s (by ((simp only [decide_eq_true_eq, List.length_map, mkS_len]; done))) ?_; conv => whnf)
    (refine rq_s (by ((refine and_s rfl ?_; simp only [decide_eq_true_eq, List.length_map]; omega))) ?_; conv => whnf)
    (refine rq_s (by (rfl)) ?_; conv => whnf)
    (refine rows_s (by (rfl)) ?_; conv => whnf)
    (refine rq_s (by (rfl)) ?_; conv => whnf)
    (refine rq_s (by ((simp only [decide_eq_true_eq, List.length_map, mkS_len]; done))) ?_; conv => whnf)
    (refine rq_s (by ((refine and_s rfl ?_; simp only [decide_eq_true_eq, List.length_map]; omega))) ?_; conv => whnf)
    (refine rq_s (by (rfl)) ?_; conv => whnf)
    (refine rows_s (by (rfl)) ?_; conv => whnf)
    rotate_left
    (refine rq_s (by (rfl)) ?_; conv => whnf)
    rotate_left
    · have hi2 : i < xs.length := by assumption
      refine head_s (i + 1) ⟨by omega, by omega⟩ ?_ (congrArg (fun r => [(500000, MB.live ⟨true, 0, zD, r⟩)]) ?_)
      · rw [e1 hi2, e2 hi2, e3 hi2, e4 hi2, wrap64 (n := (i : Int) + 1) (by omega) (by omega)]
        rfl
      · rw [e1 hi2, e2 hi2, e3 hi2]
        simp only [Nat.zero_add, Int.toNat_natCast]
        exact (mr65 _ i _ (mksD (k + 4 * i)) (by omega)).trans (by rw [← mixS_next mksD 4 hi2])
    · obtain rfl : i = xs.length := by omega
      refine aft_s (by simp [AV.rowsN, hlen]) (by simp [mixS_all]) ?_
      exact sh_s rfl
theorem c168 (xs : List Deal) (k : Int) (h1 : 0 ≤ k) (h2 : k + 4 * xs.length ≤ 1000000000) : Con Tryd.prog 168 [roD xs, .int .i64 k] (undefs [roD xs, .int .i64 k]) (.int .i64 (heldS mksD 4 xs k)) := by
  refine Con.ev 49 T_ok mix Tryd.func168 rfl rfl rfl rfl [.tmp 4] rfl ?_
  conv => whnf
  rotate_left
  refine LoopG.rounds (α := Nat) T_ok mix [0, 1, 5] [] (fun i => [(0, roD xs), (1, .int .i64 (k + 4 * i)), (5, .int .i64 i)]) (fun _ => []) (fun i => i ≤ xs.length ∧ xs.take i = mkS mksD 4 i k) (fun i => xs.length - i) ?_ ?_
  · conv => whnf
    exact head_s 0 ⟨by simp, by simp [mkS]⟩ (by simp [roD]) rfl
  · rintro i ⟨hi, ht⟩ - -
    have e1 : i < xs.length → IntKind.i64.wrap (k + 4 * (i : Int) + 1) = k + 4 * (i : Int) + 1 := fun _ => (wrap64 (by omega) (by omega)).trans (by omega)
    have e2 : i < xs.length → IntKind.i64.wrap (k + 4 * (i : Int) + 1 + 1) = k + 4 * (i : Int) + 2 := fun _ => (wrap64 (by omega) (by omega)).trans (by omega)
    have e3 : i < xs.length → IntKind.i64.wrap (k + 4 * (i : Int) + 2 + 1) = k + 4 * (i : Int) + 3 := fun _ => (wrap64 (by omega) (by omega)).trans (by omega)
    have e4 : i < xs.length → IntKind.i64.wrap (k + 4 * (i : Int) + 3 + 1) = k + 4 * ((i + 1 : Nat) : Int) := fun _ => (wrap64 (by omega) (by omega)).trans (by omega)
    conv => whnf
    (refine br_s (fun hb => ?_) (fun hb => ?_) <;> (try simp only [beq_iff_eq, bne_iff_ne, ne_eq, decide_eq_true_eq, decide_eq_false_iff_not, Int.not_lt, Int.not_le, Bool.false_eq_true, if_false, if_true, beq_eq_false_iff_ne, bne_eq_false_iff_eq, Bool.not_eq_true', Bool.not_eq_false', Int.ofNat_lt, Int.ofNat_le, Int.ofNat_inj, List.length_map, List.length_nil, List.length_cons] at hb) <;> conv => whnf)
    (refine rq_s (by (rfl)) ?_; conv => whnf)
    (refine rq_s (by ((refine and_s rfl ?_; simp only [decide_eq_true_eq, List.length_map]; omega))) ?_; conv => whnf)
    (refine rq_s (by (rfl)) ?_; conv => whnf)
    (refine row_s (by ((try simp only [Int.toNat_natCast]); exact row_map dealR _ _ _ default (by first | omega | (simp; omega)))) ?_; conv => whnf)
    (refine br_s (fun hb => ?_) (fun hb => ?_) <;> (try simp only [beq_iff_eq, bne_iff_ne, ne_eq, decide_eq_true_eq, decide_eq_false_iff_not, Int.not_lt, Int.not_le, Bool.false_eq_true, if_false, if_true, beq_eq_false_iff_ne, bne_eq_false_iff_eq, Bool.not_eq_true', Bool.not_eq_false', Int.ofNat_lt, Int.ofNat_le, Int.ofNat_inj, List.length_map, List.length_nil, List.length_cons] at hb) <;> conv => whnf)
    (refine rq_s (by (rfl)) ?_; conv => whnf)
    rotate_left
    (refine rq_s (by (rfl)) ?_; conv => whnf)
    (refine rq_s (by ((refine and_s rfl ?_; simp only [decide_eq_true_eq, List.length_map]; omega))) ?_; conv => whnf)
    (refine rq_s (by (rfl)) ?_; conv => whnf)
    (refine row_s (by ((try simp only [Int.toNat_natCast]); exact row_map dealR _ _ _ default (by first | omega | (simp; omega)))) ?_; conv => whnf)
    (refine br_s (fun hb => ?_) (fun hb => ?_) <;> (try simp only [beq_iff_eq, bne_iff_ne, ne_eq, decide_eq_true_eq, decide_eq_false_iff_not, Int.not_lt, Int.not_le, Bool.false_eq_true, if_false, if_true, beq_eq_false_iff_ne, bne_eq_false_iff_eq, Bool.not_eq_true', Bool.not_eq_false', Int.ofNat_lt, Int.ofNat_le, Int.ofNat_inj, List.length_map, List.length_nil, List.length_cons] at hb) <;> conv => whnf)
    (refine rq_s (by (rfl)) ?_; conv => whnf)
    rotate_left
    (refine rq_s (by (rfl)) ?_; conv => whnf)
    (refine rq_s (by ((refine and_s rfl ?_; simp only [decide_eq_true_eq, List.length_map]; omega))) ?_; conv => whnf)
    (refine rq_s (by (rfl)) ?_; conv => whnf)
    (refine row_s (by ((try simp only [Int.toNat_natCast]); exact row_map dealR _ _ _ default (by first | omega | (simp; omega)))) ?_; conv => whnf)
    (refine br_s (fun hb => ?_) (fun hb => ?_) <;> (try simp only [beq_iff_eq, bne_iff_ne, ne_eq, decide_eq_true_eq, decide_eq_false_iff_not, Int.not_lt, Int.not_le, Bool.false_eq_true, if_false, if_true, beq_eq_false_iff_ne, bne_eq_false_iff_eq, Bool.not_eq_true', Bool.not_eq_false', Int.ofNat_lt, Int.ofNat_le, Int.ofNat_inj, List.length_map, List.length_nil, List.length_cons] at hb) <;> conv => whnf)
    (refine rq_s (by (rfl)) ?_; conv => whnf)
    rotate_left
    (refine rq_s (by (rfl)) ?_; conv => whnf)
    (refine rq_s (by ((refine and_s rfl ?_; simp only [decide_eq_true_eq, List.length_map]; omega))) ?_; conv => whnf)
    (refine rq_s (by (rfl)) ?_; conv => whnf)
    (refine row_s (by ((try simp only [Int.toNat_natCast]); exact row_map dealR _ _ _ default (by first | omega | (simp; omega)))) ?_; conv => whnf)
    (refine br_s (fun hb => ?_) (fun hb => ?_) <;> (try simp only [beq_iff_eq, bne_iff_ne, ne_eq, decide_eq_true_eq, decide_eq_false_iff_not, Int.not_lt, Int.not_le, Bool.false_eq_true, if_false, if_true, beq_eq_false_iff_ne, bne_eq_false_iff_eq, Bool.not_eq_true', Bool.not_eq_false', Int.ofNat_lt, Int.ofNat_le, Int.ofNat_inj, List.length_map, List.length_nil, List.length_cons] at hb) <;> conv => whnf)
    (refine rq_s (by (rfl)) ?_; conv => whnf)
    iterate 2 (rotate_left)
    (refine rq_s (by (rfl)) ?_; conv => whnf)
    rotate_left
    · have hi2 : i < xs.length := by assumption
      exact sh_s (by rw [heldS_bad mksD 4 default hi2 fun e => hb (by rw [e]; rfl)])
    · rename_i hi2 _
      exact sh_s (by rw [heldS_bad mksD 4 default hi2 fun e => hb (by rw [e, e1 hi2]; rfl)])
    · rename_i hi2 _ _
      exact sh_s (by rw [heldS_bad mksD 4 default hi2 fun e => hb (by rw [e, e1 hi2, e2 hi2]; rfl)])
    · rename_i hi2 _ _ _
      exact sh_s (by rw [heldS_bad mksD 4 default hi2 fun e => hb (by rw [e, e1 hi2, e2 hi2, e3 hi2]; rfl)])
    · rename_i hi2 q1 q2 q3
      rw [e1 hi2] at q2
      rw [e1 hi2, e2 hi2] at q3
      rw [e1 hi2, e2 hi2, e3 hi2] at hb
      have h3 : xs.getD i default = mksD (k + 4 * i) := by
        generalize hg : xs.getD i default = y at *
        cases y
        simp only at q1 q2 q3 hb
        simp only [mksD, Deal.mk.injEq]
        exact ⟨q1, q2, q3, hb⟩
      refine head_s (i + 1) ⟨⟨by omega, heldS_next mksD 4 default hi2 ht h3⟩, by omega⟩ (by rw [e1 hi2, e2 hi2, e3 hi2, e4 hi2, wrap64 (n := (i : Int) + 1) (by omega) (by omega)]; rfl) rfl
    · obtain rfl : i = xs.length := by omega
      exact sh_s (by rw [heldS_done mksD 4 (by omega) hi ht])

theorem c76 (a b : Wd) : Con Tryd.prog 76 [wdV a, wdV b] (undefs [wdV a, wdV b]) (.bool (decide (a = b))) := by
  refine Con.ev 20 T_ok mix Tryd.func76 rfl rfl rfl rfl [.tmp 4] rfl ?_
  conv => whnf
  iterate 4 (refine rq_s (by (rfl)) ?_; conv => whnf)
  (refine br_s (fun hb => ?_) (fun hb => ?_) <;> (try simp only [beq_iff_eq, bne_iff_ne, ne_eq, decide_eq_true_eq, decide_eq_false_iff_not, Int.not_lt, Int.not_le, Bool.false_eq_true, if_false, if_true, beq_eq_false_iff_ne, bne_eq_false_iff_eq, Bool.not_eq_true', Bool.not_eq_false', Int.ofNat_lt, Int.ofNat_le, Int.ofNat_inj, List.length_map, List.length_nil, List.length_cons] at hb) <;> conv => whnf)
  (refine rq_s (by (rfl)) ?_; conv => whnf)
  (refine sh_s ?_; ((cases a; cases b; simp_all)))
  iterate 2 (refine rq_s (by (rfl)) ?_; conv => whnf)
  (refine br_s (fun hb => ?_) (fun hb => ?_) <;> (try simp only [beq_iff_eq, bne_iff_ne, ne_eq, decide_eq_true_eq, decide_eq_false_iff_not, Int.not_lt, Int.not_le, Bool.false_eq_true, if_false, if_true, beq_eq_false_iff_ne, bne_eq_false_iff_eq, Bool.not_eq_true', Bool.not_eq_false', Int.ofNat_lt, Int.ofNat_le, Int.ofNat_inj, List.length_map, List.length_nil, List.length_cons] at hb) <;> conv => whnf)
  (refine rq_s (by (rfl)) ?_; conv => whnf)
  (refine sh_s ?_; ((cases a; cases b; simp_all)))
  iterate 2 (refine rq_s (by (rfl)) ?_; conv => whnf)
  (refine br_s (fun hb => ?_) (fun hb => ?_) <;> (try simp only [beq_iff_eq, bne_iff_ne, ne_eq, decide_eq_true_eq, decide_eq_false_iff_not, Int.not_lt, Int.not_le, Bool.false_eq_true, if_false, if_true, beq_eq_false_iff_ne, bne_eq_false_iff_eq, Bool.not_eq_true', Bool.not_eq_false', Int.ofNat_lt, Int.ofNat_le, Int.ofNat_inj, List.length_map, List.length_nil, List.length_cons] at hb) <;> conv => whnf)
  (refine rq_s (by (rfl)) ?_; conv => whnf)
  (refine sh_s ?_; ((cases a; cases b; simp_all)))
  (refine rq_s (by (rfl)) ?_; conv => whnf)
  (refine sh_s ?_; ((cases a; cases b; simp_all)))
theorem c28 (xs ys : List Wd) : Con Tryd.prog 28 [roW xs, roW ys] (undefs [roW xs, roW ys]) (.bool (decide (xs = ys))) := by
  refine Con.evF 27 T_ok mix Tryd.func28 rfl rfl rfl rfl [.tmp 4] rfl fun ⟨hx, _⟩ => ?_
  have hx := facts_len hx
  conv => whnf
  (refine br_s (fun hb => ?_) (fun hb => ?_) <;> (try simp only [beq_iff_eq, bne_iff_ne, ne_eq, decide_eq_true_eq, decide_eq_false_iff_not, Int.not_lt, Int.not_le, Bool.false_eq_true, if_false, if_true, beq_eq_false_iff_ne, bne_eq_false_iff_eq, Bool.not_eq_true', Bool.not_eq_false', Int.ofNat_lt, Int.ofNat_le, Int.ofNat_inj, List.length_map, List.length_nil, List.length_cons] at hb) <;> conv => whnf)
  (refine rq_s (by (rfl)) ?_; conv => whnf)
  iterate 2 (rotate_left)
  · refine sh_s ?_
    have : xs ≠ ys := fun e => hb (by rw [e])
    simp [this]
  · refine LoopG.rounds (α := Nat) T_ok mix [0, 1, 5] [] (fun i => [(0, roW xs), (1, roW ys), (5, .int .i64 i)]) (fun _ => []) (fun i => i ≤ xs.length ∧ xs.take i = ys.take i) (fun i => xs.length - i) ?_ ?_
    · conv => whnf
      exact head_s 0 ⟨by simp, by simp⟩ rfl rfl
    · rintro i ⟨h1, h2⟩ - -
      conv => whnf
      (refine br_s (fun hb => ?_) (fun hb => ?_) <;> (try simp only [beq_iff_eq, bne_iff_ne, ne_eq, decide_eq_true_eq, decide_eq_false_iff_not, Int.not_lt, Int.not_le, Bool.false_eq_true, if_false, if_true, beq_eq_false_iff_ne, bne_eq_false_iff_eq, Bool.not_eq_true', Bool.not_eq_false', Int.ofNat_lt, Int.ofNat_le, Int.ofNat_inj, List.length_map, List.length_nil, List.length_cons] at hb) <;> conv => whnf)
      iterate 3 (refine ChkS.mk (by kernel_rfl) ?_; conv => whnf)
      (refine rq_s (by (rfl)) ?_; conv => whnf)
      (refine rq_s (by ((refine and_s rfl ?_; simp only [decide_eq_true_eq, List.length_map]; omega))) ?_; conv => whnf)
      (refine ChkS.mk (by kernel_rfl) ?_; conv => whnf)
      (refine row_s (by ((try simp only [Int.toNat_natCast]); exact row_map wdR _ _ _ default (by first | omega | (simp; omega)))) ?_; conv => whnf)
      iterate 3 (refine ChkS.mk (by kernel_rfl) ?_; conv => whnf)
      (refine rq_s (by (rfl)) ?_; conv => whnf)
      (refine rq_s (by ((refine and_s rfl ?_; simp only [decide_eq_true_eq, List.length_map]; omega))) ?_; conv => whnf)
      (refine ChkS.mk (by kernel_rfl) ?_; conv => whnf)
      (refine row_s (by ((try simp only [Int.toNat_natCast]); exact row_map wdR _ _ _ default (by first | omega | (simp; omega)))) ?_; conv => whnf)
      (refine ChkS.mk (by kernel_rfl) ?_; conv => whnf)
      iterate 6 (refine rq_s (by (rfl)) ?_; conv => whnf)
      (refine call_s (c76 ..) ?_; conv => whnf)
      iterate 2 (refine ChkS.mk (by kernel_rfl) ?_; conv => whnf)
      (refine br_s (fun hb => ?_) (fun hb => ?_) <;> (try simp only [beq_iff_eq, bne_iff_ne, ne_eq, decide_eq_true_eq, decide_eq_false_iff_not, Int.not_lt, Int.not_le, Bool.false_eq_true, if_false, if_true, beq_eq_false_iff_ne, bne_eq_false_iff_eq, Bool.not_eq_true', Bool.not_eq_false', Int.ofNat_lt, Int.ofNat_le, Int.ofNat_inj, List.length_map, List.length_nil, List.length_cons] at hb) <;> conv => whnf)
      (refine rq_s (by (rfl)) ?_; conv => whnf)
      iterate 2 (rotate_left)
      (refine rq_s (by (rfl)) ?_; conv => whnf)
      rotate_left
      · refine sh_s ?_
        have : xs ≠ ys := fun e => hb (by rw [e])
        simp [this]
      · exact head_s (i + 1) ⟨⟨by omega, take_next default h2 (by omega) (by omega) hb⟩, by omega⟩ (by rw [wrap64 (by omega) (by omega)]; rfl) rfl
      · refine sh_s ?_
        simp [take_done h2 (by omega) (by omega)]
theorem mr136 (xs : List Wd) (i : Nat) (z : List AV) (y : Wd) (h : i < xs.length) : setRow (setRow (setRow (xs.map wdR) i 0 z [.str y.nm]) i 1 z [.int .i64 y.k]) i 2 z [.int .i64 y.v] = (xs.set i y).map wdR := by
  simp [setRow, setCells, rowA, List.getD_eq_getElem?_getD, h, wdR, List.map_set]
theorem c136 (xs : List Wd) (k : Int) (h1 : 0 ≤ k) (h2 : k + 3 * xs.length ≤ 1000000000) : Con Tryd.prog 136 [.own 0 zW (xs.map wdR), .int .i64 k] [.own 0 zW ((mkS mksW 3 xs.length k).map wdR), .undef] (.int .i64 (k + 3 * xs.length)) := by
  refine Con.evM 35 [true, false] [some 500000, none] [500000] rfl rfl rfl T_ok mix Tryd.func136 rfl rfl rfl rfl [.tmp 4] rfl ?_
  conv => whnf
  rotate_left
  refine LoopG.rounds (α := Nat) T_ok mix [0, 1, 5] [(500000, 500000)] (fun i => [(0, .ref 500000 0 xs.length), (1, .int .i64 (k + 3 * i)), (5, .int .i64 i)]) (fun i => [(500000, .live ⟨true, 0, zW, (mixS mksW 3 xs k i).map wdR⟩)]) (fun i => i ≤ xs.length) (fun i => xs.length - i) ?_ ?_
  · conv => whnf
    exact head_s 0 (by simp) (by simp) (by rw [mixS_zero])
  · intro i hi _ _
    have hlen := mixS_len mksW 3 (k := k) hi
    have e1 : i < xs.length → IntKind.i64.wrap (k + 3 * (i : Int) + 1) = k + 3 * (i : Int) + 1 := fun _ => (wrap64 (by omega) (by omega)).trans (by omega)
    have e2 : i < xs.length → IntKind.i64.wrap (k + 3 * (i : Int) + 1 + 1) = k + 3 * (i : Int) + 2 := fun _ => (wrap64 (by omega) (by omega)).trans (by omega)
    have e3 : i < xs.length → IntKind.i64.wrap (k + 3 * (i : Int) + 2 + 1) = k + 3 * ((i + 1 : Nat) : Int) := fun _ => (wrap64 (by omega) (by omega)).trans (by omega)
    conv => whnf
    (refine br_s (fun hb => ?_) (fun hb => ?_) <;> (try simp only [beq_iff_eq, bne_iff_ne, ne_eq, decide_eq_true_eq, decide_eq_false_iff_not, Int.not_lt, Int.not_le, Bool.false_eq_true, if_false, if_true, beq_eq_false_iff_ne, bne_eq_false_iff_eq, Bool.not_eq_true', Bool.not_eq_false', Int.ofNat_lt, Int.ofNat_le, Int.ofNat_inj, List.length_map, List.length_nil, List.length_cons] at hb) <;> conv => whnf)
    (refine rq_s (by (rfl)) ?_; conv => whnf)
    (refine lend_s ?_; conv => whnf)
    (refine call_s (c66 _ (by omega) (by omega)) ?_; conv => whnf)
    (refine rq_s (by (rfl)) ?_; conv => whnf)
    (refine rq_s (by ((simp only [decide_eq_true_eq, List.length_map, mkS_len]; done))) ?_; conv => whnf)
    (refine rq_s (by ((refine and_s rfl ?_; simp only [decide_eq_true_eq, List.length_map]; omega))) ?_; conv => whnf)
    (refine rq_s (by (rfl)) ?_; conv => whnf)
    (refine rows_s (by (rfl)) ?_; conv => whnf)
    (refine fac_s (fun hf => ?_); conv => whnf)
    (refine rq_s (by (rfl)) ?_; conv => whnf)
    (refine rq_s (by ((simp only [decide_eq_true_eq, List.length_map, mkS_len]; done))) ?_; conv => whnf)
    (refine rq_s (by ((refine and_s rfl ?_; simp only [decide_eq_true_eq, List.length_map]; omega))) ?_; conv => whnf)
    (refine rq_s (by (rfl)) ?_; conv => whnf)
    (refine rows_s (by (rfl)) ?_; conv => whnf)
    (refine rq_s (by (rfl)) ?_; conv => whnf)
    (refine rq_s (by ((simp only [decide_eq_true_eq, List.length_map, mkS_len]; done))) ?_; conv => whnf)
    (refine rq_s (by ((refine and_s rfl ?_; simp only [decide_eq_true_eq, List.length_map]; omega))) ?_; conv => whnf)
    (refine rq_s (by (rfl)) ?_; conv => whnf)
    (refine rows_s (by (rfl)) ?_; conv => whnf)
    rotate_left
    (refine rq_s (by (rfl)) ?_; conv => whnf)
    rotate_left
    · have hi2 : i < xs.length := by assumption
      refine head_s (i + 1) ⟨by omega, by omega⟩ ?_ (congrArg (fun r => [(500000, MB.live ⟨true, 0, zW, r⟩)]) ?_)
      · rw [e1 hi2, e2 hi2, e3 hi2, wrap64 (n := (i : Int) + 1) (by omega) (by omega)]
        rfl
      · rw [e1 hi2, e2 hi2]
        simp only [Nat.zero_add, Int.toNat_natCast]
        exact (mr136 _ i _ (mksW (k + 3 * i)) (by omega)).trans (by rw [← mixS_next mksW 3 hi2])
    · obtain rfl : i = xs.length := by omega
      refine aft_s (by simp [AV.rowsN, hlen]) (by simp [mixS_all]) ?_
      exact sh_s rfl
theorem c139 (xs : List Wd) (k : Int) (h1 : 0 ≤ k) (h2 : k + 3 * xs.length ≤ 1000000000) : Con Tryd.prog 139 [roW xs, .int .i64 k] (undefs [roW xs, .int .i64 k]) (.int .i64 (heldS mksW 3 xs k)) := by
  refine Con.ev 41 T_ok mix Tryd.func139 rfl rfl rfl rfl [.tmp 4] rfl ?_
  conv => whnf
  rotate_left
  refine LoopG.rounds (α := Nat) T_ok mix [0, 1, 5] [] (fun i => [(0, roW xs), (1, .int .i64 (k + 3 * i)), (5, .int .i64 i)]) (fun _ => []) (fun i => i ≤ xs.length ∧ xs.take i = mkS mksW 3 i k) (fun i => xs.length - i) ?_ ?_
  · conv => whnf
    exact head_s 0 ⟨by simp, by simp [mkS]⟩ (by simp [roW]) rfl
  · rintro i ⟨hi, ht⟩ - -
    have e1 : i < xs.length → IntKind.i64.wrap (k + 3 * (i : Int) + 1) = k + 3 * (i : Int) + 1 := fun _ => (wrap64 (by omega) (by omega)).trans (by omega)
    have e2 : i < xs.length → IntKind.i64.wrap (k + 3 * (i : Int) + 1 + 1) = k + 3 * (i : Int) + 2 := fun _ => (wrap64 (by omega) (by omega)).trans (by omega)
    have e3 : i < xs.length → IntKind.i64.wrap (k + 3 * (i : Int) + 2 + 1) = k + 3 * ((i + 1 : Nat) : Int) := fun _ => (wrap64 (by omega) (by omega)).trans (by omega)
    conv => whnf
    (refine br_s (fun hb => ?_) (fun hb => ?_) <;> (try simp only [beq_iff_eq, bne_iff_ne, ne_eq, decide_eq_true_eq, decide_eq_false_iff_not, Int.not_lt, Int.not_le, Bool.false_eq_true, if_false, if_true, beq_eq_false_iff_ne, bne_eq_false_iff_eq, Bool.not_eq_true', Bool.not_eq_false', Int.ofNat_lt, Int.ofNat_le, Int.ofNat_inj, List.length_map, List.length_nil, List.length_cons] at hb) <;> conv => whnf)
    iterate 3 (refine ChkS.mk (by kernel_rfl) ?_; conv => whnf)
    (refine rq_s (by (rfl)) ?_; conv => whnf)
    (refine rq_s (by ((refine and_s rfl ?_; simp only [decide_eq_true_eq, List.length_map]; omega))) ?_; conv => whnf)
    (refine ChkS.mk (by kernel_rfl) ?_; conv => whnf)
    (refine rq_s (by (rfl)) ?_; conv => whnf)
    (refine ChkS.mk (by kernel_rfl) ?_; conv => whnf)
    (refine row_s (by ((try simp only [Int.toNat_natCast]); exact row_map wdR _ _ _ default (by first | omega | (simp; omega)))) ?_; conv => whnf)
    iterate 2 (refine ChkS.mk (by kernel_rfl) ?_; conv => whnf)
    (refine rq_s (by (rfl)) ?_; conv => whnf)
    (refine call_s (c66 _ (by omega) (by omega)) ?_; conv => whnf)
    iterate 2 (refine ChkS.mk (by kernel_rfl) ?_; conv => whnf)
    (refine fac_s (fun hf => ?_); conv => whnf)
    (refine br_s (fun hb => ?_) (fun hb => ?_) <;> (try simp only [beq_iff_eq, bne_iff_ne, ne_eq, decide_eq_true_eq, decide_eq_false_iff_not, Int.not_lt, Int.not_le, Bool.false_eq_true, if_false, if_true, beq_eq_false_iff_ne, bne_eq_false_iff_eq, Bool.not_eq_true', Bool.not_eq_false', Int.ofNat_lt, Int.ofNat_le, Int.ofNat_inj, List.length_map, List.length_nil, List.length_cons] at hb) <;> conv => whnf)
    (refine rq_s (by (rfl)) ?_; conv => whnf)
    rotate_left
    (refine rq_s (by (rfl)) ?_; conv => whnf)
    (refine rq_s (by ((refine and_s rfl ?_; simp only [decide_eq_true_eq, List.length_map]; omega))) ?_; conv => whnf)
    (refine rq_s (by (rfl)) ?_; conv => whnf)
    (refine row_s (by ((try simp only [Int.toNat_natCast]); exact row_map wdR _ _ _ default (by first | omega | (simp; omega)))) ?_; conv => whnf)
    (refine br_s (fun hb => ?_) (fun hb => ?_) <;> (try simp only [beq_iff_eq, bne_iff_ne, ne_eq, decide_eq_true_eq, decide_eq_false_iff_not, Int.not_lt, Int.not_le, Bool.false_eq_true, if_false, if_true, beq_eq_false_iff_ne, bne_eq_false_iff_eq, Bool.not_eq_true', Bool.not_eq_false', Int.ofNat_lt, Int.ofNat_le, Int.ofNat_inj, List.length_map, List.length_nil, List.length_cons] at hb) <;> conv => whnf)
    (refine rq_s (by (rfl)) ?_; conv => whnf)
    rotate_left
    (refine rq_s (by (rfl)) ?_; conv => whnf)
    (refine rq_s (by ((refine and_s rfl ?_; simp only [decide_eq_true_eq, List.length_map]; omega))) ?_; conv => whnf)
    (refine rq_s (by (rfl)) ?_; conv => whnf)
    (refine row_s (by ((try simp only [Int.toNat_natCast]); exact row_map wdR _ _ _ default (by first | omega | (simp; omega)))) ?_; conv => whnf)
    (refine br_s (fun hb => ?_) (fun hb => ?_) <;> (try simp only [beq_iff_eq, bne_iff_ne, ne_eq, decide_eq_true_eq, decide_eq_false_iff_not, Int.not_lt, Int.not_le, Bool.false_eq_true, if_false, if_true, beq_eq_false_iff_ne, bne_eq_false_iff_eq, Bool.not_eq_true', Bool.not_eq_false', Int.ofNat_lt, Int.ofNat_le, Int.ofNat_inj, List.length_map, List.length_nil, List.length_cons] at hb) <;> conv => whnf)
    (refine rq_s (by (rfl)) ?_; conv => whnf)
    iterate 2 (rotate_left)
    (refine rq_s (by (rfl)) ?_; conv => whnf)
    rotate_left
    · have hi2 : i < xs.length := by assumption
      exact sh_s (by rw [heldS_bad mksW 3 default hi2 fun e => hb (by rw [e]; rfl)])
    · rename_i hi2 _
      exact sh_s (by rw [heldS_bad mksW 3 default hi2 fun e => hb (by rw [e, e1 hi2]; rfl)])
    · rename_i hi2 _ _
      exact sh_s (by rw [heldS_bad mksW 3 default hi2 fun e => hb (by rw [e, e1 hi2, e2 hi2]; rfl)])
    · rename_i hi2 q1 q2
      rw [e1 hi2] at q2
      rw [e1 hi2, e2 hi2] at hb
      have h3 : xs.getD i default = mksW (k + 3 * i) := by
        generalize hg : xs.getD i default = y at *
        cases y
        simp only at q1 q2 hb
        simp only [mksW, Wd.mk.injEq]
        exact ⟨q1, q2, hb⟩
      refine head_s (i + 1) ⟨⟨by omega, heldS_next mksW 3 default hi2 ht h3⟩, by omega⟩ (by rw [e1 hi2, e2 hi2, e3 hi2, wrap64 (n := (i : Int) + 1) (by omega) (by omega)]; rfl) rfl
    · obtain rfl : i = xs.length := by omega
      exact sh_s (by rw [heldS_done mksW 3 (by omega) hi ht])

theorem c135 (a b : Itm) : Con Tryd.prog 135 [itV a, itV b] (undefs [itV a, itV b]) (.bool (decide (a = b))) := by
  refine Con.ev 15 T_ok mix Tryd.func135 rfl rfl rfl rfl [.tmp 4] rfl ?_
  conv => whnf
  iterate 4 (refine rq_s (by (rfl)) ?_; conv => whnf)
  (refine br_s (fun hb => ?_) (fun hb => ?_) <;> (try simp only [beq_iff_eq, bne_iff_ne, ne_eq, decide_eq_true_eq, decide_eq_false_iff_not, Int.not_lt, Int.not_le, Bool.false_eq_true, if_false, if_true, beq_eq_false_iff_ne, bne_eq_false_iff_eq, Bool.not_eq_true', Bool.not_eq_false', Int.ofNat_lt, Int.ofNat_le, Int.ofNat_inj, List.length_map, List.length_nil, List.length_cons] at hb) <;> conv => whnf)
  (refine rq_s (by (rfl)) ?_; conv => whnf)
  (refine sh_s ?_; ((cases a; cases b; simp_all)))
  iterate 2 (refine rq_s (by (rfl)) ?_; conv => whnf)
  (refine br_s (fun hb => ?_) (fun hb => ?_) <;> (try simp only [beq_iff_eq, bne_iff_ne, ne_eq, decide_eq_true_eq, decide_eq_false_iff_not, Int.not_lt, Int.not_le, Bool.false_eq_true, if_false, if_true, beq_eq_false_iff_ne, bne_eq_false_iff_eq, Bool.not_eq_true', Bool.not_eq_false', Int.ofNat_lt, Int.ofNat_le, Int.ofNat_inj, List.length_map, List.length_nil, List.length_cons] at hb) <;> conv => whnf)
  (refine rq_s (by (rfl)) ?_; conv => whnf)
  (refine sh_s ?_; ((cases a; cases b; simp_all)))
  (refine rq_s (by (rfl)) ?_; conv => whnf)
  (refine sh_s ?_; ((cases a; cases b; simp_all)))
theorem c83 (xs ys : List Itm) : Con Tryd.prog 83 [roT xs, roT ys] (undefs [roT xs, roT ys]) (.bool (decide (xs = ys))) := by
  refine Con.evF 27 T_ok mix Tryd.func83 rfl rfl rfl rfl [.tmp 4] rfl fun ⟨hx, _⟩ => ?_
  have hx := facts_len hx
  conv => whnf
  (refine br_s (fun hb => ?_) (fun hb => ?_) <;> (try simp only [beq_iff_eq, bne_iff_ne, ne_eq, decide_eq_true_eq, decide_eq_false_iff_not, Int.not_lt, Int.not_le, Bool.false_eq_true, if_false, if_true, beq_eq_false_iff_ne, bne_eq_false_iff_eq, Bool.not_eq_true', Bool.not_eq_false', Int.ofNat_lt, Int.ofNat_le, Int.ofNat_inj, List.length_map, List.length_nil, List.length_cons] at hb) <;> conv => whnf)
  (refine rq_s (by (rfl)) ?_; conv => whnf)
  iterate 2 (rotate_left)
  · refine sh_s ?_
    have : xs ≠ ys := fun e => hb (by rw [e])
    simp [this]
  · refine LoopG.rounds (α := Nat) T_ok mix [0, 1, 5] [] (fun i => [(0, roT xs), (1, roT ys), (5, .int .i64 i)]) (fun _ => []) (fun i => i ≤ xs.length ∧ xs.take i = ys.take i) (fun i => xs.length - i) ?_ ?_
    · conv => whnf
      exact head_s 0 ⟨by simp, by simp⟩ rfl rfl
    · rintro i ⟨h1, h2⟩ - -
      conv => whnf
      (refine br_s (fun hb => ?_) (fun hb => ?_) <;> (try simp only [beq_iff_eq, bne_iff_ne, ne_eq, decide_eq_true_eq, decide_eq_false_iff_not, Int.not_lt, Int.not_le, Bool.false_eq_true, if_false, if_true, beq_eq_false_iff_ne, bne_eq_false_iff_eq, Bool.not_eq_true', Bool.not_eq_false', Int.ofNat_lt, Int.ofNat_le, Int.ofNat_inj, List.length_map, List.length_nil, List.length_cons] at hb) <;> conv => whnf)
      iterate 3 (refine ChkS.mk (by kernel_rfl) ?_; conv => whnf)
      (refine rq_s (by (rfl)) ?_; conv => whnf)
      (refine rq_s (by ((refine and_s rfl ?_; simp only [decide_eq_true_eq, List.length_map]; omega))) ?_; conv => whnf)
      (refine ChkS.mk (by kernel_rfl) ?_; conv => whnf)
      (refine row_s (by ((try simp only [Int.toNat_natCast]); exact row_map itR _ _ _ default (by first | omega | (simp; omega)))) ?_; conv => whnf)
      iterate 3 (refine ChkS.mk (by kernel_rfl) ?_; conv => whnf)
      (refine rq_s (by (rfl)) ?_; conv => whnf)
      (refine rq_s (by ((refine and_s rfl ?_; simp only [decide_eq_true_eq, List.length_map]; omega))) ?_; conv => whnf)
      (refine ChkS.mk (by kernel_rfl) ?_; conv => whnf)
      (refine row_s (by ((try simp only [Int.toNat_natCast]); exact row_map itR _ _ _ default (by first | omega | (simp; omega)))) ?_; conv => whnf)
      (refine ChkS.mk (by kernel_rfl) ?_; conv => whnf)
      iterate 4 (refine rq_s (by (rfl)) ?_; conv => whnf)
      (refine call_s (c135 ..) ?_; conv => whnf)
      iterate 2 (refine ChkS.mk (by kernel_rfl) ?_; conv => whnf)
      (refine br_s (fun hb => ?_) (fun hb => ?_) <;> (try simp only [beq_iff_eq, bne_iff_ne, ne_eq, decide_eq_true_eq, decide_eq_false_iff_not, Int.not_lt, Int.not_le, Bool.false_eq_true, if_false, if_true, beq_eq_false_iff_ne, bne_eq_false_iff_eq, Bool.not_eq_true', Bool.not_eq_false', Int.ofNat_lt, Int.ofNat_le, Int.ofNat_inj, List.length_map, List.length_nil, List.length_cons] at hb) <;> conv => whnf)
      (refine rq_s (by (rfl)) ?_; conv => whnf)
      iterate 2 (rotate_left)
      (refine rq_s (by (rfl)) ?_; conv => whnf)
      rotate_left
      · refine sh_s ?_
        have : xs ≠ ys := fun e => hb (by rw [e])
        simp [this]
      · exact head_s (i + 1) ⟨⟨by omega, take_next default h2 (by omega) (by omega) hb⟩, by omega⟩ (by rw [wrap64 (by omega) (by omega)]; rfl) rfl
      · refine sh_s ?_
        simp [take_done h2 (by omega) (by omega)]
theorem mr86 (xs : List Itm) (i : Nat) (z : List AV) (y : Itm) (h : i < xs.length) : setRow (setRow (xs.map itR) i 0 z [.int .i64 y.k]) i 1 z [.int .i64 y.v] = (xs.set i y).map itR := by
  simp [setRow, setCells, rowA, List.getD_eq_getElem?_getD, h, itR, List.map_set]
theorem c86 (xs : List Itm) (k : Int) (h1 : 0 ≤ k) (h2 : k + 2 * xs.length ≤ 1000000000) : Con Tryd.prog 86 [.own 0 zT (xs.map itR), .int .i64 k] [.own 0 zT ((mkS mksT 2 xs.length k).map itR), .undef] (.int .i64 (k + 2 * xs.length)) := by
  refine Con.evM 27 [true, false] [some 500000, none] [500000] rfl rfl rfl T_ok mix Tryd.func86 rfl rfl rfl rfl [.tmp 4] rfl ?_
  conv => whnf
  rotate_left
  refine LoopG.rounds (α := Nat) T_ok mix [0, 1, 5] [(500000, 500000)] (fun i => [(0, .ref 500000 0 xs.length), (1, .int .i64 (k + 2 * i)), (5, .int .i64 i)]) (fun i => [(500000, .live ⟨true, 0, zT, (mixS mksT 2 xs k i).map itR⟩)]) (fun i => i ≤ xs.length) (fun i => xs.length - i) ?_ ?_
  · conv => whnf
    exact head_s 0 (by simp) (by simp) (by rw [mixS_zero])
  · intro i hi _ _
    have hlen := mixS_len mksT 2 (k := k) hi
    have e1 : i < xs.length → IntKind.i64.wrap (k + 2 * (i : Int) + 1) = k + 2 * (i : Int) + 1 := fun _ => (wrap64 (by omega) (by omega)).trans (by omega)
    have e2 : i < xs.length → IntKind.i64.wrap (k + 2 * (i : Int) + 1 + 1) = k + 2 * ((i + 1 : Nat) : Int) := fun _ => (wrap64 (by omega) (by omega)).trans (by omega)
    conv => whnf
    (refine br_s (fun hb => ?_) (fun hb => ?_) <;> (try simp only [beq_iff_eq, bne_iff_ne, ne_eq, decide_eq_true_eq, decide_eq_false_iff_not, Int.not_lt, Int.not_le, Bool.false_eq_true, if_false, if_true, beq_eq_false_iff_ne, bne_eq_false_iff_eq, Bool.not_eq_true', Bool.not_eq_false', Int.ofNat_lt, Int.ofNat_le, Int.ofNat_inj, List.length_map, List.length_nil, List.length_cons] at hb) <;> conv => whnf)
    (refine rq_s (by (rfl)) ?_; conv => whnf)
    (refine rq_s (by ((simp only [decide_eq_true_eq, List.length_map, mkS_len]; done))) ?_; conv => whnf)
    (refine rq_s (by ((refine and_s rfl ?_; simp only [decide_eq_true_eq, List.length_map]; omega))) ?_; conv => whnf)
    (refine rq_s (by (rfl)) ?_; conv => whnf)
    (refine rows_s (by (rfl)) ?_; conv => whnf)
    (refine rq_s (by (rfl)) ?_; conv => whnf)
    (refine rq_s (by ((simp only [decide_eq_true_eq, List.length_map, mkS_len]; done))) ?_; conv => whnf)
    (refine rq_s (by ((refine and_s rfl ?_; simp only [decide_eq_true_eq, List.length_map]; omega))) ?_; conv => whnf)
    (refine rq_s (by (rfl)) ?_; conv => whnf)
    (refine rows_s (by (rfl)) ?_; conv => whnf)
    rotate_left
    (refine rq_s (by (rfl)) ?_; conv => whnf)
    rotate_left
    · have hi2 : i < xs.length := by assumption
      refine head_s (i + 1) ⟨by omega, by omega⟩ ?_ (congrArg (fun r => [(500000, MB.live ⟨true, 0, zT, r⟩)]) ?_)
      · rw [e1 hi2, e2 hi2, wrap64 (n := (i : Int) + 1) (by omega) (by omega)]
        rfl
      · rw [e1 hi2]
        simp only [Nat.zero_add, Int.toNat_natCast]
        exact (mr86 _ i _ (mksT (k + 2 * i)) (by omega)).trans (by rw [← mixS_next mksT 2 hi2])
    · obtain rfl : i = xs.length := by omega
      refine aft_s (by simp [AV.rowsN, hlen]) (by simp [mixS_all]) ?_
      exact sh_s rfl
theorem c89 (xs : List Itm) (k : Int) (h1 : 0 ≤ k) (h2 : k + 2 * xs.length ≤ 1000000000) : Con Tryd.prog 89 [roT xs, .int .i64 k] (undefs [roT xs, .int .i64 k]) (.int .i64 (heldS mksT 2 xs k)) := by
  refine Con.ev 31 T_ok mix Tryd.func89 rfl rfl rfl rfl [.tmp 4] rfl ?_
  conv => whnf
  rotate_left
  refine LoopG.rounds (α := Nat) T_ok mix [0, 1, 5] [] (fun i => [(0, roT xs), (1, .int .i64 (k + 2 * i)), (5, .int .i64 i)]) (fun _ => []) (fun i => i ≤ xs.length ∧ xs.take i = mkS mksT 2 i k) (fun i => xs.length - i) ?_ ?_
  · conv => whnf
    exact head_s 0 ⟨by simp, by simp [mkS]⟩ (by simp [roT]) rfl
  · rintro i ⟨hi, ht⟩ - -
    have e1 : i < xs.length → IntKind.i64.wrap (k + 2 * (i : Int) + 1) = k + 2 * (i : Int) + 1 := fun _ => (wrap64 (by omega) (by omega)).trans (by omega)
    have e2 : i < xs.length → IntKind.i64.wrap (k + 2 * (i : Int) + 1 + 1) = k + 2 * ((i + 1 : Nat) : Int) := fun _ => (wrap64 (by omega) (by omega)).trans (by omega)
    conv => whnf
    (refine br_s (fun hb => ?_) (fun hb => ?_) <;> (try simp only [beq_iff_eq, bne_iff_ne, ne_eq, decide_eq_true_eq, decide_eq_false_iff_not, Int.not_lt, Int.not_le, Bool.false_eq_true, if_false, if_true, beq_eq_false_iff_ne, bne_eq_false_iff_eq, Bool.not_eq_true', Bool.not_eq_false', Int.ofNat_lt, Int.ofNat_le, Int.ofNat_inj, List.length_map, List.length_nil, List.length_cons] at hb) <;> conv => whnf)
    (refine rq_s (by (rfl)) ?_; conv => whnf)
    (refine rq_s (by ((refine and_s rfl ?_; simp only [decide_eq_true_eq, List.length_map]; omega))) ?_; conv => whnf)
    (refine rq_s (by (rfl)) ?_; conv => whnf)
    (refine row_s (by ((try simp only [Int.toNat_natCast]); exact row_map itR _ _ _ default (by first | omega | (simp; omega)))) ?_; conv => whnf)
    (refine br_s (fun hb => ?_) (fun hb => ?_) <;> (try simp only [beq_iff_eq, bne_iff_ne, ne_eq, decide_eq_true_eq, decide_eq_false_iff_not, Int.not_lt, Int.not_le, Bool.false_eq_true, if_false, if_true, beq_eq_false_iff_ne, bne_eq_false_iff_eq, Bool.not_eq_true', Bool.not_eq_false', Int.ofNat_lt, Int.ofNat_le, Int.ofNat_inj, List.length_map, List.length_nil, List.length_cons] at hb) <;> conv => whnf)
    (refine rq_s (by (rfl)) ?_; conv => whnf)
    rotate_left
    (refine rq_s (by (rfl)) ?_; conv => whnf)
    (refine rq_s (by ((refine and_s rfl ?_; simp only [decide_eq_true_eq, List.length_map]; omega))) ?_; conv => whnf)
    (refine rq_s (by (rfl)) ?_; conv => whnf)
    (refine row_s (by ((try simp only [Int.toNat_natCast]); exact row_map itR _ _ _ default (by first | omega | (simp; omega)))) ?_; conv => whnf)
    (refine br_s (fun hb => ?_) (fun hb => ?_) <;> (try simp only [beq_iff_eq, bne_iff_ne, ne_eq, decide_eq_true_eq, decide_eq_false_iff_not, Int.not_lt, Int.not_le, Bool.false_eq_true, if_false, if_true, beq_eq_false_iff_ne, bne_eq_false_iff_eq, Bool.not_eq_true', Bool.not_eq_false', Int.ofNat_lt, Int.ofNat_le, Int.ofNat_inj, List.length_map, List.length_nil, List.length_cons] at hb) <;> conv => whnf)
    (refine rq_s (by (rfl)) ?_; conv => whnf)
    iterate 2 (rotate_left)
    (refine rq_s (by (rfl)) ?_; conv => whnf)
    rotate_left
    · have hi2 : i < xs.length := by assumption
      exact sh_s (by rw [heldS_bad mksT 2 default hi2 fun e => hb (by rw [e]; rfl)])
    · rename_i hi2 _
      exact sh_s (by rw [heldS_bad mksT 2 default hi2 fun e => hb (by rw [e, e1 hi2]; rfl)])
    · rename_i hi2 q1
      rw [e1 hi2] at hb
      have h3 : xs.getD i default = mksT (k + 2 * i) := by
        generalize hg : xs.getD i default = y at *
        cases y
        simp only at q1 hb
        simp only [mksT, Itm.mk.injEq]
        exact ⟨q1, hb⟩
      refine head_s (i + 1) ⟨⟨by omega, heldS_next mksT 2 default hi2 ht h3⟩, by omega⟩ (by rw [e1 hi2, e2 hi2, wrap64 (n := (i : Int) + 1) (by omega) (by omega)]; rfl) rfl
    · obtain rfl : i = xs.length := by omega
      exact sh_s (by rw [heldS_done mksT 2 (by omega) hi ht])

theorem c166 (a b : Cal) : Con Tryd.prog 166 [calV a, calV b] (undefs [calV a, calV b]) (.bool (decide (a = b))) := by
  refine Con.ev 25 T_ok mix Tryd.func166 rfl rfl rfl rfl [.tmp 4] rfl ?_
  conv => whnf
  iterate 4 (refine rq_s (by (rfl)) ?_; conv => whnf)
  (refine br_s (fun hb => ?_) (fun hb => ?_) <;> (try simp only [beq_iff_eq, bne_iff_ne, ne_eq, decide_eq_true_eq, decide_eq_false_iff_not, Int.not_lt, Int.not_le, Bool.false_eq_true, if_false, if_true, beq_eq_false_iff_ne, bne_eq_false_iff_eq, Bool.not_eq_true', Bool.not_eq_false', Int.ofNat_lt, Int.ofNat_le, Int.ofNat_inj, List.length_map, List.length_nil, List.length_cons] at hb) <;> conv => whnf)
  (refine rq_s (by (rfl)) ?_; conv => whnf)
  (refine sh_s ?_; ((cases a; cases b; simp_all)))
  iterate 2 (refine rq_s (by (rfl)) ?_; conv => whnf)
  (refine br_s (fun hb => ?_) (fun hb => ?_) <;> (try simp only [beq_iff_eq, bne_iff_ne, ne_eq, decide_eq_true_eq, decide_eq_false_iff_not, Int.not_lt, Int.not_le, Bool.false_eq_true, if_false, if_true, beq_eq_false_iff_ne, bne_eq_false_iff_eq, Bool.not_eq_true', Bool.not_eq_false', Int.ofNat_lt, Int.ofNat_le, Int.ofNat_inj, List.length_map, List.length_nil, List.length_cons] at hb) <;> conv => whnf)
  (refine rq_s (by (rfl)) ?_; conv => whnf)
  (refine sh_s ?_; ((cases a; cases b; simp_all)))
  iterate 2 (refine rq_s (by (rfl)) ?_; conv => whnf)
  (refine br_s (fun hb => ?_) (fun hb => ?_) <;> (try simp only [beq_iff_eq, bne_iff_ne, ne_eq, decide_eq_true_eq, decide_eq_false_iff_not, Int.not_lt, Int.not_le, Bool.false_eq_true, if_false, if_true, beq_eq_false_iff_ne, bne_eq_false_iff_eq, Bool.not_eq_true', Bool.not_eq_false', Int.ofNat_lt, Int.ofNat_le, Int.ofNat_inj, List.length_map, List.length_nil, List.length_cons] at hb) <;> conv => whnf)
  (refine rq_s (by (rfl)) ?_; conv => whnf)
  (refine sh_s ?_; ((cases a; cases b; simp_all)))
  iterate 2 (refine rq_s (by (rfl)) ?_; conv => whnf)
  (refine br_s (fun hb => ?_) (fun hb => ?_) <;> (try simp only [beq_iff_eq, bne_iff_ne, ne_eq, decide_eq_true_eq, decide_eq_false_iff_not, Int.not_lt, Int.not_le, Bool.false_eq_true, if_false, if_true, beq_eq_false_iff_ne, bne_eq_false_iff_eq, Bool.not_eq_true', Bool.not_eq_false', Int.ofNat_lt, Int.ofNat_le, Int.ofNat_inj, List.length_map, List.length_nil, List.length_cons] at hb) <;> conv => whnf)
  (refine rq_s (by (rfl)) ?_; conv => whnf)
  (refine sh_s ?_; ((cases a; cases b; simp_all)))
  (refine rq_s (by (rfl)) ?_; conv => whnf)
  (refine sh_s ?_; ((cases a; cases b; simp_all)))
theorem c133 (xs ys : List Cal) : Con Tryd.prog 133 [roC xs, roC ys] (undefs [roC xs, roC ys]) (.bool (decide (xs = ys))) := by
  refine Con.evF 27 T_ok mix Tryd.func133 rfl rfl rfl rfl [.tmp 4] rfl fun ⟨hx, _⟩ => ?_
  have hx := facts_len hx
  conv => whnf
  (refine br_s (fun hb => ?_) (fun hb => ?_) <;> (try simp only [beq_iff_eq, bne_iff_ne, ne_eq, decide_eq_true_eq, decide_eq_false_iff_not, Int.not_lt, Int.not_le, Bool.false_eq_true, if_false, if_true, beq_eq_false_iff_ne, bne_eq_false_iff_eq, Bool.not_eq_true', Bool.not_eq_false', Int.ofNat_lt, Int.ofNat_le, Int.ofNat_inj, List.length_map, List.length_nil, List.length_cons] at hb) <;> conv => whnf)
  (refine rq_s (by (rfl)) ?_; conv => whnf)
  iterate 2 (rotate_left)
  · refine sh_s ?_
    have : xs ≠ ys := fun e => hb (by rw [e])
    simp [this]
  · refine LoopG.rounds (α := Nat) T_ok mix [0, 1, 5] [] (fun i => [(0, roC xs), (1, roC ys), (5, .int .i64 i)]) (fun _ => []) (fun i => i ≤ xs.length ∧ xs.take i = ys.take i) (fun i => xs.length - i) ?_ ?_
    · conv => whnf
      exact head_s 0 ⟨by simp, by simp⟩ rfl rfl
    · rintro i ⟨h1, h2⟩ - -
      conv => whnf
      (refine br_s (fun hb => ?_) (fun hb => ?_) <;> (try simp only [beq_iff_eq, bne_iff_ne, ne_eq, decide_eq_true_eq, decide_eq_false_iff_not, Int.not_lt, Int.not_le, Bool.false_eq_true, if_false, if_true, beq_eq_false_iff_ne, bne_eq_false_iff_eq, Bool.not_eq_true', Bool.not_eq_false', Int.ofNat_lt, Int.ofNat_le, Int.ofNat_inj, List.length_map, List.length_nil, List.length_cons] at hb) <;> conv => whnf)
      iterate 3 (refine ChkS.mk (by kernel_rfl) ?_; conv => whnf)
      (refine rq_s (by (rfl)) ?_; conv => whnf)
      (refine rq_s (by ((refine and_s rfl ?_; simp only [decide_eq_true_eq, List.length_map]; omega))) ?_; conv => whnf)
      (refine ChkS.mk (by kernel_rfl) ?_; conv => whnf)
      (refine row_s (by ((try simp only [Int.toNat_natCast]); exact row_map calR _ _ _ default (by first | omega | (simp; omega)))) ?_; conv => whnf)
      iterate 3 (refine ChkS.mk (by kernel_rfl) ?_; conv => whnf)
      (refine rq_s (by (rfl)) ?_; conv => whnf)
      (refine rq_s (by ((refine and_s rfl ?_; simp only [decide_eq_true_eq, List.length_map]; omega))) ?_; conv => whnf)
      (refine ChkS.mk (by kernel_rfl) ?_; conv => whnf)
      (refine row_s (by ((try simp only [Int.toNat_natCast]); exact row_map calR _ _ _ default (by first | omega | (simp; omega)))) ?_; conv => whnf)
      (refine ChkS.mk (by kernel_rfl) ?_; conv => whnf)
      iterate 8 (refine rq_s (by (rfl)) ?_; conv => whnf)
      (refine call_s (c166 ..) ?_; conv => whnf)
      iterate 2 (refine ChkS.mk (by kernel_rfl) ?_; conv => whnf)
      (refine br_s (fun hb => ?_) (fun hb => ?_) <;> (try simp only [beq_iff_eq, bne_iff_ne, ne_eq, decide_eq_true_eq, decide_eq_false_iff_not, Int.not_lt, Int.not_le, Bool.false_eq_true, if_false, if_true, beq_eq_false_iff_ne, bne_eq_false_iff_eq, Bool.not_eq_true', Bool.not_eq_false', Int.ofNat_lt, Int.ofNat_le, Int.ofNat_inj, List.length_map, List.length_nil, List.length_cons] at hb) <;> conv => whnf)
      (refine rq_s (by (rfl)) ?_; conv => whnf)
      iterate 2 (rotate_left)
      (refine rq_s (by (rfl)) ?_; conv => whnf)
      rotate_left
      · refine sh_s ?_
        have : xs ≠ ys := fun e => hb (by rw [e])
        simp [this]
      · exact head_s (i + 1) ⟨⟨by omega, take_next default h2 (by omega) (by omega) hb⟩, by omega⟩ (by rw [wrap64 (by omega) (by omega)]; rfl) rfl
      · refine sh_s ?_
        simp [take_done h2 (by omega) (by omega)]
theorem mr138 (xs : List Cal) (i : Nat) (z : List AV) (y : Cal) (h : i < xs.length) : setRow (setRow (setRow (setRow (xs.map calR) i 0 z [.int .i64 y.ip]) i 1 z [.int .i64 y.fl]) i 2 z [.int .i64 y.dp]) i 3 z [.bool y.ca] = (xs.set i y).map calR := by
  simp [setRow, setCells, rowA, List.getD_eq_getElem?_getD, h, calR, List.map_set]
theorem c138 (xs : List Cal) (k : Int) (h1 : 0 ≤ k) (h2 : k + 4 * xs.length ≤ 1000000000) : Con Tryd.prog 138 [.own 0 zC (xs.map calR), .int .i64 k] [.own 0 zC ((mkS mksC 4 xs.length k).map calR), .undef] (.int .i64 (k + 4 * xs.length)) := by
  refine Con.evM 43 [true, false] [some 500000, none] [500000] rfl rfl rfl T_ok mix Tryd.func138 rfl rfl rfl rfl [.tmp 4] rfl ?_
  conv => whnf
  rotate_left
  refine LoopG.rounds (α := Nat) T_ok mix [0, 1, 5] [(500000, 500000)] (fun i => [(0, .ref 500000 0 xs.length), (1, .int .i64 (k + 4 * i)), (5, .int .i64 i)]) (fun i => [(500000, .live ⟨true, 0, zC, (mixS mksC 4 xs k i).map calR⟩)]) (fun i => i ≤ xs.length) (fun i => xs.length - i) ?_ ?_
  · conv => whnf
    exact head_s 0 (by simp) (by simp) (by rw [mixS_zero])
  · intro i hi _ _
    have hlen := mixS_len mksC 4 (k := k) hi
    have e1 : i < xs.length → IntKind.i64.wrap (k + 4 * (i : Int) + 1) = k + 4 * (i : Int) + 1 := fun _ => (wrap64 (by omega) (by omega)).trans (by omega)
    have e2 : i < xs.length → IntKind.i64.wrap (k + 4 * (i : Int) + 1 + 1) = k + 4 * (i : Int) + 2 := fun _ => (wrap64 (by omega) (by omega)).trans (by omega)
    have e3 : i < xs.length → IntKind.i64.wrap (k + 4 * (i : Int) + 2 + 1) = k + 4 * (i : Int) + 3 := fun _ => (wrap64 (by omega) (by omega)).trans (by omega)
    have e4 : i < xs.length → IntKind.i64.wrap (k + 4 * (i : Int) + 3 + 1) = k + 4 * ((i + 1 : Nat) : Int) := fun _ => (wrap64 (by omega) (by omega)).trans (by omega)
    conv => whnf
    (refine br_s (fun hb => ?_) (fun hb => ?_) <;> (try simp only [beq_iff_eq, bne_iff_ne, ne_eq, decide_eq_true_eq, decide_eq_false_iff_not, Int.not_lt, Int.not_le, Bool.false_eq_true, if_false, if_true, beq_eq_false_iff_ne, bne_eq_false_iff_eq, Bool.not_eq_true', Bool.not_eq_false', Int.ofNat_lt, Int.ofNat_le, Int.ofNat_inj, List.length_map, List.length_nil, List.length_cons] at hb) <;> conv => whnf)
    (refine rq_s (by (rfl)) ?_; conv => whnf)
    (refine rq_s (by ((simp only [decide_eq_true_eq, List.length_map, mkS_len]; done))) ?_; conv => whnf)
    (refine rq_s (by ((refine and_s rfl ?_; simp only [decide_eq_true_eq, List.length_map]; omega))) ?_; conv => whnf)
    (refine rq_s (by (rfl)) ?_; conv => whnf)
    (refine rows_s (by (rfl)) ?_; conv => whnf)
    (refine rq_s (by (rfl)) ?_; conv => whnf)
    (refine rq_s (by ((simp only [decide_eq_true_eq, List.length_map, mkS_len]; done))) ?_; conv => whnf)
    (refine rq_s (by ((refine and_s rfl ?_; simp only [decide_eq_true_eq, List.length_map]; omega))) ?_; conv => whnf)
    (refine rq_s (by (rfl)) ?_; conv => whnf)
    (refine rows_s (by (rfl)) ?_; conv => whnf)
    (refine rq_s (by (rfl)) ?_; conv => whnf)
    (refine rq_s (by ((simp only [decide_eq_true_eq, List.length_map, mkS_len]; done))) ?_; conv => whnf)
    (refine rq_s (by ((refine and_s rfl ?_; simp only [decide_eq_true_eq, List.length_map]; omega))) ?_; conv => whnf)
    (refine rq_s (by (rfl)) ?_; conv => whnf)
    (refine rows_s (by (rfl)) ?_; conv => whnf)
    iterate 2 (refine rq_s (by (rfl)) ?_; conv => whnf)
    (refine rq_s (by ((simp only [decide_eq_true_eq, List.length_map, mkS_len]; done))) ?_; conv => whnf)
    (refine rq_s (by ((refine and_s rfl ?_; simp only [decide_eq_true_eq, List.length_map]; omega))) ?_; conv => whnf)
    (refine rq_s (by (rfl)) ?_; conv => whnf)
    (refine rows_s (by (rfl)) ?_; conv => whnf)
    rotate_left
    (refine rq_s (by (rfl)) ?_; conv => whnf)
    rotate_left
    · have hi2 : i < xs.length := by assumption
      refine head_s (i + 1) ⟨by omega, by omega⟩ ?_ (congrArg (fun r => [(500000, MB.live ⟨true, 0, zC, r⟩)]) ?_)
      · rw [e1 hi2, e2 hi2, e3 hi2, e4 hi2, wrap64 (n := (i : Int) + 1) (by omega) (by omega)]
        rfl
      · rw [e1 hi2, e2 hi2, e3 hi2]
        simp only [Nat.zero_add, Int.toNat_natCast]
        exact (mr138 _ i _ (mksC (k + 4 * i)) (by omega)).trans (by rw [← mixS_next mksC 4 hi2])
    · obtain rfl : i = xs.length := by omega
      refine aft_s (by simp [AV.rowsN, hlen]) (by simp [mixS_all]) ?_
      exact sh_s rfl
theorem c143 (xs : List Cal) (k : Int) (h1 : 0 ≤ k) (h2 : k + 4 * xs.length ≤ 1000000000) : Con Tryd.prog 143 [roC xs, .int .i64 k] (undefs [roC xs, .int .i64 k]) (.int .i64 (heldS mksC 4 xs k)) := by
  refine Con.ev 51 T_ok mix Tryd.func143 rfl rfl rfl rfl [.tmp 4] rfl ?_
  conv => whnf
  rotate_left
  refine LoopG.rounds (α := Nat) T_ok mix [0, 1, 5] [] (fun i => [(0, roC xs), (1, .int .i64 (k + 4 * i)), (5, .int .i64 i)]) (fun _ => []) (fun i => i ≤ xs.length ∧ xs.take i = mkS mksC 4 i k) (fun i => xs.length - i) ?_ ?_
  · conv => whnf
    exact head_s 0 ⟨by simp, by simp [mkS]⟩ (by simp [roC]) rfl
  · rintro i ⟨hi, ht⟩ - -
    have e1 : i < xs.length → IntKind.i64.wrap (k + 4 * (i : Int) + 1) = k + 4 * (i : Int) + 1 := fun _ => (wrap64 (by omega) (by omega)).trans (by omega)
    have e2 : i < xs.length → IntKind.i64.wrap (k + 4 * (i : Int) + 1 + 1) = k + 4 * (i : Int) + 2 := fun _ => (wrap64 (by omega) (by omega)).trans (by omega)
    have e3 : i < xs.length → IntKind.i64.wrap (k + 4 * (i : Int) + 2 + 1) = k + 4 * (i : Int) + 3 := fun _ => (wrap64 (by omega) (by omega)).trans (by omega)
    have e4 : i < xs.length → IntKind.i64.wrap (k + 4 * (i : Int) + 3 + 1) = k + 4 * ((i + 1 : Nat) : Int) := fun _ => (wrap64 (by omega) (by omega)).trans (by omega)
    conv => whnf
    (refine br_s (fun hb => ?_) (fun hb => ?_) <;> (try simp only [beq_iff_eq, bne_iff_ne, ne_eq, decide_eq_true_eq, decide_eq_false_iff_not, Int.not_lt, Int.not_le, Bool.false_eq_true, if_false, if_true, beq_eq_false_iff_ne, bne_eq_false_iff_eq, Bool.not_eq_true', Bool.not_eq_false', Int.ofNat_lt, Int.ofNat_le, Int.ofNat_inj, List.length_map, List.length_nil, List.length_cons] at hb) <;> conv => whnf)
    (refine rq_s (by (rfl)) ?_; conv => whnf)
    (refine rq_s (by ((refine and_s rfl ?_; simp only [decide_eq_true_eq, List.length_map]; omega))) ?_; conv => whnf)
    (refine rq_s (by (rfl)) ?_; conv => whnf)
    (refine row_s (by ((try simp only [Int.toNat_natCast]); exact row_map calR _ _ _ default (by first | omega | (simp; omega)))) ?_; conv => whnf)
    (refine br_s (fun hb => ?_) (fun hb => ?_) <;> (try simp only [beq_iff_eq, bne_iff_ne, ne_eq, decide_eq_true_eq, decide_eq_false_iff_not, Int.not_lt, Int.not_le, Bool.false_eq_true, if_false, if_true, beq_eq_false_iff_ne, bne_eq_false_iff_eq, Bool.not_eq_true', Bool.not_eq_false', Int.ofNat_lt, Int.ofNat_le, Int.ofNat_inj, List.length_map, List.length_nil, List.length_cons] at hb) <;> conv => whnf)
    (refine rq_s (by (rfl)) ?_; conv => whnf)
    rotate_left
    (refine rq_s (by (rfl)) ?_; conv => whnf)
    (refine rq_s (by ((refine and_s rfl ?_; simp only [decide_eq_true_eq, List.length_map]; omega))) ?_; conv => whnf)
    (refine rq_s (by (rfl)) ?_; conv => whnf)
    (refine row_s (by ((try simp only [Int.toNat_natCast]); exact row_map calR _ _ _ default (by first | omega | (simp; omega)))) ?_; conv => whnf)
    (refine br_s (fun hb => ?_) (fun hb => ?_) <;> (try simp only [beq_iff_eq, bne_iff_ne, ne_eq, decide_eq_true_eq, decide_eq_false_iff_not, Int.not_lt, Int.not_le, Bool.false_eq_true, if_false, if_true, beq_eq_false_iff_ne, bne_eq_false_iff_eq, Bool.not_eq_true', Bool.not_eq_false', Int.ofNat_lt, Int.ofNat_le, Int.ofNat_inj, List.length_map, List.length_nil, List.length_cons] at hb) <;> conv => whnf)
    (refine rq_s (by (rfl)) ?_; conv => whnf)
    rotate_left
    (refine rq_s (by (rfl)) ?_; conv => whnf)
    (refine rq_s (by ((refine and_s rfl ?_; simp only [decide_eq_true_eq, List.length_map]; omega))) ?_; conv => whnf)
    (refine rq_s (by (rfl)) ?_; conv => whnf)
    (refine row_s (by ((try simp only [Int.toNat_natCast]); exact row_map calR _ _ _ default (by first | omega | (simp; omega)))) ?_; conv => whnf)
    (refine br_s (fun hb => ?_) (fun hb => ?_) <;> (try simp only [beq_iff_eq, bne_iff_ne, ne_eq, decide_eq_true_eq, decide_eq_false_iff_not, Int.not_lt, Int.not_le, Bool.false_eq_true, if_false, if_true, beq_eq_false_iff_ne, bne_eq_false_iff_eq, Bool.not_eq_true', Bool.not_eq_false', Int.ofNat_lt, Int.ofNat_le, Int.ofNat_inj, List.length_map, List.length_nil, List.length_cons] at hb) <;> conv => whnf)
    (refine rq_s (by (rfl)) ?_; conv => whnf)
    rotate_left
    (refine rq_s (by (rfl)) ?_; conv => whnf)
    (refine rq_s (by ((refine and_s rfl ?_; simp only [decide_eq_true_eq, List.length_map]; omega))) ?_; conv => whnf)
    (refine rq_s (by (rfl)) ?_; conv => whnf)
    (refine row_s (by ((try simp only [Int.toNat_natCast]); exact row_map calR _ _ _ default (by first | omega | (simp; omega)))) ?_; conv => whnf)
    (refine rq_s (by (rfl)) ?_; conv => whnf)
    (refine br_s (fun hb => ?_) (fun hb => ?_) <;> (try simp only [beq_iff_eq, bne_iff_ne, ne_eq, decide_eq_true_eq, decide_eq_false_iff_not, Int.not_lt, Int.not_le, Bool.false_eq_true, if_false, if_true, beq_eq_false_iff_ne, bne_eq_false_iff_eq, Bool.not_eq_true', Bool.not_eq_false', Int.ofNat_lt, Int.ofNat_le, Int.ofNat_inj, List.length_map, List.length_nil, List.length_cons] at hb) <;> conv => whnf)
    (refine rq_s (by (rfl)) ?_; conv => whnf)
    iterate 2 (rotate_left)
    (refine rq_s (by (rfl)) ?_; conv => whnf)
    rotate_left
    · have hi2 : i < xs.length := by assumption
      exact sh_s (by rw [heldS_bad mksC 4 default hi2 fun e => hb (by rw [e]; rfl)])
    · rename_i hi2 _
      exact sh_s (by rw [heldS_bad mksC 4 default hi2 fun e => hb (by rw [e, e1 hi2]; rfl)])
    · rename_i hi2 _ _
      exact sh_s (by rw [heldS_bad mksC 4 default hi2 fun e => hb (by rw [e, e1 hi2, e2 hi2]; rfl)])
    · rename_i hi2 _ _ _
      exact sh_s (by rw [heldS_bad mksC 4 default hi2 fun e => hb (by rw [e, e1 hi2, e2 hi2, e3 hi2]; rfl)])
    · rename_i hi2 q1 q2 q3
      rw [e1 hi2] at q2
      rw [e1 hi2, e2 hi2] at q3
      rw [e1 hi2, e2 hi2, e3 hi2] at hb
      have h3 : xs.getD i default = mksC (k + 4 * i) := by
        generalize hg : xs.getD i default = y at *
        cases y
        simp only at q1 q2 q3 hb
        simp only [mksC, Cal.mk.injEq]
        exact ⟨q1, q2, q3, hb⟩
      refine head_s (i + 1) ⟨⟨by omega, heldS_next mksC 4 default hi2 ht h3⟩, by omega⟩ (by rw [e1 hi2, e2 hi2, e3 hi2, e4 hi2, wrap64 (n := (i : Int) + 1) (by omega) (by omega)]; rfl) rfl
    · obtain rfl : i = xs.length := by omega
      exact sh_s (by rw [heldS_done mksC 4 (by omega) hi ht])

def smallData (d : Dat) : Prop := d.st.length ≤ 1048576 ∧ d.bk.length ≤ 1048576 ∧ d.ce.length ≤ 1048576 ∧ d.ou.length ≤ 1048576
theorem c132 (a b : Dat) : Con Tryd.prog 132 [datV a, datV b] (undefs [datV a, datV b]) (.bool (decide (a = b))) := by
  refine Con.ev 38 T_ok mix Tryd.func132 rfl rfl rfl rfl [.tmp 4] rfl ?_
  conv => whnf
  iterate 6 (refine rq_s (by (rfl)) ?_; conv => whnf)
  (refine lend_s ?_; conv => whnf)
  iterate 2 (refine rows_s (by (rfl)) ?_; conv => whnf)
  (refine call_s (c52 ..) ?_; conv => whnf)
  (refine br_s (fun hb => ?_) (fun hb => ?_) <;> (try simp only [beq_iff_eq, bne_iff_ne, ne_eq, decide_eq_true_eq, decide_eq_false_iff_not, Int.not_lt, Int.not_le, Bool.false_eq_true, if_false, if_true, beq_eq_false_iff_ne, bne_eq_false_iff_eq, Bool.not_eq_true', Bool.not_eq_false', Int.ofNat_lt, Int.ofNat_le, Int.ofNat_inj, List.length_map, List.length_nil, List.length_cons] at hb) <;> conv => whnf)
  (refine rq_s (by (rfl)) ?_; conv => whnf)
  (refine sh_s ?_; ((cases a; cases b; simp_all)))
  iterate 4 (refine rq_s (by (rfl)) ?_; conv => whnf)
  (refine lend_s ?_; conv => whnf)
  iterate 2 (refine rows_s (by (rfl)) ?_; conv => whnf)
  (refine call_s (c52 ..) ?_; conv => whnf)
  (refine br_s (fun hb => ?_) (fun hb => ?_) <;> (try simp only [beq_iff_eq, bne_iff_ne, ne_eq, decide_eq_true_eq, decide_eq_false_iff_not, Int.not_lt, Int.not_le, Bool.false_eq_true, if_false, if_true, beq_eq_false_iff_ne, bne_eq_false_iff_eq, Bool.not_eq_true', Bool.not_eq_false', Int.ofNat_lt, Int.ofNat_le, Int.ofNat_inj, List.length_map, List.length_nil, List.length_cons] at hb) <;> conv => whnf)
  (refine rq_s (by (rfl)) ?_; conv => whnf)
  (refine sh_s ?_; ((cases a; cases b; simp_all)))
  iterate 4 (refine rq_s (by (rfl)) ?_; conv => whnf)
  (refine lend_s ?_; conv => whnf)
  iterate 2 (refine rows_s (by (rfl)) ?_; conv => whnf)
  (refine call_s (c52 ..) ?_; conv => whnf)
  (refine br_s (fun hb => ?_) (fun hb => ?_) <;> (try simp only [beq_iff_eq, bne_iff_ne, ne_eq, decide_eq_true_eq, decide_eq_false_iff_not, Int.not_lt, Int.not_le, Bool.false_eq_true, if_false, if_true, beq_eq_false_iff_ne, bne_eq_false_iff_eq, Bool.not_eq_true', Bool.not_eq_false', Int.ofNat_lt, Int.ofNat_le, Int.ofNat_inj, List.length_map, List.length_nil, List.length_cons] at hb) <;> conv => whnf)
  (refine rq_s (by (rfl)) ?_; conv => whnf)
  (refine sh_s ?_; ((cases a; cases b; simp_all)))
  iterate 2 (refine rq_s (by (rfl)) ?_; conv => whnf)
  (refine br_s (fun hb => ?_) (fun hb => ?_) <;> (try simp only [beq_iff_eq, bne_iff_ne, ne_eq, decide_eq_true_eq, decide_eq_false_iff_not, Int.not_lt, Int.not_le, Bool.false_eq_true, if_false, if_true, beq_eq_false_iff_ne, bne_eq_false_iff_eq, Bool.not_eq_true', Bool.not_eq_false', Int.ofNat_lt, Int.ofNat_le, Int.ofNat_inj, List.length_map, List.length_nil, List.length_cons] at hb) <;> conv => whnf)
  (refine rq_s (by (rfl)) ?_; conv => whnf)
  (refine sh_s ?_; ((cases a; cases b; simp_all)))
  iterate 2 (refine rq_s (by (rfl)) ?_; conv => whnf)
  (refine br_s (fun hb => ?_) (fun hb => ?_) <;> (try simp only [beq_iff_eq, bne_iff_ne, ne_eq, decide_eq_true_eq, decide_eq_false_iff_not, Int.not_lt, Int.not_le, Bool.false_eq_true, if_false, if_true, beq_eq_false_iff_ne, bne_eq_false_iff_eq, Bool.not_eq_true', Bool.not_eq_false', Int.ofNat_lt, Int.ofNat_le, Int.ofNat_inj, List.length_map, List.length_nil, List.length_cons] at hb) <;> conv => whnf)
  (refine rq_s (by (rfl)) ?_; conv => whnf)
  (refine sh_s ?_; ((cases a; cases b; simp_all)))
  iterate 2 (refine rq_s (by (rfl)) ?_; conv => whnf)
  (refine br_s (fun hb => ?_) (fun hb => ?_) <;> (try simp only [beq_iff_eq, bne_iff_ne, ne_eq, decide_eq_true_eq, decide_eq_false_iff_not, Int.not_lt, Int.not_le, Bool.false_eq_true, if_false, if_true, beq_eq_false_iff_ne, bne_eq_false_iff_eq, Bool.not_eq_true', Bool.not_eq_false', Int.ofNat_lt, Int.ofNat_le, Int.ofNat_inj, List.length_map, List.length_nil, List.length_cons] at hb) <;> conv => whnf)
  (refine rq_s (by (rfl)) ?_; conv => whnf)
  (refine sh_s ?_; ((cases a; cases b; simp_all)))
  (refine rq_s (by (rfl)) ?_; conv => whnf)
  (refine sh_s ?_; ((cases a; cases b; simp_all)))
def lenData (d : Dat) : Int := 1 * (d.st.length : Int) + 1 * (d.bk.length : Int) + 1 * (d.ce.length : Int)
def mkData (d : Dat) (k : Int) : Dat := ⟨mkS mksI 1 d.st.length (k), mkS mksI 1 d.bk.length (k + 1 * (d.st.length : Int)), mkS mksI 1 d.ce.length (k + 1 * (d.st.length : Int) + 1 * (d.bk.length : Int)), d.he, d.ba, d.ou⟩
theorem c137 (d : Dat) (k : Int) (h1 : 0 ≤ k) (h2 : k + lenData d ≤ 100000000) : Con Tryd.prog 137 [datO d, .int .i64 k] [.agg [ownI (mkData d k).st, ownI (mkData d k).bk, ownI (mkData d k).ce, .undef, .undef, .undef], .undef] (.int .i64 (k + lenData d)) := by
  unfold lenData at h2
  refine Con.evH 18 [some 500000, some 500001, some 500002, none, none, none] [500000, 500001, 500002] rfl rfl T_ok mix Tryd.func137 rfl rfl rfl rfl [.tmp 4] rfl ?_
  conv => whnf
  iterate 2 (refine rq_s (by (rfl)) ?_; conv => whnf)
  (refine rq_s (by ((simp only [decide_eq_true_eq, List.length_map, mkS_len, ownI, ownB, ownD, ownW, ownT, ownC, ownS]; done))) ?_; conv => whnf)
  iterate 2 (refine rq_s (by (rfl)) ?_; conv => whnf)
  (refine hand_s 64 0 ?_; conv => whnf)
  (refine rq_s (by ((simp only [decide_eq_true_eq, List.length_map, mkS_len, ownI, ownB, ownD, ownW, ownT, ownC, ownS]; done))) ?_; conv => whnf)
  iterate 2 (refine rq_s (by (rfl)) ?_; conv => whnf)
  (refine rows_s (by (rfl)) ?_; conv => whnf)
  (refine handc_s (f := 64) (j := 0) (c64 _ _ (by omega) (by omega)) (by simp [List.length_map, mkS_len, ownI, ownB, ownD, ownW, ownT, ownC, ownS]) (by rfl) (by rfl) ?_; conv => whnf)
  (refine fac_s (fun hf => ?_); conv => whnf)
  (refine rq_s (by (rfl)) ?_; conv => whnf)
  (refine rq_s (by ((simp only [decide_eq_true_eq, List.length_map, mkS_len, ownI, ownB, ownD, ownW, ownT, ownC, ownS]; done))) ?_; conv => whnf)
  iterate 2 (refine rq_s (by (rfl)) ?_; conv => whnf)
  (refine hand_s 64 0 ?_; conv => whnf)
  (refine rq_s (by ((simp only [decide_eq_true_eq, List.length_map, mkS_len, ownI, ownB, ownD, ownW, ownT, ownC, ownS]; done))) ?_; conv => whnf)
  iterate 2 (refine rq_s (by (rfl)) ?_; conv => whnf)
  (refine rows_s (by (rfl)) ?_; conv => whnf)
  (refine handc_s (f := 64) (j := 0) (c64 _ _ (by omega) (by omega)) (by simp [List.length_map, mkS_len, ownI, ownB, ownD, ownW, ownT, ownC, ownS]) (by rfl) (by rfl) ?_; conv => whnf)
  (refine fac_s (fun hf => ?_); conv => whnf)
  (refine rq_s (by (rfl)) ?_; conv => whnf)
  (refine rq_s (by ((simp only [decide_eq_true_eq, List.length_map, mkS_len, ownI, ownB, ownD, ownW, ownT, ownC, ownS]; done))) ?_; conv => whnf)
  iterate 2 (refine rq_s (by (rfl)) ?_; conv => whnf)
  (refine hand_s 64 0 ?_; conv => whnf)
  (refine rq_s (by ((simp only [decide_eq_true_eq, List.length_map, mkS_len, ownI, ownB, ownD, ownW, ownT, ownC, ownS]; done))) ?_; conv => whnf)
  iterate 2 (refine rq_s (by (rfl)) ?_; conv => whnf)
  (refine rows_s (by (rfl)) ?_; conv => whnf)
  (refine handc_s (f := 64) (j := 0) (c64 _ _ (by omega) (by omega)) (by simp [List.length_map, mkS_len, ownI, ownB, ownD, ownW, ownT, ownC, ownS]) (by rfl) (by rfl) ?_; conv => whnf)
  (refine fac_s (fun hf => ?_); conv => whnf)
  (refine rq_s (by (rfl)) ?_; conv => whnf)
  iterate 3 (focus (refine aft_s (by (simp [AV.rowsN, List.length_map, mkS_len, ownI, ownB, ownD, ownW, ownT, ownC, ownS]; done)) rfl ?_; conv => whnf))
  (refine sh_s ?_; ((simp only [lenData]; congr 1; omega)))
def heldData (d : Dat) (k : Int) : Int := szC (heldS mksI 1 d.st k) (fun l => szC (heldS mksI 1 d.bk l) (fun l => szC (heldS mksI 1 d.ce l) id))
theorem c141 (d : Dat) (k : Int) (h1 : 0 ≤ k) (h2 : k + lenData d ≤ 100000000) : Con Tryd.prog 141 [datV d, .int .i64 k] (undefs [datV d, .int .i64 k]) (.int .i64 (heldData d k)) := by
  unfold lenData at h2
  have g0 := heldS_le mksI 1 d.st k
  have g1 := heldS_le mksI 1 d.bk (heldS mksI 1 d.st k)
  have g2 := heldS_le mksI 1 d.ce (heldS mksI 1 d.bk (heldS mksI 1 d.st k))
  refine Con.ev 24 T_ok mix Tryd.func141 rfl rfl rfl rfl [.tmp 4] rfl ?_
  conv => whnf
  iterate 4 (refine rq_s (by (rfl)) ?_; conv => whnf)
  (refine lend_s ?_; conv => whnf)
  (refine rows_s (by (rfl)) ?_; conv => whnf)
  (refine call_s (c140 _ _ (by omega) (by omega)) ?_; conv => whnf)
  (refine fac_s (fun hf => ?_); conv => whnf)
  (refine br_s (fun hb => ?_) (fun hb => ?_) <;> (try simp only [beq_iff_eq, bne_iff_ne, ne_eq, decide_eq_true_eq, decide_eq_false_iff_not, Int.not_lt, Int.not_le, Bool.false_eq_true, if_false, if_true, beq_eq_false_iff_ne, bne_eq_false_iff_eq, Bool.not_eq_true', Bool.not_eq_false', Int.ofNat_lt, Int.ofNat_le, Int.ofNat_inj, List.length_map, List.length_nil, List.length_cons] at hb) <;> conv => whnf)
  (refine rq_s (by (rfl)) ?_; conv => whnf)
  (focus (refine sh_s ?_; (first | (simp_all [heldData, szC]; done) | (simp_all [heldData, szC]; omega))))
  iterate 3 (refine rq_s (by (rfl)) ?_; conv => whnf)
  (refine lend_s ?_; conv => whnf)
  (refine rows_s (by (rfl)) ?_; conv => whnf)
  (refine call_s (c140 _ _ (by omega) (by omega)) ?_; conv => whnf)
  (refine fac_s (fun hf => ?_); conv => whnf)
  (refine br_s (fun hb => ?_) (fun hb => ?_) <;> (try simp only [beq_iff_eq, bne_iff_ne, ne_eq, decide_eq_true_eq, decide_eq_false_iff_not, Int.not_lt, Int.not_le, Bool.false_eq_true, if_false, if_true, beq_eq_false_iff_ne, bne_eq_false_iff_eq, Bool.not_eq_true', Bool.not_eq_false', Int.ofNat_lt, Int.ofNat_le, Int.ofNat_inj, List.length_map, List.length_nil, List.length_cons] at hb) <;> conv => whnf)
  (refine rq_s (by (rfl)) ?_; conv => whnf)
  (focus (refine sh_s ?_; (first | (simp_all [heldData, szC]; done) | (simp_all [heldData, szC]; omega))))
  iterate 3 (refine rq_s (by (rfl)) ?_; conv => whnf)
  (refine lend_s ?_; conv => whnf)
  (refine rows_s (by (rfl)) ?_; conv => whnf)
  (refine call_s (c140 _ _ (by omega) (by omega)) ?_; conv => whnf)
  (refine fac_s (fun hf => ?_); conv => whnf)
  (refine br_s (fun hb => ?_) (fun hb => ?_) <;> (try simp only [beq_iff_eq, bne_iff_ne, ne_eq, decide_eq_true_eq, decide_eq_false_iff_not, Int.not_lt, Int.not_le, Bool.false_eq_true, if_false, if_true, beq_eq_false_iff_ne, bne_eq_false_iff_eq, Bool.not_eq_true', Bool.not_eq_false', Int.ofNat_lt, Int.ofNat_le, Int.ofNat_inj, List.length_map, List.length_nil, List.length_cons] at hb) <;> conv => whnf)
  (refine rq_s (by (rfl)) ?_; conv => whnf)
  (focus (refine sh_s ?_; (first | (simp_all [heldData, szC]; done) | (simp_all [heldData, szC]; omega))))
  (refine rq_s (by (rfl)) ?_; conv => whnf)
  (focus (refine sh_s ?_; (first | (simp_all [heldData, szC]; done) | (simp_all [heldData, szC]; omega))))
theorem heldData_mk (d : Dat) (k : Int) (h1 : 0 ≤ k) : heldData (mkData d k) k = k + lenData d := by
  simp only [heldData, mkData, heldS_mk, szC, id]
  rw [if_neg (by omega), if_neg (by omega), if_neg (by omega)]
  unfold lenData
  omega
theorem lenData_mk (d : Dat) (k : Int) : lenData (mkData d k) = lenData d := by simp [lenData, mkData, mkS_len]
theorem lenData_le {d : Dat} (hs : smallData d) : 0 ≤ lenData d ∧ lenData d ≤ 12000000 := by
  unfold smallData at hs
  unfold lenData
  omega
def smallHost (h : Hst) : Prop := h.gr.length ≤ 1048576 ∧ h.st.length ≤ 1048576 ∧ h.q.length ≤ 1048576 ∧ h.ds.length ≤ 1048576
theorem c19 (a b : Hst) : Con Tryd.prog 19 [hstV a, hstV b] (undefs [hstV a, hstV b]) (.bool (decide (a = b))) := by
  refine Con.ev 34 T_ok mix Tryd.func19 rfl rfl rfl rfl [.tmp 4] rfl ?_
  conv => whnf
  iterate 6 (refine rq_s (by (rfl)) ?_; conv => whnf)
  (refine lend_s ?_; conv => whnf)
  iterate 2 (refine rows_s (by (rfl)) ?_; conv => whnf)
  (refine call_s (c61 ..) ?_; conv => whnf)
  (refine br_s (fun hb => ?_) (fun hb => ?_) <;> (try simp only [beq_iff_eq, bne_iff_ne, ne_eq, decide_eq_true_eq, decide_eq_false_iff_not, Int.not_lt, Int.not_le, Bool.false_eq_true, if_false, if_true, beq_eq_false_iff_ne, bne_eq_false_iff_eq, Bool.not_eq_true', Bool.not_eq_false', Int.ofNat_lt, Int.ofNat_le, Int.ofNat_inj, List.length_map, List.length_nil, List.length_cons] at hb) <;> conv => whnf)
  (refine rq_s (by (rfl)) ?_; conv => whnf)
  (refine sh_s ?_; ((cases a; cases b; simp_all)))
  iterate 4 (refine rq_s (by (rfl)) ?_; conv => whnf)
  (refine lend_s ?_; conv => whnf)
  iterate 2 (refine rows_s (by (rfl)) ?_; conv => whnf)
  (refine call_s (c52 ..) ?_; conv => whnf)
  (refine br_s (fun hb => ?_) (fun hb => ?_) <;> (try simp only [beq_iff_eq, bne_iff_ne, ne_eq, decide_eq_true_eq, decide_eq_false_iff_not, Int.not_lt, Int.not_le, Bool.false_eq_true, if_false, if_true, beq_eq_false_iff_ne, bne_eq_false_iff_eq, Bool.not_eq_true', Bool.not_eq_false', Int.ofNat_lt, Int.ofNat_le, Int.ofNat_inj, List.length_map, List.length_nil, List.length_cons] at hb) <;> conv => whnf)
  (refine rq_s (by (rfl)) ?_; conv => whnf)
  (refine sh_s ?_; ((cases a; cases b; simp_all)))
  iterate 4 (refine rq_s (by (rfl)) ?_; conv => whnf)
  (refine lend_s ?_; conv => whnf)
  iterate 2 (refine rows_s (by (rfl)) ?_; conv => whnf)
  (refine call_s (c52 ..) ?_; conv => whnf)
  (refine br_s (fun hb => ?_) (fun hb => ?_) <;> (try simp only [beq_iff_eq, bne_iff_ne, ne_eq, decide_eq_true_eq, decide_eq_false_iff_not, Int.not_lt, Int.not_le, Bool.false_eq_true, if_false, if_true, beq_eq_false_iff_ne, bne_eq_false_iff_eq, Bool.not_eq_true', Bool.not_eq_false', Int.ofNat_lt, Int.ofNat_le, Int.ofNat_inj, List.length_map, List.length_nil, List.length_cons] at hb) <;> conv => whnf)
  (refine rq_s (by (rfl)) ?_; conv => whnf)
  (refine sh_s ?_; ((cases a; cases b; simp_all)))
  iterate 2 (refine rq_s (by (rfl)) ?_; conv => whnf)
  (refine br_s (fun hb => ?_) (fun hb => ?_) <;> (try simp only [beq_iff_eq, bne_iff_ne, ne_eq, decide_eq_true_eq, decide_eq_false_iff_not, Int.not_lt, Int.not_le, Bool.false_eq_true, if_false, if_true, beq_eq_false_iff_ne, bne_eq_false_iff_eq, Bool.not_eq_true', Bool.not_eq_false', Int.ofNat_lt, Int.ofNat_le, Int.ofNat_inj, List.length_map, List.length_nil, List.length_cons] at hb) <;> conv => whnf)
  (refine rq_s (by (rfl)) ?_; conv => whnf)
  (refine sh_s ?_; ((cases a; cases b; simp_all)))
  iterate 4 (refine rq_s (by (rfl)) ?_; conv => whnf)
  (refine lend_s ?_; conv => whnf)
  iterate 2 (refine rows_s (by (rfl)) ?_; conv => whnf)
  (refine call_s (c62 ..) ?_; conv => whnf)
  (refine br_s (fun hb => ?_) (fun hb => ?_) <;> (try simp only [beq_iff_eq, bne_iff_ne, ne_eq, decide_eq_true_eq, decide_eq_false_iff_not, Int.not_lt, Int.not_le, Bool.false_eq_true, if_false, if_true, beq_eq_false_iff_ne, bne_eq_false_iff_eq, Bool.not_eq_true', Bool.not_eq_false', Int.ofNat_lt, Int.ofNat_le, Int.ofNat_inj, List.length_map, List.length_nil, List.length_cons] at hb) <;> conv => whnf)
  (refine rq_s (by (rfl)) ?_; conv => whnf)
  (refine sh_s ?_; ((cases a; cases b; simp_all)))
  (refine rq_s (by (rfl)) ?_; conv => whnf)
  (refine sh_s ?_; ((cases a; cases b; simp_all)))
def lenHost (h : Hst) : Int := 1 * (h.gr.length : Int) + 1 * (h.st.length : Int) + 1 * (h.q.length : Int) + 4 * (h.ds.length : Int)
def mkHost (h : Hst) (k : Int) : Hst := ⟨mkS mksB 1 h.gr.length (k), mkS mksI 1 h.st.length (k + 1 * (h.gr.length : Int)), mkS mksI 1 h.q.length (k + 1 * (h.gr.length : Int) + 1 * (h.st.length : Int)), h.tk, mkS mksD 4 h.ds.length (k + 1 * (h.gr.length : Int) + 1 * (h.st.length : Int) + 1 * (h.q.length : Int))⟩
theorem c20 (h : Hst) (k : Int) (h1 : 0 ≤ k) (h2 : k + lenHost h ≤ 100000000) : Con Tryd.prog 20 [hstO h, .int .i64 k] [.agg [ownB (mkHost h k).gr, ownI (mkHost h k).st, ownI (mkHost h k).q, .undef, ownD (mkHost h k).ds], .undef] (.int .i64 (k + lenHost h)) := by
  unfold lenHost at h2
  refine Con.evH 22 [some 500000, some 500001, some 500002, none, some 500004] [500000, 500001, 500002, 500004] rfl rfl T_ok mix Tryd.func20 rfl rfl rfl rfl [.tmp 4] rfl ?_
  conv => whnf
  iterate 2 (refine rq_s (by (rfl)) ?_; conv => whnf)
  (refine rq_s (by ((simp only [decide_eq_true_eq, List.length_map, mkS_len, ownI, ownB, ownD, ownW, ownT, ownC, ownS]; done))) ?_; conv => whnf)
  iterate 2 (refine rq_s (by (rfl)) ?_; conv => whnf)
  (refine hand_s 63 0 ?_; conv => whnf)
  (refine rq_s (by ((simp only [decide_eq_true_eq, List.length_map, mkS_len, ownI, ownB, ownD, ownW, ownT, ownC, ownS]; done))) ?_; conv => whnf)
  iterate 2 (refine rq_s (by (rfl)) ?_; conv => whnf)
  (refine rows_s (by (rfl)) ?_; conv => whnf)
  (refine handc_s (f := 63) (j := 0) (c63 _ _ (by omega) (by omega)) (by simp [List.length_map, mkS_len, ownI, ownB, ownD, ownW, ownT, ownC, ownS]) (by rfl) (by rfl) ?_; conv => whnf)
  (refine fac_s (fun hf => ?_); conv => whnf)
  (refine rq_s (by (rfl)) ?_; conv => whnf)
  (refine rq_s (by ((simp only [decide_eq_true_eq, List.length_map, mkS_len, ownI, ownB, ownD, ownW, ownT, ownC, ownS]; done))) ?_; conv => whnf)
  iterate 2 (refine rq_s (by (rfl)) ?_; conv => whnf)
  (refine hand_s 64 0 ?_; conv => whnf)
  (refine rq_s (by ((simp only [decide_eq_true_eq, List.length_map, mkS_len, ownI, ownB, ownD, ownW, ownT, ownC, ownS]; done))) ?_; conv => whnf)
  iterate 2 (refine rq_s (by (rfl)) ?_; conv => whnf)
  (refine rows_s (by (rfl)) ?_; conv => whnf)
  (refine handc_s (f := 64) (j := 0) (c64 _ _ (by omega) (by omega)) (by simp [List.length_map, mkS_len, ownI, ownB, ownD, ownW, ownT, ownC, ownS]) (by rfl) (by rfl) ?_; conv => whnf)
  (refine fac_s (fun hf => ?_); conv => whnf)
  (refine rq_s (by (rfl)) ?_; conv => whnf)
  (refine rq_s (by ((simp only [decide_eq_true_eq, List.length_map, mkS_len, ownI, ownB, ownD, ownW, ownT, ownC, ownS]; done))) ?_; conv => whnf)
  iterate 2 (refine rq_s (by (rfl)) ?_; conv => whnf)
  (refine hand_s 64 0 ?_; conv => whnf)
  (refine rq_s (by ((simp only [decide_eq_true_eq, List.length_map, mkS_len, ownI, ownB, ownD, ownW, ownT, ownC, ownS]; done))) ?_; conv => whnf)
  iterate 2 (refine rq_s (by (rfl)) ?_; conv => whnf)
  (refine rows_s (by (rfl)) ?_; conv => whnf)
  (refine handc_s (f := 64) (j := 0) (c64 _ _ (by omega) (by omega)) (by simp [List.length_map, mkS_len, ownI, ownB, ownD, ownW, ownT, ownC, ownS]) (by rfl) (by rfl) ?_; conv => whnf)
  (refine fac_s (fun hf => ?_); conv => whnf)
  (refine rq_s (by (rfl)) ?_; conv => whnf)
  (refine rq_s (by ((simp only [decide_eq_true_eq, List.length_map, mkS_len, ownI, ownB, ownD, ownW, ownT, ownC, ownS]; done))) ?_; conv => whnf)
  iterate 2 (refine rq_s (by (rfl)) ?_; conv => whnf)
  (refine hand_s 65 0 ?_; conv => whnf)
  (refine rq_s (by ((simp only [decide_eq_true_eq, List.length_map, mkS_len, ownI, ownB, ownD, ownW, ownT, ownC, ownS]; done))) ?_; conv => whnf)
  iterate 2 (refine rq_s (by (rfl)) ?_; conv => whnf)
  (refine rows_s (by (rfl)) ?_; conv => whnf)
  (refine handc_s (f := 65) (j := 0) (c65 _ _ (by omega) (by omega)) (by simp [List.length_map, mkS_len, ownI, ownB, ownD, ownW, ownT, ownC, ownS]) (by rfl) (by rfl) ?_; conv => whnf)
  (refine fac_s (fun hf => ?_); conv => whnf)
  (refine rq_s (by (rfl)) ?_; conv => whnf)
  iterate 4 (focus (refine aft_s (by (simp [AV.rowsN, List.length_map, mkS_len, ownI, ownB, ownD, ownW, ownT, ownC, ownS]; done)) rfl ?_; conv => whnf))
  (refine sh_s ?_; ((simp only [lenHost]; congr 1; omega)))
def heldHost (h : Hst) (k : Int) : Int := szC (heldS mksB 1 h.gr k) (fun l => szC (heldS mksI 1 h.st l) (fun l => szC (heldS mksI 1 h.q l) (fun l => szC (heldS mksD 4 h.ds l) id)))
theorem c142 (h : Hst) (k : Int) (h1 : 0 ≤ k) (h2 : k + lenHost h ≤ 100000000) : Con Tryd.prog 142 [hstV h, .int .i64 k] (undefs [hstV h, .int .i64 k]) (.int .i64 (heldHost h k)) := by
  unfold lenHost at h2
  have g0 := heldS_le mksB 1 h.gr k
  have g1 := heldS_le mksI 1 h.st (heldS mksB 1 h.gr k)
  have g2 := heldS_le mksI 1 h.q (heldS mksI 1 h.st (heldS mksB 1 h.gr k))
  have g3 := heldS_le mksD 4 h.ds (heldS mksI 1 h.q (heldS mksI 1 h.st (heldS mksB 1 h.gr k)))
  refine Con.ev 30 T_ok mix Tryd.func142 rfl rfl rfl rfl [.tmp 4] rfl ?_
  conv => whnf
  iterate 4 (refine rq_s (by (rfl)) ?_; conv => whnf)
  (refine lend_s ?_; conv => whnf)
  (refine rows_s (by (rfl)) ?_; conv => whnf)
  (refine call_s (c167 _ _ (by omega) (by omega)) ?_; conv => whnf)
  (refine fac_s (fun hf => ?_); conv => whnf)
  (refine br_s (fun hb => ?_) (fun hb => ?_) <;> (try simp only [beq_iff_eq, bne_iff_ne, ne_eq, decide_eq_true_eq, decide_eq_false_iff_not, Int.not_lt, Int.not_le, Bool.false_eq_true, if_false, if_true, beq_eq_false_iff_ne, bne_eq_false_iff_eq, Bool.not_eq_true', Bool.not_eq_false', Int.ofNat_lt, Int.ofNat_le, Int.ofNat_inj, List.length_map, List.length_nil, List.length_cons] at hb) <;> conv => whnf)
  (refine rq_s (by (rfl)) ?_; conv => whnf)
  (focus (refine sh_s ?_; (first | (simp_all [heldHost, szC]; done) | (simp_all [heldHost, szC]; omega))))
  iterate 3 (refine rq_s (by (rfl)) ?_; conv => whnf)
  (refine lend_s ?_; conv => whnf)
  (refine rows_s (by (rfl)) ?_; conv => whnf)
  (refine call_s (c140 _ _ (by omega) (by omega)) ?_; conv => whnf)
  (refine fac_s (fun hf => ?_); conv => whnf)
  (refine br_s (fun hb => ?_) (fun hb => ?_) <;> (try simp only [beq_iff_eq, bne_iff_ne, ne_eq, decide_eq_true_eq, decide_eq_false_iff_not, Int.not_lt, Int.not_le, Bool.false_eq_true, if_false, if_true, beq_eq_false_iff_ne, bne_eq_false_iff_eq, Bool.not_eq_true', Bool.not_eq_false', Int.ofNat_lt, Int.ofNat_le, Int.ofNat_inj, List.length_map, List.length_nil, List.length_cons] at hb) <;> conv => whnf)
  (refine rq_s (by (rfl)) ?_; conv => whnf)
  (focus (refine sh_s ?_; (first | (simp_all [heldHost, szC]; done) | (simp_all [heldHost, szC]; omega))))
  iterate 3 (refine rq_s (by (rfl)) ?_; conv => whnf)
  (refine lend_s ?_; conv => whnf)
  (refine rows_s (by (rfl)) ?_; conv => whnf)
  (refine call_s (c140 _ _ (by omega) (by omega)) ?_; conv => whnf)
  (refine fac_s (fun hf => ?_); conv => whnf)
  (refine br_s (fun hb => ?_) (fun hb => ?_) <;> (try simp only [beq_iff_eq, bne_iff_ne, ne_eq, decide_eq_true_eq, decide_eq_false_iff_not, Int.not_lt, Int.not_le, Bool.false_eq_true, if_false, if_true, beq_eq_false_iff_ne, bne_eq_false_iff_eq, Bool.not_eq_true', Bool.not_eq_false', Int.ofNat_lt, Int.ofNat_le, Int.ofNat_inj, List.length_map, List.length_nil, List.length_cons] at hb) <;> conv => whnf)
  (refine rq_s (by (rfl)) ?_; conv => whnf)
  (focus (refine sh_s ?_; (first | (simp_all [heldHost, szC]; done) | (simp_all [heldHost, szC]; omega))))
  iterate 3 (refine rq_s (by (rfl)) ?_; conv => whnf)
  (refine lend_s ?_; conv => whnf)
  (refine rows_s (by (rfl)) ?_; conv => whnf)
  (refine call_s (c168 _ _ (by omega) (by omega)) ?_; conv => whnf)
  (refine fac_s (fun hf => ?_); conv => whnf)
  (refine br_s (fun hb => ?_) (fun hb => ?_) <;> (try simp only [beq_iff_eq, bne_iff_ne, ne_eq, decide_eq_true_eq, decide_eq_false_iff_not, Int.not_lt, Int.not_le, Bool.false_eq_true, if_false, if_true, beq_eq_false_iff_ne, bne_eq_false_iff_eq, Bool.not_eq_true', Bool.not_eq_false', Int.ofNat_lt, Int.ofNat_le, Int.ofNat_inj, List.length_map, List.length_nil, List.length_cons] at hb) <;> conv => whnf)
  (refine rq_s (by (rfl)) ?_; conv => whnf)
  (focus (refine sh_s ?_; (first | (simp_all [heldHost, szC]; done) | (simp_all [heldHost, szC]; omega))))
  (refine rq_s (by (rfl)) ?_; conv => whnf)
  (focus (refine sh_s ?_; (first | (simp_all [heldHost, szC]; done) | (simp_all [heldHost, szC]; omega))))
theorem heldHost_mk (h : Hst) (k : Int) (h1 : 0 ≤ k) : heldHost (mkHost h k) k = k + lenHost h := by
  simp only [heldHost, mkHost, heldS_mk, szC, id]
  rw [if_neg (by omega), if_neg (by omega), if_neg (by omega), if_neg (by omega)]
  unfold lenHost
  omega
theorem lenHost_mk (h : Hst) (k : Int) : lenHost (mkHost h k) = lenHost h := by simp [lenHost, mkHost, mkS_len]
theorem lenHost_le {h : Hst} (hs : smallHost h) : 0 ≤ lenHost h ∧ lenHost h ≤ 12000000 := by
  unfold smallHost at hs
  unfold lenHost
  omega
end V1
