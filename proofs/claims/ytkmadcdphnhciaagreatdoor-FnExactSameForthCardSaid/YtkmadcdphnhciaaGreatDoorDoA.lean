import Derived.Test.YtkmadcdphnhciaaGreatDoorProg
import Derived.KernelRfl
import Derived.Test.YtkmadcdphnhciaaGreatDoorAbsf
import Derived.Test.YtkmadcdphnhciaaGreatDoorAbs7
import Derived.Test.YtkmadcdphnhciaaGreatDoorAbsk
import Derived.Test.YtkmadcdphnhciaaGreatDoorAbsd
import Derived.Test.YtkmadcdphnhciaaGreatDoorAbsn
import Derived.Shelf.Strings.Search3
import Derived.Shelf.Strings.Count
import Derived.Shelf.Strings.SplitCore
import Derived.Shelf.LaysM
import Derived.Test.YtkmadcdphnhciaaGreatDoorAbsh
import Derived.Test.YtkmadcdphnhciaaGreatDoorAbsi
/- Sizes, copies, comparisons and marks of the data, each with its contract. -/
set_option linter.unusedVariables false
set_option linter.unusedSimpArgs false
set_option maxRecDepth 100000
open Go Go.Abs Go.Proofs
namespace V1
def T : TT := [(2, TI.mk (UT.int IntKind.i64) 1 8 [AV.int IntKind.i64 0] false),
  (3, TI.mk (UT.int IntKind.i64) 1 8 [AV.int IntKind.i64 0] false),
  (4, TI.mk UT.bool 1 1 [AV.bool false] false),
  (5, TI.mk (UT.int IntKind.u8) 1 1 [AV.int IntKind.u8 0] false),
  (6, TI.mk (UT.int IntKind.u8) 1 1 [AV.int IntKind.u8 0] false),
  (7, TI.mk (UT.struct [(0, 2), (1, 3), (2, 4), (3, 6)]) 4 24 [AV.int IntKind.i64 0, AV.int IntKind.i64 0, AV.bool false, AV.int IntKind.u8 0] true),
  (8, TI.mk (UT.struct [(0, 2), (1, 3), (2, 4), (3, 6)]) 4 24 [AV.int IntKind.i64 0, AV.int IntKind.i64 0, AV.bool false, AV.int IntKind.u8 0] true),
  (9, TI.mk UT.str 1 16 [AV.str []] false),
  (10, TI.mk UT.str 1 16 [AV.str []] false),
  (11, TI.mk UT.str 1 16 [AV.str []] false),
  (12, TI.mk (UT.int IntKind.u64) 1 8 [AV.int IntKind.u64 0] false),
  (13, TI.mk (UT.struct [(0, 9), (1, 12)]) 2 24 [AV.str [], AV.int IntKind.u64 0] false),
  (14, TI.mk (UT.struct [(0, 9), (1, 12)]) 2 24 [AV.str [], AV.int IntKind.u64 0] false),
  (18, TI.mk (UT.struct [(0, 17)]) 1 8 [AV.nilp] false),
  (19, TI.mk (UT.struct [(0, 17)]) 1 8 [AV.nilp] false),
  (21, TI.mk (UT.int IntKind.i32) 1 4 [AV.int IntKind.i32 0] false),
  (22, TI.mk (UT.slice 129) 1 24 [AV.emp] false),
  (23, TI.mk (UT.slice 3) 1 24 [AV.emp] false),
  (24, TI.mk (UT.struct [(0, 23), (1, 23), (2, 23), (3, 3), (4, 3), (5, 9)]) 6 104 [AV.emp, AV.emp, AV.emp, AV.int IntKind.i64 0, AV.int IntKind.i64 0, AV.str []] true),
  (25, TI.mk (UT.struct [(0, 23), (1, 23), (2, 23), (3, 3), (4, 3), (5, 9)]) 6 104 [AV.emp, AV.emp, AV.emp, AV.int IntKind.i64 0, AV.int IntKind.i64 0, AV.str []] true),
  (26, TI.mk (UT.slice 4) 1 24 [AV.emp] false),
  (27, TI.mk (UT.slice 183) 1 24 [AV.emp] false),
  (28, TI.mk (UT.struct [(0, 26), (1, 23), (2, 23), (3, 3), (4, 27)]) 5 104 [AV.emp, AV.emp, AV.emp, AV.int IntKind.i64 0, AV.emp] true),
  (29, TI.mk (UT.struct [(0, 26), (1, 23), (2, 23), (3, 3), (4, 27)]) 5 104 [AV.emp, AV.emp, AV.emp, AV.int IntKind.i64 0, AV.emp] true),
  (30, TI.mk (UT.slice 143) 1 24 [AV.emp] false),
  (31, TI.mk (UT.struct [(0, 22), (1, 23), (2, 25), (8, 29), (13, 30), (14, 3), (15, 3)]) 16 296 [AV.emp, AV.emp, AV.emp, AV.emp, AV.emp, AV.int IntKind.i64 0, AV.int IntKind.i64 0, AV.str [], AV.emp, AV.emp, AV.emp, AV.int IntKind.i64 0, AV.emp, AV.emp, AV.int IntKind.i64 0, AV.int IntKind.i64 0] false),
  (32, TI.mk (UT.struct [(0, 22), (1, 23), (2, 25), (8, 29), (13, 30), (14, 3), (15, 3)]) 16 296 [AV.emp, AV.emp, AV.emp, AV.emp, AV.emp, AV.int IntKind.i64 0, AV.int IntKind.i64 0, AV.str [], AV.emp, AV.emp, AV.emp, AV.int IntKind.i64 0, AV.emp, AV.emp, AV.int IntKind.i64 0, AV.int IntKind.i64 0] false),
  (33, TI.mk (UT.slice 84) 1 24 [AV.emp] false),
  (37, TI.mk (UT.slice 96) 1 24 [AV.emp] false),
  (38, TI.mk (UT.struct [(0, 23), (1, 23), (2, 23), (3, 3), (4, 3), (5, 9)]) 6 104 [AV.emp, AV.emp, AV.emp, AV.int IntKind.i64 0, AV.int IntKind.i64 0, AV.str []] true),
  (39, TI.mk (UT.slice 126) 1 24 [AV.emp] false),
  (40, TI.mk (UT.struct [(0, 26), (1, 23), (2, 23), (3, 3), (4, 39)]) 5 104 [AV.emp, AV.emp, AV.emp, AV.int IntKind.i64 0, AV.emp] true),
  (41, TI.mk (UT.struct [(0, 26), (1, 23), (2, 23), (3, 3), (4, 39)]) 5 104 [AV.emp, AV.emp, AV.emp, AV.int IntKind.i64 0, AV.emp] true),
  (42, TI.mk (UT.slice 141) 1 24 [AV.emp] false),
  (43, TI.mk (UT.struct [(0, 37), (1, 23), (2, 38), (8, 41), (13, 42), (14, 3), (15, 3)]) 16 296 [AV.emp, AV.emp, AV.emp, AV.emp, AV.emp, AV.int IntKind.i64 0, AV.int IntKind.i64 0, AV.str [], AV.emp, AV.emp, AV.emp, AV.int IntKind.i64 0, AV.emp, AV.emp, AV.int IntKind.i64 0, AV.int IntKind.i64 0] false),
  (44, TI.mk (UT.struct [(0, 37), (1, 23), (2, 38), (8, 41), (13, 42), (14, 3), (15, 3)]) 16 296 [AV.emp, AV.emp, AV.emp, AV.emp, AV.emp, AV.int IntKind.i64 0, AV.int IntKind.i64 0, AV.str [], AV.emp, AV.emp, AV.emp, AV.int IntKind.i64 0, AV.emp, AV.emp, AV.int IntKind.i64 0, AV.int IntKind.i64 0] false),
  (46, TI.mk (UT.slice 92) 1 24 [AV.emp] false),
  (51, TI.mk (UT.slice 156) 1 24 [AV.emp] false),
  (52, TI.mk (UT.struct [(0, 32), (16, 33), (17, 4), (18, 9), (19, 51)]) 20 368 [AV.emp, AV.emp, AV.emp, AV.emp, AV.emp, AV.int IntKind.i64 0, AV.int IntKind.i64 0, AV.str [], AV.emp, AV.emp, AV.emp, AV.int IntKind.i64 0, AV.emp, AV.emp, AV.int IntKind.i64 0, AV.int IntKind.i64 0, AV.emp, AV.bool false, AV.str [], AV.emp] false),
  (53, TI.mk (UT.struct [(0, 32), (16, 33), (17, 4), (18, 9), (19, 51)]) 20 368 [AV.emp, AV.emp, AV.emp, AV.emp, AV.emp, AV.int IntKind.i64 0, AV.int IntKind.i64 0, AV.str [], AV.emp, AV.emp, AV.emp, AV.int IntKind.i64 0, AV.emp, AV.emp, AV.int IntKind.i64 0, AV.int IntKind.i64 0, AV.emp, AV.bool false, AV.str [], AV.emp] false),
  (56, TI.mk (UT.slice 111) 1 24 [AV.emp] false),
  (57, TI.mk (UT.struct [(0, 44), (16, 46), (17, 4), (18, 9), (19, 56)]) 20 368 [AV.emp, AV.emp, AV.emp, AV.emp, AV.emp, AV.int IntKind.i64 0, AV.int IntKind.i64 0, AV.str [], AV.emp, AV.emp, AV.emp, AV.int IntKind.i64 0, AV.emp, AV.emp, AV.int IntKind.i64 0, AV.int IntKind.i64 0, AV.emp, AV.bool false, AV.str [], AV.emp] false),
  (58, TI.mk (UT.struct [(0, 44), (16, 46), (17, 4), (18, 9), (19, 56)]) 20 368 [AV.emp, AV.emp, AV.emp, AV.emp, AV.emp, AV.int IntKind.i64 0, AV.int IntKind.i64 0, AV.str [], AV.emp, AV.emp, AV.emp, AV.int IntKind.i64 0, AV.emp, AV.emp, AV.int IntKind.i64 0, AV.int IntKind.i64 0, AV.emp, AV.bool false, AV.str [], AV.emp] false),
  (69, TI.mk (UT.slice 9) 1 24 [AV.emp] false),
  (83, TI.mk (UT.struct [(0, 3), (1, 51)]) 2 32 [AV.int IntKind.i64 0, AV.emp] true),
  (84, TI.mk (UT.struct [(0, 3), (1, 51)]) 2 32 [AV.int IntKind.i64 0, AV.emp] true),
  (91, TI.mk (UT.struct [(0, 3), (1, 56)]) 2 32 [AV.int IntKind.i64 0, AV.emp] true),
  (92, TI.mk (UT.struct [(0, 3), (1, 56)]) 2 32 [AV.int IntKind.i64 0, AV.emp] true),
  (95, TI.mk (UT.struct [(0, 9), (1, 3), (2, 3)]) 3 32 [AV.str [], AV.int IntKind.i64 0, AV.int IntKind.i64 0] true),
  (96, TI.mk (UT.struct [(0, 9), (1, 3), (2, 3)]) 3 32 [AV.str [], AV.int IntKind.i64 0, AV.int IntKind.i64 0] true),
  (110, TI.mk (UT.struct [(0, 3), (1, 3)]) 2 16 [AV.int IntKind.i64 0, AV.int IntKind.i64 0] true),
  (111, TI.mk (UT.struct [(0, 3), (1, 3)]) 2 16 [AV.int IntKind.i64 0, AV.int IntKind.i64 0] true),
  (125, TI.mk (UT.struct [(0, 3), (1, 3), (2, 3), (3, 3)]) 4 32 [AV.int IntKind.i64 0, AV.int IntKind.i64 0, AV.int IntKind.i64 0, AV.int IntKind.i64 0] true),
  (126, TI.mk (UT.struct [(0, 3), (1, 3), (2, 3), (3, 3)]) 4 32 [AV.int IntKind.i64 0, AV.int IntKind.i64 0, AV.int IntKind.i64 0, AV.int IntKind.i64 0] true),
  (129, TI.mk (UT.struct [(0, 9), (1, 3), (2, 3)]) 3 32 [AV.str [], AV.int IntKind.i64 0, AV.int IntKind.i64 0] true),
  (140, TI.mk (UT.struct [(0, 3), (1, 3), (2, 3), (3, 4)]) 4 32 [AV.int IntKind.i64 0, AV.int IntKind.i64 0, AV.int IntKind.i64 0, AV.bool false] true),
  (141, TI.mk (UT.struct [(0, 3), (1, 3), (2, 3), (3, 4)]) 4 32 [AV.int IntKind.i64 0, AV.int IntKind.i64 0, AV.int IntKind.i64 0, AV.bool false] true),
  (143, TI.mk (UT.struct [(0, 3), (1, 3), (2, 3), (3, 4)]) 4 32 [AV.int IntKind.i64 0, AV.int IntKind.i64 0, AV.int IntKind.i64 0, AV.bool false] true),
  (145, TI.mk (UT.slice 46) 1 24 [AV.emp] false),
  (156, TI.mk (UT.struct [(0, 3), (1, 3)]) 2 16 [AV.int IntKind.i64 0, AV.int IntKind.i64 0] true),
  (175, TI.mk (UT.slice 5) 1 24 [AV.emp] false),
  (178, TI.mk (UT.int IntKind.u64) 1 8 [AV.int IntKind.u64 0] false),
  (183, TI.mk (UT.struct [(0, 3), (1, 3), (2, 3), (3, 3)]) 4 32 [AV.int IntKind.i64 0, AV.int IntKind.i64 0, AV.int IntKind.i64 0, AV.int IntKind.i64 0] true),
  (191, TI.mk (UT.slice 56) 1 24 [AV.emp] false),
  (202, TI.mk (UT.int IntKind.i64) 1 8 [AV.int IntKind.i64 0] false),
  (211, TI.mk (UT.int IntKind.u32) 1 4 [AV.int IntKind.u32 0] false),
  (213, TI.mk (UT.int IntKind.u64) 1 8 [AV.int IntKind.u64 0] false),
  (216, TI.mk (UT.slice 238) 1 24 [AV.emp] false),
  (217, TI.mk (UT.struct [(0, 3), (1, 23), (2, 216)]) 3 56 [AV.int IntKind.i64 0, AV.emp, AV.emp] true),
  (218, TI.mk (UT.struct [(0, 3), (1, 23), (2, 216)]) 3 56 [AV.int IntKind.i64 0, AV.emp, AV.emp] true),
  (230, TI.mk (UT.int IntKind.u64) 1 8 [AV.int IntKind.u64 0] false),
  (236, TI.mk (UT.slice 69) 1 24 [AV.emp] false),
  (237, TI.mk (UT.struct [(0, 3), (1, 3)]) 2 16 [AV.int IntKind.i64 0, AV.int IntKind.i64 0] true),
  (238, TI.mk (UT.struct [(0, 3), (1, 3)]) 2 16 [AV.int IntKind.i64 0, AV.int IntKind.i64 0] true),
  (241, TI.mk (UT.slice 37) 1 24 [AV.emp] false),
  (261, TI.mk (UT.slice 263) 1 24 [AV.emp] false),
  (262, TI.mk (UT.struct [(0, 3), (1, 3)]) 2 16 [AV.int IntKind.i64 0, AV.int IntKind.i64 0] true),
  (263, TI.mk (UT.struct [(0, 3), (1, 3)]) 2 16 [AV.int IntKind.i64 0, AV.int IntKind.i64 0] true),
  (269, TI.mk (UT.slice 275) 1 24 [AV.emp] false),
  (270, TI.mk (UT.slice 278) 1 24 [AV.emp] false),
  (271, TI.mk (UT.struct [(0, 269), (1, 270), (2, 3)]) 3 56 [AV.emp, AV.emp, AV.int IntKind.i64 0] true),
  (272, TI.mk (UT.struct [(0, 269), (1, 270), (2, 3)]) 3 56 [AV.emp, AV.emp, AV.int IntKind.i64 0] true),
  (273, TI.mk (UT.int IntKind.u16) 1 2 [AV.int IntKind.u16 0] false),
  (274, TI.mk (UT.struct [(0, 273), (1, 273), (2, 273)]) 3 6 [AV.int IntKind.u16 0, AV.int IntKind.u16 0, AV.int IntKind.u16 0] true),
  (275, TI.mk (UT.struct [(0, 273), (1, 273), (2, 273)]) 3 6 [AV.int IntKind.u16 0, AV.int IntKind.u16 0, AV.int IntKind.u16 0] true),
  (277, TI.mk (UT.struct [(0, 211), (1, 211), (2, 211)]) 3 12 [AV.int IntKind.u32 0, AV.int IntKind.u32 0, AV.int IntKind.u32 0] true),
  (278, TI.mk (UT.struct [(0, 211), (1, 211), (2, 211)]) 3 12 [AV.int IntKind.u32 0, AV.int IntKind.u32 0, AV.int IntKind.u32 0] true),
  (284, TI.mk (UT.struct [(0, 5), (1, 5)]) 2 2 [AV.int IntKind.u8 0, AV.int IntKind.u8 0] true),
  (285, TI.mk (UT.struct [(0, 5), (1, 5)]) 2 2 [AV.int IntKind.u8 0, AV.int IntKind.u8 0] true),
  (290, TI.mk (UT.struct [(0, 17), (1, 17), (2, 17), (3, 9)]) 4 40 [AV.nilp, AV.nilp, AV.nilp, AV.str []] false),
  (291, TI.mk (UT.struct [(0, 17), (1, 17), (2, 17), (3, 9)]) 4 40 [AV.nilp, AV.nilp, AV.nilp, AV.str []] false),
  (293, TI.mk (UT.struct [(0, 292)]) 0 0 [] false),
  (294, TI.mk (UT.struct [(0, 292)]) 0 0 [] false),
  (295, TI.mk (UT.int IntKind.u8) 1 1 [AV.int IntKind.u8 0] false),
  (296, TI.mk (UT.int IntKind.u8) 1 1 [AV.int IntKind.u8 0] false),
  (299, TI.mk (UT.int IntKind.i32) 1 4 [AV.int IntKind.i32 0] false),
  (300, TI.mk (UT.int IntKind.i32) 1 4 [AV.int IntKind.i32 0] false),
  (301, TI.mk (UT.struct [(0, 12), (1, 12), (2, 211), (3, 295), (4, 5), (5, 5), (6, 296), (7, 297), (8, 298), (9, 299), (10, 300)]) 11 48 [AV.int IntKind.u64 0, AV.int IntKind.u64 0, AV.int IntKind.u32 0, AV.int IntKind.u8 0, AV.int IntKind.u8 0, AV.int IntKind.u8 0, AV.int IntKind.u8 0, AV.nilfn, AV.nilp, AV.int IntKind.i32 0, AV.int IntKind.i32 0] false),
  (302, TI.mk (UT.struct [(0, 12), (1, 12), (2, 211), (3, 295), (4, 5), (5, 5), (6, 296), (7, 297), (8, 298), (9, 299), (10, 300)]) 11 48 [AV.int IntKind.u64 0, AV.int IntKind.u64 0, AV.int IntKind.u32 0, AV.int IntKind.u8 0, AV.int IntKind.u8 0, AV.int IntKind.u8 0, AV.int IntKind.u8 0, AV.nilfn, AV.nilp, AV.int IntKind.i32 0, AV.int IntKind.i32 0] false)]
theorem T_ok : T.ok Tryz.prog := TT.ok_cons (by kernel_rfl) <| TT.ok_cons (by kernel_rfl) <| TT.ok_cons (by kernel_rfl) <| TT.ok_cons (by kernel_rfl) <| TT.ok_cons (by kernel_rfl) <| TT.ok_cons (by kernel_rfl) <| TT.ok_cons (by kernel_rfl) <| TT.ok_cons (by kernel_rfl) <| TT.ok_cons (by kernel_rfl) <| TT.ok_cons (by kernel_rfl) <| TT.ok_cons (by kernel_rfl) <| TT.ok_cons (by kernel_rfl) <| TT.ok_cons (by kernel_rfl) <| TT.ok_cons (by kernel_rfl) <| TT.ok_cons (by kernel_rfl) <| TT.ok_cons (by kernel_rfl) <| TT.ok_cons (by kernel_rfl) <| TT.ok_cons (by kernel_rfl) <| TT.ok_cons (by kernel_rfl) <| TT.ok_cons (by kernel_rfl) <| TT.ok_cons (by kernel_rfl) <| TT.ok_cons (by kernel_rfl) <| TT.ok_cons (by kernel_rfl) <| TT.ok_cons (by kernel_rfl) <| TT.ok_cons (by kernel_rfl) <| TT.ok_cons (by kernel_rfl) <| TT.ok_cons (by kernel_rfl) <| TT.ok_cons (by kernel_rfl) <| TT.ok_cons (by kernel_rfl) <| TT.ok_cons (by kernel_rfl) <| TT.ok_cons (by kernel_rfl) <| TT.ok_cons (by kernel_rfl) <| TT.ok_cons (by kernel_rfl) <| TT.ok_cons (by kernel_rfl) <| TT.ok_cons (by kernel_rfl) <| TT.ok_cons (by kernel_rfl) <| TT.ok_cons (by kernel_rfl) <| TT.ok_cons (by kernel_rfl) <| TT.ok_cons (by kernel_rfl) <| TT.ok_cons (by kernel_rfl) <| TT.ok_cons (by kernel_rfl) <| TT.ok_cons (by kernel_rfl) <| TT.ok_cons (by kernel_rfl) <| TT.ok_cons (by kernel_rfl) <| TT.ok_cons (by kernel_rfl) <| TT.ok_cons (by kernel_rfl) <| TT.ok_cons (by kernel_rfl) <| TT.ok_cons (by kernel_rfl) <| TT.ok_cons (by kernel_rfl) <| TT.ok_cons (by kernel_rfl) <| TT.ok_cons (by kernel_rfl) <| TT.ok_cons (by kernel_rfl) <| TT.ok_cons (by kernel_rfl) <| TT.ok_cons (by kernel_rfl) <| TT.ok_cons (by kernel_rfl) <| TT.ok_cons (by kernel_rfl) <| TT.ok_cons (by kernel_rfl) <| TT.ok_cons (by kernel_rfl) <| TT.ok_cons (by kernel_rfl) <| TT.ok_cons (by kernel_rfl) <| TT.ok_cons (by kernel_rfl) <| TT.ok_cons (by kernel_rfl) <| TT.ok_cons (by kernel_rfl) <| TT.ok_cons (by kernel_rfl) <| TT.ok_cons (by kernel_rfl) <| TT.ok_cons (by kernel_rfl) <| TT.ok_cons (by kernel_rfl) <| TT.ok_cons (by kernel_rfl) <| TT.ok_cons (by kernel_rfl) <| TT.ok_cons (by kernel_rfl) <| TT.ok_cons (by kernel_rfl) <| TT.ok_cons (by kernel_rfl) <| TT.ok_cons (by kernel_rfl) <| TT.ok_cons (by kernel_rfl) <| TT.ok_cons (by kernel_rfl) <| TT.ok_cons (by kernel_rfl) <| TT.ok_cons (by kernel_rfl) <| TT.ok_cons (by kernel_rfl) <| TT.ok_cons (by kernel_rfl) <| TT.ok_cons (by kernel_rfl) <| TT.ok_cons (by kernel_rfl) <| TT.ok_cons (by kernel_rfl) <| TT.ok_cons (by kernel_rfl) <| TT.ok_cons (by kernel_rfl) <| TT.ok_cons (by kernel_rfl) <| TT.ok_cons (by kernel_rfl) <| TT.ok_cons (by kernel_rfl) <| TT.ok_cons (by kernel_rfl) <| TT.ok_cons (by kernel_rfl) <| TT.ok_cons (by kernel_rfl) <| TT.ok_cons (by kernel_rfl) <| TT.ok_cons (by kernel_rfl) <| TT.ok_cons (by kernel_rfl) <| TT.ok_cons (by kernel_rfl) <| TT.ok_cons (by kernel_rfl) <| TT.ok_cons (by kernel_rfl) <| TT.ok_cons (by kernel_rfl) <| TT.ok_cons (by kernel_rfl) <| TT.ok_cons (by kernel_rfl) <| TT.ok_nil

theorem mix : Tryz.prog.follows .mixedOrders = true := by kernel_rfl


theorem c98 (xs : List Bool) (left : Int) : Con Tryz.prog 98 [roB xs, .int .i64 left] (undefs [roB xs, .int .i64 left]) (.int .i64 (szN xs.length left)) := by
  refine Con.ev 12 T_ok mix Tryz.func98 rfl rfl rfl rfl [.tmp 4] rfl ?_
  conv => whnf
  (refine br_s ?_ ?_ <;> intro hb <;> (try simp only [cln] at hb) <;> conv=>whnf)
  (apply rq_s rfl;conv=>whnf)
  (focus (refine sh_s ?_; (first | (simp_all [szN]; done) | (simp_all [szN]; omega))))
  (apply rq_s rfl;conv=>whnf)
  (focus (refine sh_s ?_; (first | (simp_all [szN]; done) | (simp_all [szN]; omega))))

theorem c107 (rs : List Bool) (h : rs.length ≤ 1048576) : Con Tryz.prog 107 [roB rs] (undefs [roB rs]) (.own 0 zB (rs.map boolR)) := by
  refine Con.ev 22 T_ok mix Tryz.func107 rfl rfl rfl rfl [.tmp 2] rfl ?_
  conv => whnf
  iterate 2 (apply rq_s rfl;conv=>whnf)
  (apply rq_s (by (((simp [maxBytes, AV.plain]; omega))));conv=>whnf)
  rotate_left
  refine LoopG.rounds (α := Nat) T_ok mix [0, 3, 4] [(7, 7)] (fun i => [(0, roB rs), (3, .ref 7 0 rs.length), (4, .int .i64 i)]) (fun i => [(7, .live ⟨true, 0, zB, cpyR boolR zB rs i⟩)]) (fun i => i ≤ rs.length) (fun i => rs.length - i) ?_ ?_
  · conv => whnf
    exact head_s 0 (by simp) (by simp [roB]) (by simp [cpyR_zero, List.length_map])
  · intro i h1 _ _
    conv => whnf
    (refine br_s ?_ ?_ <;> intro hb <;> (try simp only [cln] at hb) <;> conv=>whnf)
    (apply rq_s rfl;conv=>whnf)
    (refine rq_s (by refine and_s rfl ?_; simp only [lnm]; omega) ?_;conv=>whnf)
    (refine row_s (by ((try simp only [Int.toNat_natCast]); exact row_map boolR _ _ _ default (by first | omega | (simp; omega)))) ?_;conv=>whnf)
    (apply rq_s rfl;conv=>whnf)
    (apply rq_s (by simp only [lnm, mkS_len]; done);conv=>whnf)
    (refine rq_s (by refine and_s rfl ?_; simp only [lnm]; omega) ?_;conv=>whnf)
    (apply rows_s rfl;conv=>whnf)
    rotate_left
    (apply rq_s (by simp only [lnm, mkS_len]; done);conv=>whnf)
    (apply rq_s rfl;conv=>whnf)
    (apply rows_s rfl;conv=>whnf)
    rotate_left
    · have hi : i < rs.length := hb
      rotate_left
      refine head_s (i + 1) ⟨by omega, by omega⟩ (by rw [wrap64 (by omega) (by omega)]; rfl) (congrArg (fun r => [(7, MB.live ⟨true, 0, zB, r⟩)]) ?_)
      simp only [Nat.zero_add, Int.toNat_natCast]
      exact cpyR_next default hi rfl rfl
    · obtain rfl : i = rs.length := by omega
      (refine sh_s ?_; (simp [subA, cpyR_all, List.take_of_length_le, List.length_map]))
theorem c120 (xs ys : List Bool) : Con Tryz.prog 120 [roB xs, roB ys] (undefs [roB xs, roB ys]) (.bool (decide (xs = ys))) := by
  refine Con.evF 26 T_ok mix Tryz.func120 rfl rfl rfl rfl [.tmp 4] rfl fun ⟨hx, _⟩ => ?_
  have hx := facts_len hx
  conv => whnf
  (refine br_s ?_ ?_ <;> intro hb <;> (try simp only [cln] at hb) <;> conv=>whnf)
  (apply rq_s rfl;conv=>whnf)
  iterate 2 (rotate_left)
  · refine sh_s ?_
    have : xs ≠ ys := fun e => hb (by rw [e])
    simp [this]
  · refine LoopG.rounds (α := Nat) T_ok mix [0, 1, 5] [] (fun i => [(0, roB xs), (1, roB ys), (5, .int .i64 i)]) (fun _ => []) (fun i => i ≤ xs.length ∧ xs.take i = ys.take i) (fun i => xs.length - i) ?_ ?_
    · conv => whnf
      exact head_s 0 ⟨by simp, by simp⟩ rfl rfl
    · rintro i ⟨h1, h2⟩ - -
      conv => whnf
      (refine br_s ?_ ?_ <;> intro hb <;> (try simp only [cln] at hb) <;> conv=>whnf)
      iterate 3 (refine ChkS.mk (by kernel_rfl) ?_;conv=>whnf)
      (apply rq_s rfl;conv=>whnf)
      (refine rq_s (by refine and_s rfl ?_; simp only [lnm]; omega) ?_;conv=>whnf)
      (refine ChkS.mk (by kernel_rfl) ?_;conv=>whnf)
      (refine row_s (by ((try simp only [Int.toNat_natCast]); exact row_map boolR _ _ _ default (by first | omega | (simp; omega)))) ?_;conv=>whnf)
      iterate 3 (refine ChkS.mk (by kernel_rfl) ?_;conv=>whnf)
      (apply rq_s rfl;conv=>whnf)
      (refine rq_s (by refine and_s rfl ?_; simp only [lnm]; omega) ?_;conv=>whnf)
      (refine ChkS.mk (by kernel_rfl) ?_;conv=>whnf)
      (refine row_s (by ((try simp only [Int.toNat_natCast]); exact row_map boolR _ _ _ default (by first | omega | (simp; omega)))) ?_;conv=>whnf)
      iterate 2 (refine ChkS.mk (by kernel_rfl) ?_;conv=>whnf)
      (refine br_s ?_ ?_ <;> intro hb <;> (try simp only [cln] at hb) <;> conv=>whnf)
      (apply rq_s rfl;conv=>whnf)
      iterate 2 (rotate_left)
      (apply rq_s rfl;conv=>whnf)
      rotate_left
      · refine sh_s ?_
        have : xs ≠ ys := fun e => hb (by rw [e])
        simp [this]
      · exact head_s (i + 1) ⟨⟨by omega, take_next default h2 (by omega) (by omega) hb⟩, by omega⟩ (by rw [wrap64 (by omega) (by omega)]; rfl) rfl
      · refine sh_s ?_
        simp [take_done h2 (by omega) (by omega)]
theorem c42 (xs : List Int) (left : Int) : Con Tryz.prog 42 [roI xs, .int .i64 left] (undefs [roI xs, .int .i64 left]) (.int .i64 (szN xs.length left)) := by
  refine Con.ev 12 T_ok mix Tryz.func42 rfl rfl rfl rfl [.tmp 4] rfl ?_
  conv => whnf
  (refine br_s ?_ ?_ <;> intro hb <;> (try simp only [cln] at hb) <;> conv=>whnf)
  (apply rq_s rfl;conv=>whnf)
  (focus (refine sh_s ?_; (first | (simp_all [szN]; done) | (simp_all [szN]; omega))))
  (apply rq_s rfl;conv=>whnf)
  (focus (refine sh_s ?_; (first | (simp_all [szN]; done) | (simp_all [szN]; omega))))

theorem c50 (rs : List Int) (h : rs.length ≤ 1048576) : Con Tryz.prog 50 [roI rs] (undefs [roI rs]) (.own 0 zI (rs.map intR)) := by
  refine Con.ev 22 T_ok mix Tryz.func50 rfl rfl rfl rfl [.tmp 2] rfl ?_
  conv => whnf
  iterate 2 (apply rq_s rfl;conv=>whnf)
  (apply rq_s (by (((simp [maxBytes, AV.plain]; omega))));conv=>whnf)
  rotate_left
  refine LoopG.rounds (α := Nat) T_ok mix [0, 3, 4] [(7, 7)] (fun i => [(0, roI rs), (3, .ref 7 0 rs.length), (4, .int .i64 i)]) (fun i => [(7, .live ⟨true, 0, zI, cpyR intR zI rs i⟩)]) (fun i => i ≤ rs.length) (fun i => rs.length - i) ?_ ?_
  · conv => whnf
    exact head_s 0 (by simp) (by simp [roI]) (by simp [cpyR_zero, List.length_map])
  · intro i h1 _ _
    conv => whnf
    (refine br_s ?_ ?_ <;> intro hb <;> (try simp only [cln] at hb) <;> conv=>whnf)
    (apply rq_s rfl;conv=>whnf)
    (refine rq_s (by refine and_s rfl ?_; simp only [lnm]; omega) ?_;conv=>whnf)
    (refine row_s (by ((try simp only [Int.toNat_natCast]); exact row_map intR _ _ _ default (by first | omega | (simp; omega)))) ?_;conv=>whnf)
    (apply rq_s rfl;conv=>whnf)
    (apply rq_s (by simp only [lnm, mkS_len]; done);conv=>whnf)
    (refine rq_s (by refine and_s rfl ?_; simp only [lnm]; omega) ?_;conv=>whnf)
    (apply rows_s rfl;conv=>whnf)
    rotate_left
    (apply rq_s (by simp only [lnm, mkS_len]; done);conv=>whnf)
    (apply rq_s rfl;conv=>whnf)
    (apply rows_s rfl;conv=>whnf)
    rotate_left
    · have hi : i < rs.length := hb
      rotate_left
      refine head_s (i + 1) ⟨by omega, by omega⟩ (by rw [wrap64 (by omega) (by omega)]; rfl) (congrArg (fun r => [(7, MB.live ⟨true, 0, zI, r⟩)]) ?_)
      simp only [Nat.zero_add, Int.toNat_natCast]
      exact cpyR_next default hi rfl rfl
    · obtain rfl : i = rs.length := by omega
      (refine sh_s ?_; (simp [subA, cpyR_all, List.take_of_length_le, List.length_map]))
theorem c38 (xs ys : List Int) : Con Tryz.prog 38 [roI xs, roI ys] (undefs [roI xs, roI ys]) (.bool (decide (xs = ys))) := by
  refine Con.evF 26 T_ok mix Tryz.func38 rfl rfl rfl rfl [.tmp 4] rfl fun ⟨hx, _⟩ => ?_
  have hx := facts_len hx
  conv => whnf
  (refine br_s ?_ ?_ <;> intro hb <;> (try simp only [cln] at hb) <;> conv=>whnf)
  (apply rq_s rfl;conv=>whnf)
  iterate 2 (rotate_left)
  · refine sh_s ?_
    have : xs ≠ ys := fun e => hb (by rw [e])
    simp [this]
  · refine LoopG.rounds (α := Nat) T_ok mix [0, 1, 5] [] (fun i => [(0, roI xs), (1, roI ys), (5, .int .i64 i)]) (fun _ => []) (fun i => i ≤ xs.length ∧ xs.take i = ys.take i) (fun i => xs.length - i) ?_ ?_
    · conv => whnf
      exact head_s 0 ⟨by simp, by simp⟩ rfl rfl
    · rintro i ⟨h1, h2⟩ - -
      conv => whnf
      (refine br_s ?_ ?_ <;> intro hb <;> (try simp only [cln] at hb) <;> conv=>whnf)
      iterate 3 (refine ChkS.mk (by kernel_rfl) ?_;conv=>whnf)
      (apply rq_s rfl;conv=>whnf)
      (refine rq_s (by refine and_s rfl ?_; simp only [lnm]; omega) ?_;conv=>whnf)
      (refine ChkS.mk (by kernel_rfl) ?_;conv=>whnf)
      (refine row_s (by ((try simp only [Int.toNat_natCast]); exact row_map intR _ _ _ default (by first | omega | (simp; omega)))) ?_;conv=>whnf)
      iterate 3 (refine ChkS.mk (by kernel_rfl) ?_;conv=>whnf)
      (apply rq_s rfl;conv=>whnf)
      (refine rq_s (by refine and_s rfl ?_; simp only [lnm]; omega) ?_;conv=>whnf)
      (refine ChkS.mk (by kernel_rfl) ?_;conv=>whnf)
      (refine row_s (by ((try simp only [Int.toNat_natCast]); exact row_map intR _ _ _ default (by first | omega | (simp; omega)))) ?_;conv=>whnf)
      iterate 2 (refine ChkS.mk (by kernel_rfl) ?_;conv=>whnf)
      (refine br_s ?_ ?_ <;> intro hb <;> (try simp only [cln] at hb) <;> conv=>whnf)
      (apply rq_s rfl;conv=>whnf)
      iterate 2 (rotate_left)
      (apply rq_s rfl;conv=>whnf)
      rotate_left
      · refine sh_s ?_
        have : xs ≠ ys := fun e => hb (by rw [e])
        simp [this]
      · exact head_s (i + 1) ⟨⟨by omega, take_next default h2 (by omega) (by omega) hb⟩, by omega⟩ (by rw [wrap64 (by omega) (by omega)]; rfl) rfl
      · refine sh_s ?_
        simp [take_done h2 (by omega) (by omega)]

theorem c99 (xs : List Deal) (left : Int) : Con Tryz.prog 99 [roD xs, .int .i64 left] (undefs [roD xs, .int .i64 left]) (.int .i64 (szN xs.length left)) := by
  refine Con.ev 12 T_ok mix Tryz.func99 rfl rfl rfl rfl [.tmp 4] rfl ?_
  conv => whnf
  (refine br_s ?_ ?_ <;> intro hb <;> (try simp only [cln] at hb) <;> conv=>whnf)
  (apply rq_s rfl;conv=>whnf)
  (focus (refine sh_s ?_; (first | (simp_all [szN]; done) | (simp_all [szN]; omega))))
  (apply rq_s rfl;conv=>whnf)
  (focus (refine sh_s ?_; (first | (simp_all [szN]; done) | (simp_all [szN]; omega))))

theorem c167 (x : Deal) : Con Tryz.prog 167 [dealV x] (undefs [dealV x]) (dealV x) := by
  refine Con.ev 17 T_ok mix Tryz.func167 rfl rfl rfl rfl [.cell 2 126] rfl ?_
  conv => whnf
  iterate 14 (apply rq_s rfl;conv=>whnf)
  (refine sh_s ?_; (rfl))
theorem c186 (a b : Deal) : Con Tryz.prog 186 [dealV a, dealV b] (undefs [dealV a, dealV b]) (.bool (decide (a = b))) := by
  refine Con.ev 25 T_ok mix Tryz.func186 rfl rfl rfl rfl [.tmp 4] rfl ?_
  conv => whnf
  iterate 4 (apply rq_s rfl;conv=>whnf)
  (refine br_s ?_ ?_ <;> intro hb <;> (try simp only [cln] at hb) <;> conv=>whnf)
  (apply rq_s rfl;conv=>whnf)
  (refine sh_s ?_; ((cases a; cases b; simp_all)))
  iterate 2 (apply rq_s rfl;conv=>whnf)
  (refine br_s ?_ ?_ <;> intro hb <;> (try simp only [cln] at hb) <;> conv=>whnf)
  (apply rq_s rfl;conv=>whnf)
  (refine sh_s ?_; ((cases a; cases b; simp_all)))
  iterate 2 (apply rq_s rfl;conv=>whnf)
  (refine br_s ?_ ?_ <;> intro hb <;> (try simp only [cln] at hb) <;> conv=>whnf)
  (apply rq_s rfl;conv=>whnf)
  (refine sh_s ?_; ((cases a; cases b; simp_all)))
  iterate 2 (apply rq_s rfl;conv=>whnf)
  (refine br_s ?_ ?_ <;> intro hb <;> (try simp only [cln] at hb) <;> conv=>whnf)
  (apply rq_s rfl;conv=>whnf)
  (refine sh_s ?_; ((cases a; cases b; simp_all)))
  (apply rq_s rfl;conv=>whnf)
  (refine sh_s ?_; ((cases a; cases b; simp_all)))
theorem c108 (rs : List Deal) (h : rs.length ≤ 1048576) : Con Tryz.prog 108 [roD rs] (undefs [roD rs]) (.own 0 zD (rs.map dealR)) := by
  refine Con.ev 23 T_ok mix Tryz.func108 rfl rfl rfl rfl [.tmp 2] rfl ?_
  conv => whnf
  iterate 2 (apply rq_s rfl;conv=>whnf)
  (apply rq_s (by (((simp [maxBytes, AV.plain]; omega))));conv=>whnf)
  rotate_left
  refine LoopG.rounds (α := Nat) T_ok mix [0, 3, 4] [(7, 7)] (fun i => [(0, roD rs), (3, .ref 7 0 rs.length), (4, .int .i64 i)]) (fun i => [(7, .live ⟨true, 0, zD, cpyR dealR zD rs i⟩)]) (fun i => i ≤ rs.length) (fun i => rs.length - i) ?_ ?_
  · conv => whnf
    exact head_s 0 (by simp) (by simp [roD]) (by simp [cpyR_zero, List.length_map])
  · intro i h1 _ _
    conv => whnf
    (refine br_s ?_ ?_ <;> intro hb <;> (try simp only [cln] at hb) <;> conv=>whnf)
    (apply rq_s rfl;conv=>whnf)
    (refine rq_s (by refine and_s rfl ?_; simp only [lnm]; omega) ?_;conv=>whnf)
    (refine row_s (by ((try simp only [Int.toNat_natCast]); exact row_map dealR _ _ _ default (by first | omega | (simp; omega)))) ?_;conv=>whnf)
    iterate 4 (apply rq_s rfl;conv=>whnf)
    (apply lend_s;conv=>whnf)
    rotate_left
    (apply rq_s (by simp only [lnm, mkS_len]; done);conv=>whnf)
    (apply rq_s rfl;conv=>whnf)
    (apply rows_s rfl;conv=>whnf)
    rotate_left
    · have hi : i < rs.length := hb
      (refine call_s (c167 ..) ?_;conv=>whnf)
      (apply rq_s rfl;conv=>whnf)
      (apply rq_s (by simp only [lnm, mkS_len]; done);conv=>whnf)
      (refine rq_s (by refine and_s rfl ?_; simp only [lnm]; omega) ?_;conv=>whnf)
      (apply rows_s rfl;conv=>whnf)
      iterate 4 (refine fac_s (fun hf => ?_);conv=>whnf)
      rotate_left
      refine head_s (i + 1) ⟨by omega, by omega⟩ (by rw [wrap64 (by omega) (by omega)]; rfl) (congrArg (fun r => [(7, MB.live ⟨true, 0, zD, r⟩)]) ?_)
      simp only [Nat.zero_add, Int.toNat_natCast]
      exact cpyR_next default hi rfl rfl
    · obtain rfl : i = rs.length := by omega
      (refine sh_s ?_; (simp [subA, cpyR_all, List.take_of_length_le, List.length_map]))
theorem c121 (xs ys : List Deal) : Con Tryz.prog 121 [roD xs, roD ys] (undefs [roD xs, roD ys]) (.bool (decide (xs = ys))) := by
  refine Con.evF 27 T_ok mix Tryz.func121 rfl rfl rfl rfl [.tmp 4] rfl fun ⟨hx, _⟩ => ?_
  have hx := facts_len hx
  conv => whnf
  (refine br_s ?_ ?_ <;> intro hb <;> (try simp only [cln] at hb) <;> conv=>whnf)
  (apply rq_s rfl;conv=>whnf)
  iterate 2 (rotate_left)
  · refine sh_s ?_
    have : xs ≠ ys := fun e => hb (by rw [e])
    simp [this]
  · refine LoopG.rounds (α := Nat) T_ok mix [0, 1, 5] [] (fun i => [(0, roD xs), (1, roD ys), (5, .int .i64 i)]) (fun _ => []) (fun i => i ≤ xs.length ∧ xs.take i = ys.take i) (fun i => xs.length - i) ?_ ?_
    · conv => whnf
      exact head_s 0 ⟨by simp, by simp⟩ rfl rfl
    · rintro i ⟨h1, h2⟩ - -
      conv => whnf
      (refine br_s ?_ ?_ <;> intro hb <;> (try simp only [cln] at hb) <;> conv=>whnf)
      iterate 3 (refine ChkS.mk (by kernel_rfl) ?_;conv=>whnf)
      (apply rq_s rfl;conv=>whnf)
      (refine rq_s (by refine and_s rfl ?_; simp only [lnm]; omega) ?_;conv=>whnf)
      (refine ChkS.mk (by kernel_rfl) ?_;conv=>whnf)
      (refine row_s (by ((try simp only [Int.toNat_natCast]); exact row_map dealR _ _ _ default (by first | omega | (simp; omega)))) ?_;conv=>whnf)
      iterate 3 (refine ChkS.mk (by kernel_rfl) ?_;conv=>whnf)
      (apply rq_s rfl;conv=>whnf)
      (refine rq_s (by refine and_s rfl ?_; simp only [lnm]; omega) ?_;conv=>whnf)
      (refine ChkS.mk (by kernel_rfl) ?_;conv=>whnf)
      (refine row_s (by ((try simp only [Int.toNat_natCast]); exact row_map dealR _ _ _ default (by first | omega | (simp; omega)))) ?_;conv=>whnf)
      (refine ChkS.mk (by kernel_rfl) ?_;conv=>whnf)
      iterate 8 (apply rq_s rfl;conv=>whnf)
      (refine call_s (c186 ..) ?_;conv=>whnf)
      iterate 2 (refine ChkS.mk (by kernel_rfl) ?_;conv=>whnf)
      (refine br_s ?_ ?_ <;> intro hb <;> (try simp only [cln] at hb) <;> conv=>whnf)
      (apply rq_s rfl;conv=>whnf)
      iterate 2 (rotate_left)
      (apply rq_s rfl;conv=>whnf)
      rotate_left
      · refine sh_s ?_
        have : xs ≠ ys := fun e => hb (by rw [e])
        simp [this]
      · exact head_s (i + 1) ⟨⟨by omega, take_next default h2 (by omega) (by omega) hb⟩, by omega⟩ (by rw [wrap64 (by omega) (by omega)]; rfl) rfl
      · refine sh_s ?_
        simp [take_done h2 (by omega) (by omega)]

theorem c106 (x : Wd) : Con Tryz.prog 106 [wdV x] (undefs [wdV x]) (wdV x) := by
  refine Con.ev 14 T_ok mix Tryz.func106 rfl rfl rfl rfl [.cell 2 96] rfl ?_
  conv => whnf
  iterate 11 (apply rq_s rfl;conv=>whnf)
  (refine sh_s ?_; (rfl))
theorem c119 (a b : Wd) : Con Tryz.prog 119 [wdV a, wdV b] (undefs [wdV a, wdV b]) (.bool (decide (a = b))) := by
  refine Con.ev 20 T_ok mix Tryz.func119 rfl rfl rfl rfl [.tmp 4] rfl ?_
  conv => whnf
  iterate 4 (apply rq_s rfl;conv=>whnf)
  (refine br_s ?_ ?_ <;> intro hb <;> (try simp only [cln] at hb) <;> conv=>whnf)
  (apply rq_s rfl;conv=>whnf)
  (refine sh_s ?_; ((cases a; cases b; simp_all)))
  iterate 2 (apply rq_s rfl;conv=>whnf)
  (refine br_s ?_ ?_ <;> intro hb <;> (try simp only [cln] at hb) <;> conv=>whnf)
  (apply rq_s rfl;conv=>whnf)
  (refine sh_s ?_; ((cases a; cases b; simp_all)))
  iterate 2 (apply rq_s rfl;conv=>whnf)
  (refine br_s ?_ ?_ <;> intro hb <;> (try simp only [cln] at hb) <;> conv=>whnf)
  (apply rq_s rfl;conv=>whnf)
  (refine sh_s ?_; ((cases a; cases b; simp_all)))
  (apply rq_s rfl;conv=>whnf)
  (refine sh_s ?_; ((cases a; cases b; simp_all)))
theorem c49 (rs : List Wd) (h : rs.length ≤ 1048576) : Con Tryz.prog 49 [roW rs] (undefs [roW rs]) (.own 0 zW (rs.map wdR)) := by
  refine Con.ev 23 T_ok mix Tryz.func49 rfl rfl rfl rfl [.tmp 2] rfl ?_
  conv => whnf
  iterate 2 (apply rq_s rfl;conv=>whnf)
  (apply rq_s (by (((simp [maxBytes, AV.plain]; omega))));conv=>whnf)
  rotate_left
  refine LoopG.rounds (α := Nat) T_ok mix [0, 3, 4] [(7, 7)] (fun i => [(0, roW rs), (3, .ref 7 0 rs.length), (4, .int .i64 i)]) (fun i => [(7, .live ⟨true, 0, zW, cpyR wdR zW rs i⟩)]) (fun i => i ≤ rs.length) (fun i => rs.length - i) ?_ ?_
  · conv => whnf
    exact head_s 0 (by simp) (by simp [roW]) (by simp [cpyR_zero, List.length_map])
  · intro i h1 _ _
    conv => whnf
    (refine br_s ?_ ?_ <;> intro hb <;> (try simp only [cln] at hb) <;> conv=>whnf)
    (apply rq_s rfl;conv=>whnf)
    (refine rq_s (by refine and_s rfl ?_; simp only [lnm]; omega) ?_;conv=>whnf)
    (refine row_s (by ((try simp only [Int.toNat_natCast]); exact row_map wdR _ _ _ default (by first | omega | (simp; omega)))) ?_;conv=>whnf)
    iterate 3 (apply rq_s rfl;conv=>whnf)
    (apply lend_s;conv=>whnf)
    rotate_left
    (apply rq_s (by simp only [lnm, mkS_len]; done);conv=>whnf)
    (apply rq_s rfl;conv=>whnf)
    (apply rows_s rfl;conv=>whnf)
    rotate_left
    · have hi : i < rs.length := hb
      (refine call_s (c106 ..) ?_;conv=>whnf)
      (apply rq_s rfl;conv=>whnf)
      (apply rq_s (by simp only [lnm, mkS_len]; done);conv=>whnf)
      (refine rq_s (by refine and_s rfl ?_; simp only [lnm]; omega) ?_;conv=>whnf)
      (apply rows_s rfl;conv=>whnf)
      iterate 3 (refine fac_s (fun hf => ?_);conv=>whnf)
      rotate_left
      refine head_s (i + 1) ⟨by omega, by omega⟩ (by rw [wrap64 (by omega) (by omega)]; rfl) (congrArg (fun r => [(7, MB.live ⟨true, 0, zW, r⟩)]) ?_)
      simp only [Nat.zero_add, Int.toNat_natCast]
      exact cpyR_next default hi rfl rfl
    · obtain rfl : i = rs.length := by omega
      (refine sh_s ?_; (simp [subA, cpyR_all, List.take_of_length_le, List.length_map]))
theorem c60 (xs ys : List Wd) : Con Tryz.prog 60 [roW xs, roW ys] (undefs [roW xs, roW ys]) (.bool (decide (xs = ys))) := by
  refine Con.evF 27 T_ok mix Tryz.func60 rfl rfl rfl rfl [.tmp 4] rfl fun ⟨hx, _⟩ => ?_
  have hx := facts_len hx
  conv => whnf
  (refine br_s ?_ ?_ <;> intro hb <;> (try simp only [cln] at hb) <;> conv=>whnf)
  (apply rq_s rfl;conv=>whnf)
  iterate 2 (rotate_left)
  · refine sh_s ?_
    have : xs ≠ ys := fun e => hb (by rw [e])
    simp [this]
  · refine LoopG.rounds (α := Nat) T_ok mix [0, 1, 5] [] (fun i => [(0, roW xs), (1, roW ys), (5, .int .i64 i)]) (fun _ => []) (fun i => i ≤ xs.length ∧ xs.take i = ys.take i) (fun i => xs.length - i) ?_ ?_
    · conv => whnf
      exact head_s 0 ⟨by simp, by simp⟩ rfl rfl
    · rintro i ⟨h1, h2⟩ - -
      conv => whnf
      (refine br_s ?_ ?_ <;> intro hb <;> (try simp only [cln] at hb) <;> conv=>whnf)
      iterate 3 (refine ChkS.mk (by kernel_rfl) ?_;conv=>whnf)
      (apply rq_s rfl;conv=>whnf)
      (refine rq_s (by refine and_s rfl ?_; simp only [lnm]; omega) ?_;conv=>whnf)
      (refine ChkS.mk (by kernel_rfl) ?_;conv=>whnf)
      (refine row_s (by ((try simp only [Int.toNat_natCast]); exact row_map wdR _ _ _ default (by first | omega | (simp; omega)))) ?_;conv=>whnf)
      iterate 3 (refine ChkS.mk (by kernel_rfl) ?_;conv=>whnf)
      (apply rq_s rfl;conv=>whnf)
      (refine rq_s (by refine and_s rfl ?_; simp only [lnm]; omega) ?_;conv=>whnf)
      (refine ChkS.mk (by kernel_rfl) ?_;conv=>whnf)
      (refine row_s (by ((try simp only [Int.toNat_natCast]); exact row_map wdR _ _ _ default (by first | omega | (simp; omega)))) ?_;conv=>whnf)
      (refine ChkS.mk (by kernel_rfl) ?_;conv=>whnf)
      iterate 6 (apply rq_s rfl;conv=>whnf)
      (refine call_s (c119 ..) ?_;conv=>whnf)
      iterate 2 (refine ChkS.mk (by kernel_rfl) ?_;conv=>whnf)
      (refine br_s ?_ ?_ <;> intro hb <;> (try simp only [cln] at hb) <;> conv=>whnf)
      (apply rq_s rfl;conv=>whnf)
      iterate 2 (rotate_left)
      (apply rq_s rfl;conv=>whnf)
      rotate_left
      · refine sh_s ?_
        have : xs ≠ ys := fun e => hb (by rw [e])
        simp [this]
      · exact head_s (i + 1) ⟨⟨by omega, take_next default h2 (by omega) (by omega) hb⟩, by omega⟩ (by rw [wrap64 (by omega) (by omega)]; rfl) rfl
      · refine sh_s ?_
        simp [take_done h2 (by omega) (by omega)]
theorem c65 (xs : List Itm) (left : Int) : Con Tryz.prog 65 [roT xs, .int .i64 left] (undefs [roT xs, .int .i64 left]) (.int .i64 (szN xs.length left)) := by
  refine Con.ev 12 T_ok mix Tryz.func65 rfl rfl rfl rfl [.tmp 4] rfl ?_
  conv => whnf
  (refine br_s ?_ ?_ <;> intro hb <;> (try simp only [cln] at hb) <;> conv=>whnf)
  (apply rq_s rfl;conv=>whnf)
  (focus (refine sh_s ?_; (first | (simp_all [szN]; done) | (simp_all [szN]; omega))))
  (apply rq_s rfl;conv=>whnf)
  (focus (refine sh_s ?_; (first | (simp_all [szN]; done) | (simp_all [szN]; omega))))

theorem c124 (x : Itm) : Con Tryz.prog 124 [itV x] (undefs [itV x]) (itV x) := by
  refine Con.ev 11 T_ok mix Tryz.func124 rfl rfl rfl rfl [.cell 2 111] rfl ?_
  conv => whnf
  iterate 8 (apply rq_s rfl;conv=>whnf)
  (refine sh_s ?_; (rfl))
theorem c130 (a b : Itm) : Con Tryz.prog 130 [itV a, itV b] (undefs [itV a, itV b]) (.bool (decide (a = b))) := by
  refine Con.ev 15 T_ok mix Tryz.func130 rfl rfl rfl rfl [.tmp 4] rfl ?_
  conv => whnf
  iterate 4 (apply rq_s rfl;conv=>whnf)
  (refine br_s ?_ ?_ <;> intro hb <;> (try simp only [cln] at hb) <;> conv=>whnf)
  (apply rq_s rfl;conv=>whnf)
  (refine sh_s ?_; ((cases a; cases b; simp_all)))
  iterate 2 (apply rq_s rfl;conv=>whnf)
  (refine br_s ?_ ?_ <;> intro hb <;> (try simp only [cln] at hb) <;> conv=>whnf)
  (apply rq_s rfl;conv=>whnf)
  (refine sh_s ?_; ((cases a; cases b; simp_all)))
  (apply rq_s rfl;conv=>whnf)
  (refine sh_s ?_; ((cases a; cases b; simp_all)))
theorem c67 (rs : List Itm) (h : rs.length ≤ 1048576) : Con Tryz.prog 67 [roT rs] (undefs [roT rs]) (.own 0 zT (rs.map itR)) := by
  refine Con.ev 23 T_ok mix Tryz.func67 rfl rfl rfl rfl [.tmp 2] rfl ?_
  conv => whnf
  iterate 2 (apply rq_s rfl;conv=>whnf)
  (apply rq_s (by (((simp [maxBytes, AV.plain]; omega))));conv=>whnf)
  rotate_left
  refine LoopG.rounds (α := Nat) T_ok mix [0, 3, 4] [(7, 7)] (fun i => [(0, roT rs), (3, .ref 7 0 rs.length), (4, .int .i64 i)]) (fun i => [(7, .live ⟨true, 0, zT, cpyR itR zT rs i⟩)]) (fun i => i ≤ rs.length) (fun i => rs.length - i) ?_ ?_
  · conv => whnf
    exact head_s 0 (by simp) (by simp [roT]) (by simp [cpyR_zero, List.length_map])
  · intro i h1 _ _
    conv => whnf
    (refine br_s ?_ ?_ <;> intro hb <;> (try simp only [cln] at hb) <;> conv=>whnf)
    (apply rq_s rfl;conv=>whnf)
    (refine rq_s (by refine and_s rfl ?_; simp only [lnm]; omega) ?_;conv=>whnf)
    (refine row_s (by ((try simp only [Int.toNat_natCast]); exact row_map itR _ _ _ default (by first | omega | (simp; omega)))) ?_;conv=>whnf)
    iterate 2 (apply rq_s rfl;conv=>whnf)
    (apply lend_s;conv=>whnf)
    rotate_left
    (apply rq_s (by simp only [lnm, mkS_len]; done);conv=>whnf)
    (apply rq_s rfl;conv=>whnf)
    (apply rows_s rfl;conv=>whnf)
    rotate_left
    · have hi : i < rs.length := hb
      (refine call_s (c124 ..) ?_;conv=>whnf)
      (apply rq_s rfl;conv=>whnf)
      (apply rq_s (by simp only [lnm, mkS_len]; done);conv=>whnf)
      (refine rq_s (by refine and_s rfl ?_; simp only [lnm]; omega) ?_;conv=>whnf)
      (apply rows_s rfl;conv=>whnf)
      iterate 2 (refine fac_s (fun hf => ?_);conv=>whnf)
      rotate_left
      refine head_s (i + 1) ⟨by omega, by omega⟩ (by rw [wrap64 (by omega) (by omega)]; rfl) (congrArg (fun r => [(7, MB.live ⟨true, 0, zT, r⟩)]) ?_)
      simp only [Nat.zero_add, Int.toNat_natCast]
      exact cpyR_next default hi rfl rfl
    · obtain rfl : i = rs.length := by omega
      (refine sh_s ?_; (simp [subA, cpyR_all, List.take_of_length_le, List.length_map]))
theorem c74 (xs ys : List Itm) : Con Tryz.prog 74 [roT xs, roT ys] (undefs [roT xs, roT ys]) (.bool (decide (xs = ys))) := by
  refine Con.evF 27 T_ok mix Tryz.func74 rfl rfl rfl rfl [.tmp 4] rfl fun ⟨hx, _⟩ => ?_
  have hx := facts_len hx
  conv => whnf
  (refine br_s ?_ ?_ <;> intro hb <;> (try simp only [cln] at hb) <;> conv=>whnf)
  (apply rq_s rfl;conv=>whnf)
  iterate 2 (rotate_left)
  · refine sh_s ?_
    have : xs ≠ ys := fun e => hb (by rw [e])
    simp [this]
  · refine LoopG.rounds (α := Nat) T_ok mix [0, 1, 5] [] (fun i => [(0, roT xs), (1, roT ys), (5, .int .i64 i)]) (fun _ => []) (fun i => i ≤ xs.length ∧ xs.take i = ys.take i) (fun i => xs.length - i) ?_ ?_
    · conv => whnf
      exact head_s 0 ⟨by simp, by simp⟩ rfl rfl
    · rintro i ⟨h1, h2⟩ - -
      conv => whnf
      (refine br_s ?_ ?_ <;> intro hb <;> (try simp only [cln] at hb) <;> conv=>whnf)
      iterate 3 (refine ChkS.mk (by kernel_rfl) ?_;conv=>whnf)
      (apply rq_s rfl;conv=>whnf)
      (refine rq_s (by refine and_s rfl ?_; simp only [lnm]; omega) ?_;conv=>whnf)
      (refine ChkS.mk (by kernel_rfl) ?_;conv=>whnf)
      (refine row_s (by ((try simp only [Int.toNat_natCast]); exact row_map itR _ _ _ default (by first | omega | (simp; omega)))) ?_;conv=>whnf)
      iterate 3 (refine ChkS.mk (by kernel_rfl) ?_;conv=>whnf)
      (apply rq_s rfl;conv=>whnf)
      (refine rq_s (by refine and_s rfl ?_; simp only [lnm]; omega) ?_;conv=>whnf)
      (refine ChkS.mk (by kernel_rfl) ?_;conv=>whnf)
      (refine row_s (by ((try simp only [Int.toNat_natCast]); exact row_map itR _ _ _ default (by first | omega | (simp; omega)))) ?_;conv=>whnf)
      (refine ChkS.mk (by kernel_rfl) ?_;conv=>whnf)
      iterate 4 (apply rq_s rfl;conv=>whnf)
      (refine call_s (c130 ..) ?_;conv=>whnf)
      iterate 2 (refine ChkS.mk (by kernel_rfl) ?_;conv=>whnf)
      (refine br_s ?_ ?_ <;> intro hb <;> (try simp only [cln] at hb) <;> conv=>whnf)
      (apply rq_s rfl;conv=>whnf)
      iterate 2 (rotate_left)
      (apply rq_s rfl;conv=>whnf)
      rotate_left
      · refine sh_s ?_
        have : xs ≠ ys := fun e => hb (by rw [e])
        simp [this]
      · exact head_s (i + 1) ⟨⟨by omega, take_next default h2 (by omega) (by omega) hb⟩, by omega⟩ (by rw [wrap64 (by omega) (by omega)]; rfl) rfl
      · refine sh_s ?_
        simp [take_done h2 (by omega) (by omega)]
theorem c45 (xs : List Cal) (left : Int) : Con Tryz.prog 45 [roC xs, .int .i64 left] (undefs [roC xs, .int .i64 left]) (.int .i64 (szN xs.length left)) := by
  refine Con.ev 12 T_ok mix Tryz.func45 rfl rfl rfl rfl [.tmp 4] rfl ?_
  conv => whnf
  (refine br_s ?_ ?_ <;> intro hb <;> (try simp only [cln] at hb) <;> conv=>whnf)
  (apply rq_s rfl;conv=>whnf)
  (focus (refine sh_s ?_; (first | (simp_all [szN]; done) | (simp_all [szN]; omega))))
  (apply rq_s rfl;conv=>whnf)
  (focus (refine sh_s ?_; (first | (simp_all [szN]; done) | (simp_all [szN]; omega))))

theorem c109 (x : Cal) : Con Tryz.prog 109 [calV x] (undefs [calV x]) (calV x) := by
  refine Con.ev 17 T_ok mix Tryz.func109 rfl rfl rfl rfl [.cell 2 141] rfl ?_
  conv => whnf
  iterate 14 (apply rq_s rfl;conv=>whnf)
  (refine sh_s ?_; (rfl))
theorem c122 (a b : Cal) : Con Tryz.prog 122 [calV a, calV b] (undefs [calV a, calV b]) (.bool (decide (a = b))) := by
  refine Con.ev 25 T_ok mix Tryz.func122 rfl rfl rfl rfl [.tmp 4] rfl ?_
  conv => whnf
  iterate 4 (apply rq_s rfl;conv=>whnf)
  (refine br_s ?_ ?_ <;> intro hb <;> (try simp only [cln] at hb) <;> conv=>whnf)
  (apply rq_s rfl;conv=>whnf)
  (refine sh_s ?_; ((cases a; cases b; simp_all)))
  iterate 2 (apply rq_s rfl;conv=>whnf)
  (refine br_s ?_ ?_ <;> intro hb <;> (try simp only [cln] at hb) <;> conv=>whnf)
  (apply rq_s rfl;conv=>whnf)
  (refine sh_s ?_; ((cases a; cases b; simp_all)))
  iterate 2 (apply rq_s rfl;conv=>whnf)
  (refine br_s ?_ ?_ <;> intro hb <;> (try simp only [cln] at hb) <;> conv=>whnf)
  (apply rq_s rfl;conv=>whnf)
  (refine sh_s ?_; ((cases a; cases b; simp_all)))
  iterate 2 (apply rq_s rfl;conv=>whnf)
  (refine br_s ?_ ?_ <;> intro hb <;> (try simp only [cln] at hb) <;> conv=>whnf)
  (apply rq_s rfl;conv=>whnf)
  (refine sh_s ?_; ((cases a; cases b; simp_all)))
  (apply rq_s rfl;conv=>whnf)
  (refine sh_s ?_; ((cases a; cases b; simp_all)))
theorem c53 (rs : List Cal) (h : rs.length ≤ 1048576) : Con Tryz.prog 53 [roC rs] (undefs [roC rs]) (.own 0 zC (rs.map calR)) := by
  refine Con.ev 23 T_ok mix Tryz.func53 rfl rfl rfl rfl [.tmp 2] rfl ?_
  conv => whnf
  iterate 2 (apply rq_s rfl;conv=>whnf)
  (apply rq_s (by (((simp [maxBytes, AV.plain]; omega))));conv=>whnf)
  rotate_left
  refine LoopG.rounds (α := Nat) T_ok mix [0, 3, 4] [(7, 7)] (fun i => [(0, roC rs), (3, .ref 7 0 rs.length), (4, .int .i64 i)]) (fun i => [(7, .live ⟨true, 0, zC, cpyR calR zC rs i⟩)]) (fun i => i ≤ rs.length) (fun i => rs.length - i) ?_ ?_
  · conv => whnf
    exact head_s 0 (by simp) (by simp [roC]) (by simp [cpyR_zero, List.length_map])
  · intro i h1 _ _
    conv => whnf
    (refine br_s ?_ ?_ <;> intro hb <;> (try simp only [cln] at hb) <;> conv=>whnf)
    (apply rq_s rfl;conv=>whnf)
    (refine rq_s (by refine and_s rfl ?_; simp only [lnm]; omega) ?_;conv=>whnf)
    (refine row_s (by ((try simp only [Int.toNat_natCast]); exact row_map calR _ _ _ default (by first | omega | (simp; omega)))) ?_;conv=>whnf)
    iterate 4 (apply rq_s rfl;conv=>whnf)
    (apply lend_s;conv=>whnf)
    rotate_left
    (apply rq_s (by simp only [lnm, mkS_len]; done);conv=>whnf)
    (apply rq_s rfl;conv=>whnf)
    (apply rows_s rfl;conv=>whnf)
    rotate_left
    · have hi : i < rs.length := hb
      (refine call_s (c109 ..) ?_;conv=>whnf)
      (apply rq_s rfl;conv=>whnf)
      (apply rq_s (by simp only [lnm, mkS_len]; done);conv=>whnf)
      (refine rq_s (by refine and_s rfl ?_; simp only [lnm]; omega) ?_;conv=>whnf)
      (apply rows_s rfl;conv=>whnf)
      iterate 3 (refine fac_s (fun hf => ?_);conv=>whnf)
      rotate_left
      refine head_s (i + 1) ⟨by omega, by omega⟩ (by rw [wrap64 (by omega) (by omega)]; rfl) (congrArg (fun r => [(7, MB.live ⟨true, 0, zC, r⟩)]) ?_)
      simp only [Nat.zero_add, Int.toNat_natCast]
      exact cpyR_next default hi rfl rfl
    · obtain rfl : i = rs.length := by omega
      (refine sh_s ?_; (simp [subA, cpyR_all, List.take_of_length_le, List.length_map]))
theorem c63 (xs ys : List Cal) : Con Tryz.prog 63 [roC xs, roC ys] (undefs [roC xs, roC ys]) (.bool (decide (xs = ys))) := by
  refine Con.evF 27 T_ok mix Tryz.func63 rfl rfl rfl rfl [.tmp 4] rfl fun ⟨hx, _⟩ => ?_
  have hx := facts_len hx
  conv => whnf
  (refine br_s ?_ ?_ <;> intro hb <;> (try simp only [cln] at hb) <;> conv=>whnf)
  (apply rq_s rfl;conv=>whnf)
  iterate 2 (rotate_left)
  · refine sh_s ?_
    have : xs ≠ ys := fun e => hb (by rw [e])
    simp [this]
  · refine LoopG.rounds (α := Nat) T_ok mix [0, 1, 5] [] (fun i => [(0, roC xs), (1, roC ys), (5, .int .i64 i)]) (fun _ => []) (fun i => i ≤ xs.length ∧ xs.take i = ys.take i) (fun i => xs.length - i) ?_ ?_
    · conv => whnf
      exact head_s 0 ⟨by simp, by simp⟩ rfl rfl
    · rintro i ⟨h1, h2⟩ - -
      conv => whnf
      (refine br_s ?_ ?_ <;> intro hb <;> (try simp only [cln] at hb) <;> conv=>whnf)
      iterate 3 (refine ChkS.mk (by kernel_rfl) ?_;conv=>whnf)
      (apply rq_s rfl;conv=>whnf)
      (refine rq_s (by refine and_s rfl ?_; simp only [lnm]; omega) ?_;conv=>whnf)
      (refine ChkS.mk (by kernel_rfl) ?_;conv=>whnf)
      (refine row_s (by ((try simp only [Int.toNat_natCast]); exact row_map calR _ _ _ default (by first | omega | (simp; omega)))) ?_;conv=>whnf)
      iterate 3 (refine ChkS.mk (by kernel_rfl) ?_;conv=>whnf)
      (apply rq_s rfl;conv=>whnf)
      (refine rq_s (by refine and_s rfl ?_; simp only [lnm]; omega) ?_;conv=>whnf)
      (refine ChkS.mk (by kernel_rfl) ?_;conv=>whnf)
      (refine row_s (by ((try simp only [Int.toNat_natCast]); exact row_map calR _ _ _ default (by first | omega | (simp; omega)))) ?_;conv=>whnf)
      (refine ChkS.mk (by kernel_rfl) ?_;conv=>whnf)
      iterate 8 (apply rq_s rfl;conv=>whnf)
      (refine call_s (c122 ..) ?_;conv=>whnf)
      iterate 2 (refine ChkS.mk (by kernel_rfl) ?_;conv=>whnf)
      (refine br_s ?_ ?_ <;> intro hb <;> (try simp only [cln] at hb) <;> conv=>whnf)
      (apply rq_s rfl;conv=>whnf)
      iterate 2 (rotate_left)
      (apply rq_s rfl;conv=>whnf)
      rotate_left
      · refine sh_s ?_
        have : xs ≠ ys := fun e => hb (by rw [e])
        simp [this]
      · exact head_s (i + 1) ⟨⟨by omega, take_next default h2 (by omega) (by omega) hb⟩, by omega⟩ (by rw [wrap64 (by omega) (by omega)]; rfl) rfl
      · refine sh_s ?_
        simp [take_done h2 (by omega) (by omega)]

def smallData (d : Dat) : Prop := d.st.length ≤ 1048576 ∧ d.bk.length ≤ 1048576 ∧ d.ce.length ≤ 1048576 ∧ d.ou.length ≤ 1048576
def szData (d : Dat) (l : Int) : Int := szC (szN d.st.length l) (fun l => szC (szN d.bk.length l) (fun l => szC (szN d.ce.length l) (fun l => szC (szN d.ou.length l) id)))
theorem c43 (d : Dat) (left : Int) : Con Tryz.prog 43 [datV d, .int .i64 left] (undefs [datV d, .int .i64 left]) (.int .i64 (szData d left)) := by
  refine Con.ev 31 T_ok mix Tryz.func43 rfl rfl rfl rfl [.tmp 4] rfl ?_
  conv => whnf
  iterate 4 (apply rq_s rfl;conv=>whnf)
  (apply lend_s;conv=>whnf)
  (apply rows_s rfl;conv=>whnf)
  (refine call_s (c42 ..) ?_;conv=>whnf)
  (refine fac_s (fun hf => ?_);conv=>whnf)
  (refine br_s ?_ ?_ <;> intro hb <;> (try simp only [cln] at hb) <;> conv=>whnf)
  (apply rq_s rfl;conv=>whnf)
  (focus (refine sh_s ?_; (first | (simp_all [szData, szC, szN]; done) | (simp_all [szData, szC, szN]; omega) | (simp only [szData, szC]; rw [szN_ok (show 0 ≤ IntKind.i64.wrap (left - _) by assumption)]; first | (rw [if_neg (by omega), if_pos (by omega)]; done) | (rw [if_neg (by omega), if_neg (by omega)]; first | done | rfl)))))
  iterate 3 (apply rq_s rfl;conv=>whnf)
  (apply lend_s;conv=>whnf)
  (apply rows_s rfl;conv=>whnf)
  (refine call_s (c42 ..) ?_;conv=>whnf)
  (refine fac_s (fun hf => ?_);conv=>whnf)
  (refine br_s ?_ ?_ <;> intro hb <;> (try simp only [cln] at hb) <;> conv=>whnf)
  (apply rq_s rfl;conv=>whnf)
  (focus (refine sh_s ?_; (first | (simp_all [szData, szC, szN]; done) | (simp_all [szData, szC, szN]; omega) | (simp only [szData, szC]; rw [szN_ok (show 0 ≤ IntKind.i64.wrap (left - _) by assumption)]; first | (rw [if_neg (by omega), if_pos (by omega)]; done) | (rw [if_neg (by omega), if_neg (by omega)]; first | done | rfl)))))
  iterate 3 (apply rq_s rfl;conv=>whnf)
  (apply lend_s;conv=>whnf)
  (apply rows_s rfl;conv=>whnf)
  (refine call_s (c42 ..) ?_;conv=>whnf)
  (refine fac_s (fun hf => ?_);conv=>whnf)
  (refine br_s ?_ ?_ <;> intro hb <;> (try simp only [cln] at hb) <;> conv=>whnf)
  (apply rq_s rfl;conv=>whnf)
  (focus (refine sh_s ?_; (first | (simp_all [szData, szC, szN]; done) | (simp_all [szData, szC, szN]; omega) | (simp only [szData, szC]; rw [szN_ok (show 0 ≤ IntKind.i64.wrap (left - _) by assumption)]; first | (rw [if_neg (by omega), if_pos (by omega)]; done) | (rw [if_neg (by omega), if_neg (by omega)]; first | done | rfl)))))
  (apply rq_s rfl;conv=>whnf)
  (refine br_s ?_ ?_ <;> intro hb <;> (try simp only [cln] at hb) <;> conv=>whnf)
  (apply rq_s rfl;conv=>whnf)
  (focus (refine sh_s ?_; (first | (simp_all [szData, szC, szN]; done) | (simp_all [szData, szC, szN]; omega) | (simp only [szData, szC]; rw [szN_ok (show 0 ≤ IntKind.i64.wrap (left - _) by assumption)]; first | (rw [if_neg (by omega), if_pos (by omega)]; done) | (rw [if_neg (by omega), if_neg (by omega)]; first | done | rfl)))))
  (apply rq_s rfl;conv=>whnf)
  (focus (refine sh_s ?_; (first | (simp_all [szData, szC, szN]; done) | (simp_all [szData, szC, szN]; omega) | (simp only [szData, szC]; rw [szN_ok (show 0 ≤ IntKind.i64.wrap (left - _) by assumption)]; first | (rw [if_neg (by omega), if_pos (by omega)]; done) | (rw [if_neg (by omega), if_neg (by omega)]; first | done | rfl)))))
theorem smallData_of {d : Dat} {l : Int} (h1 : 0 ≤ l) (h2 : l ≤ 1048576) (hl0 : d.st.length ≤ 9223372036854775807) (hl1 : d.bk.length ≤ 9223372036854775807) (hl2 : d.ce.length ≤ 9223372036854775807) (hl5 : d.ou.length ≤ 9223372036854775807) (e : 0 ≤ szData d l) : szData d l ≤ l ∧ smallData d := by
  unfold szData at e ⊢
  obtain ⟨a0, e, q0⟩ := szC_step e
  have k0 := szN_le (h1) (h2) hl0 a0
  obtain ⟨a1, e, q1⟩ := szC_step e
  have k1 := szN_le (by omega) (by omega) hl1 a1
  obtain ⟨a2, e, q2⟩ := szC_step e
  have k2 := szN_le (by omega) (by omega) hl2 a2
  obtain ⟨a5, e, q5⟩ := szC_step e
  have k5 := szN_le (by omega) (by omega) hl5 a5
  try simp only [id] at *
  refine ⟨by rw [q0, q1, q2, q5]; (try simp only [id]); omega, k0.2, k1.2, k2.2, k5.2⟩
theorem c51 (d : Dat) (hs : smallData d) : Con Tryz.prog 51 [datV d] (undefs [datV d]) (datO d) := by
  refine Con.ev 26 T_ok mix Tryz.func51 rfl rfl rfl rfl [.cell 2 38] rfl ?_
  conv => whnf
  iterate 3 (apply rq_s rfl;conv=>whnf)
  (apply lend_s;conv=>whnf)
  (apply rows_s rfl;conv=>whnf)
  (refine call_s (c50 _ hs.1) ?_;conv=>whnf)
  (apply rq_s rfl;conv=>whnf)
  (refine fac_s (fun hf => ?_);conv=>whnf)
  iterate 2 (apply rq_s rfl;conv=>whnf)
  (apply lend_s;conv=>whnf)
  (apply rows_s rfl;conv=>whnf)
  (refine call_s (c50 _ hs.2.1) ?_;conv=>whnf)
  (apply rq_s rfl;conv=>whnf)
  (refine fac_s (fun hf => ?_);conv=>whnf)
  iterate 2 (apply rq_s rfl;conv=>whnf)
  (apply lend_s;conv=>whnf)
  (apply rows_s rfl;conv=>whnf)
  (refine call_s (c50 _ hs.2.2.1) ?_;conv=>whnf)
  (apply rq_s rfl;conv=>whnf)
  (refine fac_s (fun hf => ?_);conv=>whnf)
  iterate 7 (apply rq_s rfl;conv=>whnf)
  (apply rq_s (by simp only [lnm, mkS_len, ownI, ownB, ownD, ownW, ownT, ownC, ownS]; done);conv=>whnf)
  (apply rq_s rfl;conv=>whnf)
  (apply rq_s (by simp only [lnm, mkS_len, ownI, ownB, ownD, ownW, ownT, ownC, ownS]; done);conv=>whnf)
  (apply rq_s rfl;conv=>whnf)
  (apply rq_s (by simp only [lnm, mkS_len, ownI, ownB, ownD, ownW, ownT, ownC, ownS]; done);conv=>whnf)
  iterate 4 (apply rq_s rfl;conv=>whnf)
  iterate 3 (refine rows_s (by ((refine sub_all ?_; simp [List.length_map, mkS_len, ownI, ownB, ownD, ownW, ownT, ownC, ownS]; done))) ?_;conv=>whnf)
  (refine sh_s ?_; (rfl))
theorem c61 (a b : Dat) : Con Tryz.prog 61 [datV a, datV b] (undefs [datV a, datV b]) (.bool (decide (a = b))) := by
  refine Con.ev 38 T_ok mix Tryz.func61 rfl rfl rfl rfl [.tmp 4] rfl ?_
  conv => whnf
  iterate 6 (apply rq_s rfl;conv=>whnf)
  (apply lend_s;conv=>whnf)
  iterate 2 (apply rows_s rfl;conv=>whnf)
  (refine call_s (c38 ..) ?_;conv=>whnf)
  (refine br_s ?_ ?_ <;> intro hb <;> (try simp only [cln] at hb) <;> conv=>whnf)
  (apply rq_s rfl;conv=>whnf)
  (refine sh_s ?_; ((cases a; cases b; simp_all)))
  iterate 4 (apply rq_s rfl;conv=>whnf)
  (apply lend_s;conv=>whnf)
  iterate 2 (apply rows_s rfl;conv=>whnf)
  (refine call_s (c38 ..) ?_;conv=>whnf)
  (refine br_s ?_ ?_ <;> intro hb <;> (try simp only [cln] at hb) <;> conv=>whnf)
  (apply rq_s rfl;conv=>whnf)
  (refine sh_s ?_; ((cases a; cases b; simp_all)))
  iterate 4 (apply rq_s rfl;conv=>whnf)
  (apply lend_s;conv=>whnf)
  iterate 2 (apply rows_s rfl;conv=>whnf)
  (refine call_s (c38 ..) ?_;conv=>whnf)
  (refine br_s ?_ ?_ <;> intro hb <;> (try simp only [cln] at hb) <;> conv=>whnf)
  (apply rq_s rfl;conv=>whnf)
  (refine sh_s ?_; ((cases a; cases b; simp_all)))
  iterate 2 (apply rq_s rfl;conv=>whnf)
  (refine br_s ?_ ?_ <;> intro hb <;> (try simp only [cln] at hb) <;> conv=>whnf)
  (apply rq_s rfl;conv=>whnf)
  (refine sh_s ?_; ((cases a; cases b; simp_all)))
  iterate 2 (apply rq_s rfl;conv=>whnf)
  (refine br_s ?_ ?_ <;> intro hb <;> (try simp only [cln] at hb) <;> conv=>whnf)
  (apply rq_s rfl;conv=>whnf)
  (refine sh_s ?_; ((cases a; cases b; simp_all)))
  iterate 2 (apply rq_s rfl;conv=>whnf)
  (refine br_s ?_ ?_ <;> intro hb <;> (try simp only [cln] at hb) <;> conv=>whnf)
  (apply rq_s rfl;conv=>whnf)
  (refine sh_s ?_; ((cases a; cases b; simp_all)))
  (apply rq_s rfl;conv=>whnf)
  (refine sh_s ?_; ((cases a; cases b; simp_all)))
def smallHost (h : Hst) : Prop := h.gr.length ≤ 1048576 ∧ h.st.length ≤ 1048576 ∧ h.q.length ≤ 1048576 ∧ h.ds.length ≤ 1048576
def szHost (h : Hst) (l : Int) : Int := szC (szN h.gr.length l) (fun l => szC (szN h.st.length l) (fun l => szC (szN h.q.length l) (fun l => szC (szN h.ds.length l) id)))
theorem c44 (h : Hst) (left : Int) : Con Tryz.prog 44 [hstV h, .int .i64 left] (undefs [hstV h, .int .i64 left]) (.int .i64 (szHost h left)) := by
  refine Con.ev 30 T_ok mix Tryz.func44 rfl rfl rfl rfl [.tmp 4] rfl ?_
  conv => whnf
  iterate 4 (apply rq_s rfl;conv=>whnf)
  (apply lend_s;conv=>whnf)
  (apply rows_s rfl;conv=>whnf)
  (refine call_s (c98 ..) ?_;conv=>whnf)
  (refine fac_s (fun hf => ?_);conv=>whnf)
  (refine br_s ?_ ?_ <;> intro hb <;> (try simp only [cln] at hb) <;> conv=>whnf)
  (apply rq_s rfl;conv=>whnf)
  (focus (refine sh_s ?_; (first | (simp_all [szHost, szC, szN]; done) | (simp_all [szHost, szC, szN]; omega) | (simp only [szHost, szC]; rw [szN_ok (show 0 ≤ IntKind.i64.wrap (left - _) by assumption)]; first | (rw [if_neg (by omega), if_pos (by omega)]; done) | (rw [if_neg (by omega), if_neg (by omega)]; first | done | rfl)))))
  iterate 3 (apply rq_s rfl;conv=>whnf)
  (apply lend_s;conv=>whnf)
  (apply rows_s rfl;conv=>whnf)
  (refine call_s (c42 ..) ?_;conv=>whnf)
  (refine fac_s (fun hf => ?_);conv=>whnf)
  (refine br_s ?_ ?_ <;> intro hb <;> (try simp only [cln] at hb) <;> conv=>whnf)
  (apply rq_s rfl;conv=>whnf)
  (focus (refine sh_s ?_; (first | (simp_all [szHost, szC, szN]; done) | (simp_all [szHost, szC, szN]; omega) | (simp only [szHost, szC]; rw [szN_ok (show 0 ≤ IntKind.i64.wrap (left - _) by assumption)]; first | (rw [if_neg (by omega), if_pos (by omega)]; done) | (rw [if_neg (by omega), if_neg (by omega)]; first | done | rfl)))))
  iterate 3 (apply rq_s rfl;conv=>whnf)
  (apply lend_s;conv=>whnf)
  (apply rows_s rfl;conv=>whnf)
  (refine call_s (c42 ..) ?_;conv=>whnf)
  (refine fac_s (fun hf => ?_);conv=>whnf)
  (refine br_s ?_ ?_ <;> intro hb <;> (try simp only [cln] at hb) <;> conv=>whnf)
  (apply rq_s rfl;conv=>whnf)
  (focus (refine sh_s ?_; (first | (simp_all [szHost, szC, szN]; done) | (simp_all [szHost, szC, szN]; omega) | (simp only [szHost, szC]; rw [szN_ok (show 0 ≤ IntKind.i64.wrap (left - _) by assumption)]; first | (rw [if_neg (by omega), if_pos (by omega)]; done) | (rw [if_neg (by omega), if_neg (by omega)]; first | done | rfl)))))
  iterate 3 (apply rq_s rfl;conv=>whnf)
  (apply lend_s;conv=>whnf)
  (apply rows_s rfl;conv=>whnf)
  (refine call_s (c99 ..) ?_;conv=>whnf)
  (refine fac_s (fun hf => ?_);conv=>whnf)
  (refine br_s ?_ ?_ <;> intro hb <;> (try simp only [cln] at hb) <;> conv=>whnf)
  (apply rq_s rfl;conv=>whnf)
  (focus (refine sh_s ?_; (first | (simp_all [szHost, szC, szN]; done) | (simp_all [szHost, szC, szN]; omega) | (simp only [szHost, szC]; rw [szN_ok (show 0 ≤ IntKind.i64.wrap (left - _) by assumption)]; first | (rw [if_neg (by omega), if_pos (by omega)]; done) | (rw [if_neg (by omega), if_neg (by omega)]; first | done | rfl)))))
  (apply rq_s rfl;conv=>whnf)
  (focus (refine sh_s ?_; (first | (simp_all [szHost, szC, szN]; done) | (simp_all [szHost, szC, szN]; omega) | (simp only [szHost, szC]; rw [szN_ok (show 0 ≤ IntKind.i64.wrap (left - _) by assumption)]; first | (rw [if_neg (by omega), if_pos (by omega)]; done) | (rw [if_neg (by omega), if_neg (by omega)]; first | done | rfl)))))
theorem smallHost_of {h : Hst} {l : Int} (h1 : 0 ≤ l) (h2 : l ≤ 1048576) (hl0 : h.gr.length ≤ 9223372036854775807) (hl1 : h.st.length ≤ 9223372036854775807) (hl2 : h.q.length ≤ 9223372036854775807) (hl4 : h.ds.length ≤ 9223372036854775807) (e : 0 ≤ szHost h l) : szHost h l ≤ l ∧ smallHost h := by
  unfold szHost at e ⊢
  obtain ⟨a0, e, q0⟩ := szC_step e
  have k0 := szN_le (h1) (h2) hl0 a0
  obtain ⟨a1, e, q1⟩ := szC_step e
  have k1 := szN_le (by omega) (by omega) hl1 a1
  obtain ⟨a2, e, q2⟩ := szC_step e
  have k2 := szN_le (by omega) (by omega) hl2 a2
  obtain ⟨a4, e, q4⟩ := szC_step e
  have k4 := szN_le (by omega) (by omega) hl4 a4
  try simp only [id] at *
  refine ⟨by rw [q0, q1, q2, q4]; (try simp only [id]); omega, k0.2, k1.2, k2.2, k4.2⟩
theorem c52 (h : Hst) (hs : smallHost h) : Con Tryz.prog 52 [hstV h] (undefs [hstV h]) (hstO h) := by
  refine Con.ev 24 T_ok mix Tryz.func52 rfl rfl rfl rfl [.cell 2 41] rfl ?_
  conv => whnf
  iterate 3 (apply rq_s rfl;conv=>whnf)
  (apply lend_s;conv=>whnf)
  (apply rows_s rfl;conv=>whnf)
  (refine call_s (c107 _ hs.1) ?_;conv=>whnf)
  (apply rq_s rfl;conv=>whnf)
  (refine fac_s (fun hf => ?_);conv=>whnf)
  iterate 2 (apply rq_s rfl;conv=>whnf)
  (apply lend_s;conv=>whnf)
  (apply rows_s rfl;conv=>whnf)
  (refine call_s (c50 _ hs.2.1) ?_;conv=>whnf)
  (apply rq_s rfl;conv=>whnf)
  (refine fac_s (fun hf => ?_);conv=>whnf)
  iterate 2 (apply rq_s rfl;conv=>whnf)
  (apply lend_s;conv=>whnf)
  (apply rows_s rfl;conv=>whnf)
  (refine call_s (c50 _ hs.2.2.1) ?_;conv=>whnf)
  (apply rq_s rfl;conv=>whnf)
  (refine fac_s (fun hf => ?_);conv=>whnf)
  iterate 4 (apply rq_s rfl;conv=>whnf)
  (apply lend_s;conv=>whnf)
  (apply rows_s rfl;conv=>whnf)
  (refine call_s (c108 _ hs.2.2.2) ?_;conv=>whnf)
  (apply rq_s rfl;conv=>whnf)
  (refine fac_s (fun hf => ?_);conv=>whnf)
  (apply rq_s rfl;conv=>whnf)
  (apply rq_s (by simp only [lnm, mkS_len, ownI, ownB, ownD, ownW, ownT, ownC, ownS]; done);conv=>whnf)
  (apply rq_s rfl;conv=>whnf)
  (apply rq_s (by simp only [lnm, mkS_len, ownI, ownB, ownD, ownW, ownT, ownC, ownS]; done);conv=>whnf)
  (apply rq_s rfl;conv=>whnf)
  (apply rq_s (by simp only [lnm, mkS_len, ownI, ownB, ownD, ownW, ownT, ownC, ownS]; done);conv=>whnf)
  iterate 2 (apply rq_s rfl;conv=>whnf)
  (apply rq_s (by simp only [lnm, mkS_len, ownI, ownB, ownD, ownW, ownT, ownC, ownS]; done);conv=>whnf)
  (apply rq_s rfl;conv=>whnf)
  iterate 4 (refine rows_s (by ((refine sub_all ?_; simp [List.length_map, mkS_len, ownI, ownB, ownD, ownW, ownT, ownC, ownS]; done))) ?_;conv=>whnf)
  (refine sh_s ?_; (rfl))
theorem c62 (a b : Hst) : Con Tryz.prog 62 [hstV a, hstV b] (undefs [hstV a, hstV b]) (.bool (decide (a = b))) := by
  refine Con.ev 34 T_ok mix Tryz.func62 rfl rfl rfl rfl [.tmp 4] rfl ?_
  conv => whnf
  iterate 6 (apply rq_s rfl;conv=>whnf)
  (apply lend_s;conv=>whnf)
  iterate 2 (apply rows_s rfl;conv=>whnf)
  (refine call_s (c120 ..) ?_;conv=>whnf)
  (refine br_s ?_ ?_ <;> intro hb <;> (try simp only [cln] at hb) <;> conv=>whnf)
  (apply rq_s rfl;conv=>whnf)
  (refine sh_s ?_; ((cases a; cases b; simp_all)))
  iterate 4 (apply rq_s rfl;conv=>whnf)
  (apply lend_s;conv=>whnf)
  iterate 2 (apply rows_s rfl;conv=>whnf)
  (refine call_s (c38 ..) ?_;conv=>whnf)
  (refine br_s ?_ ?_ <;> intro hb <;> (try simp only [cln] at hb) <;> conv=>whnf)
  (apply rq_s rfl;conv=>whnf)
  (refine sh_s ?_; ((cases a; cases b; simp_all)))
  iterate 4 (apply rq_s rfl;conv=>whnf)
  (apply lend_s;conv=>whnf)
  iterate 2 (apply rows_s rfl;conv=>whnf)
  (refine call_s (c38 ..) ?_;conv=>whnf)
  (refine br_s ?_ ?_ <;> intro hb <;> (try simp only [cln] at hb) <;> conv=>whnf)
  (apply rq_s rfl;conv=>whnf)
  (refine sh_s ?_; ((cases a; cases b; simp_all)))
  iterate 2 (apply rq_s rfl;conv=>whnf)
  (refine br_s ?_ ?_ <;> intro hb <;> (try simp only [cln] at hb) <;> conv=>whnf)
  (apply rq_s rfl;conv=>whnf)
  (refine sh_s ?_; ((cases a; cases b; simp_all)))
  iterate 4 (apply rq_s rfl;conv=>whnf)
  (apply lend_s;conv=>whnf)
  iterate 2 (apply rows_s rfl;conv=>whnf)
  (refine call_s (c121 ..) ?_;conv=>whnf)
  (refine br_s ?_ ?_ <;> intro hb <;> (try simp only [cln] at hb) <;> conv=>whnf)
  (apply rq_s rfl;conv=>whnf)
  (refine sh_s ?_; ((cases a; cases b; simp_all)))
  (apply rq_s rfl;conv=>whnf)
  (refine sh_s ?_; ((cases a; cases b; simp_all)))
end V1

/- Cells, ranges, valid hosts and data, copies of them: contracts. -/
set_option linter.unusedVariables false
set_option linter.unusedSimpArgs false
set_option maxRecDepth 100000
open Go Go.Abs Go.Proofs V1
namespace H1

theorem c57 (n lo hi : Int) : Con Tryz.prog 57 [.int .i64 n, .int .i64 lo, .int .i64 hi] (undefs [.int .i64 n, .int .i64 lo, .int .i64 hi]) (.bool (inR n lo hi)) := by
  refine Con.ev 15 T_ok mix Tryz.func57 rfl rfl rfl rfl [.tmp 6] rfl ?_
  conv => whnf
  (refine br_s ?_ ?_ <;> intro hb <;> (try simp only [cln] at hb) <;> conv=>whnf)
  iterate 2 (apply br_t rfl;conv=>whnf)
  (apply rq_s rfl;conv=>whnf)
  (focus (refine sh_s ?_; (first | (simp_all [inR]; done) | (simp_all [inR]; omega))))
  iterate 3 (apply br_f rfl;conv=>whnf)
  (apply rq_s rfl;conv=>whnf)
  (focus (refine sh_s ?_; (first | (simp_all [inR]; done) | (simp_all [inR]; omega))))
theorem c79 (n lo hi : Int) : Con Tryz.prog 79 [.int .i64 n, .int .i64 lo, .int .i64 hi] (undefs [.int .i64 n, .int .i64 lo, .int .i64 hi]) (.bool (inR n lo hi)) := by
  refine Con.ev 15 T_ok mix Tryz.func79 rfl rfl rfl rfl [.tmp 6] rfl ?_
  conv => whnf
  (refine br_s ?_ ?_ <;> intro hb <;> (try simp only [cln] at hb) <;> conv=>whnf)
  iterate 2 (apply br_t rfl;conv=>whnf)
  (apply rq_s rfl;conv=>whnf)
  (focus (refine sh_s ?_; (first | (simp_all [inR]; done) | (simp_all [inR]; omega))))
  iterate 3 (apply br_f rfl;conv=>whnf)
  (apply rq_s rfl;conv=>whnf)
  (focus (refine sh_s ?_; (first | (simp_all [inR]; done) | (simp_all [inR]; omega))))
theorem c232 (n : Int) : Con Tryz.prog 232 [.int .i64 n] (undefs [.int .i64 n]) (.bool (inR n 0 3)) := by
  refine Con.ev 5 T_ok mix Tryz.func232 rfl rfl rfl rfl [.tmp 2] rfl ?_
  conv => whnf
  iterate 3 (apply rq_s rfl;conv=>whnf)
  (apply lend_s;conv=>whnf)
  (refine call_s (c57 ..) ?_;conv=>whnf)
  (apply rq_s rfl;conv=>whnf)
  (refine sh_s ?_; (rfl))
theorem c175 (n : Int) : Con Tryz.prog 175 [.int .i64 n] (undefs [.int .i64 n]) (.bool (inR n 2 16)) := by
  refine Con.ev 5 T_ok mix Tryz.func175 rfl rfl rfl rfl [.tmp 2] rfl ?_
  conv => whnf
  iterate 3 (apply rq_s rfl;conv=>whnf)
  (apply lend_s;conv=>whnf)
  (refine call_s (c57 ..) ?_;conv=>whnf)
  (apply rq_s rfl;conv=>whnf)
  (refine sh_s ?_; (rfl))
theorem c161 (n : Int) : Con Tryz.prog 161 [.int .i64 n] (undefs [.int .i64 n]) (.bool (inR n 2 16)) := by
  refine Con.ev 5 T_ok mix Tryz.func161 rfl rfl rfl rfl [.tmp 2] rfl ?_
  conv => whnf
  iterate 3 (apply rq_s rfl;conv=>whnf)
  (apply lend_s;conv=>whnf)
  (refine call_s (c79 ..) ?_;conv=>whnf)
  (apply rq_s rfl;conv=>whnf)
  (refine sh_s ?_; (rfl))
theorem c160 (n : Int) : Con Tryz.prog 160 [.int .i64 n] (undefs [.int .i64 n]) (.bool (cell n)) := by
  refine Con.ev 5 T_ok mix Tryz.func160 rfl rfl rfl rfl [.tmp 2] rfl ?_
  conv => whnf
  iterate 3 (apply rq_s rfl;conv=>whnf)
  (apply lend_s;conv=>whnf)
  (refine call_s (c79 ..) ?_;conv=>whnf)
  (apply rq_s rfl;conv=>whnf)
  (refine sh_s ?_; (rfl))
theorem c230 (n : Int) : Con Tryz.prog 230 [.int .i64 n] (undefs [.int .i64 n]) (.int .i64 (IntKind.i64.wrap (IntKind.i32.wrap n))) := by
  refine Con.ev 6 T_ok mix Tryz.func230 rfl rfl rfl rfl [.tmp 2] rfl ?_
  conv => whnf
  (apply rq_s rfl;conv=>whnf)
  (refine sh_s ?_; (rfl))
theorem c174 (n : Int) : Con Tryz.prog 174 [.int .i64 n] (undefs [.int .i64 n]) (.bool (cell n)) := by
  refine Con.evF 7 T_ok mix Tryz.func174 rfl rfl rfl rfl [.tmp 2] rfl fun ⟨h, _⟩ => ?_
  have h := facts_int h
  conv => whnf
  (apply rq_s rfl;conv=>whnf)
  (apply lend_s;conv=>whnf)
  (refine call_s (c230 ..) ?_;conv=>whnf)
  (refine fac_s (fun hf => ?_);conv=>whnf)
  (apply rq_s rfl;conv=>whnf)
  (refine sh_s ?_; ((rw [← wrap_cell h.1 h.2])))
theorem c162 (d : Deal) : Con Tryz.prog 162 [dealV d] (undefs [dealV d]) (.bool (dealOK d)) := by
  refine Con.ev 21 T_ok mix Tryz.func162 rfl rfl rfl rfl [.tmp 2] rfl ?_
  conv => whnf
  iterate 5 (apply rq_s rfl;conv=>whnf)
  (apply lend_s;conv=>whnf)
  (refine call_s (c79 ..) ?_;conv=>whnf)
  (refine br_s ?_ ?_ <;> intro hb <;> (try simp only [cln] at hb) <;> conv=>whnf)
  (apply rq_s rfl;conv=>whnf)
  iterate 2 (apply br_t rfl;conv=>whnf)
  (apply rq_s rfl;conv=>whnf)
  (apply lend_s;conv=>whnf)
  (refine call_s (c160 ..) ?_;conv=>whnf)
  (refine br_s ?_ ?_ <;> intro hb <;> (try simp only [cln] at hb) <;> conv=>whnf)
  (apply rq_s rfl;conv=>whnf)
  iterate 2 (apply br_t rfl;conv=>whnf)
  (apply rq_s rfl;conv=>whnf)
  (apply lend_s;conv=>whnf)
  (refine call_s (c160 ..) ?_;conv=>whnf)
  (refine br_s ?_ ?_ <;> intro hb <;> (try simp only [cln] at hb) <;> conv=>whnf)
  (apply rq_s rfl;conv=>whnf)
  iterate 2 (apply br_t rfl;conv=>whnf)
  (apply rq_s rfl;conv=>whnf)
  (apply lend_s;conv=>whnf)
  (refine call_s (c160 ..) ?_;conv=>whnf)
  (apply rq_s rfl;conv=>whnf)
  (focus (refine sh_s ?_; (first | (simp_all [dealOK]; done) | (simp_all [dealOK]; rfl))))
  iterate 3 (apply br_f rfl;conv=>whnf)
  (apply rq_s rfl;conv=>whnf)
  (focus (refine sh_s ?_; (first | (simp_all [dealOK]; done) | (simp_all [dealOK]; rfl))))
  iterate 7 (apply br_f rfl;conv=>whnf)
  (apply rq_s rfl;conv=>whnf)
  (focus (refine sh_s ?_; (first | (simp_all [dealOK]; done) | (simp_all [dealOK]; rfl))))
  iterate 11 (apply br_f rfl;conv=>whnf)
  (apply rq_s rfl;conv=>whnf)
  (focus (refine sh_s ?_; (first | (simp_all [dealOK]; done) | (simp_all [dealOK]; rfl))))
theorem c179 (d : Deal) : Con Tryz.prog 179 [dealV d] (undefs [dealV d]) (.bool (dealOK d)) := by
  refine Con.ev 21 T_ok mix Tryz.func179 rfl rfl rfl rfl [.tmp 2] rfl ?_
  conv => whnf
  iterate 3 (apply rq_s rfl;conv=>whnf)
  (apply lend_s;conv=>whnf)
  (refine call_s (c232 ..) ?_;conv=>whnf)
  (refine br_s ?_ ?_ <;> intro hb <;> (try simp only [cln] at hb) <;> conv=>whnf)
  (apply rq_s rfl;conv=>whnf)
  iterate 2 (apply br_t rfl;conv=>whnf)
  (apply rq_s rfl;conv=>whnf)
  (apply lend_s;conv=>whnf)
  (refine call_s (c174 ..) ?_;conv=>whnf)
  (refine br_s ?_ ?_ <;> intro hb <;> (try simp only [cln] at hb) <;> conv=>whnf)
  (apply rq_s rfl;conv=>whnf)
  iterate 2 (apply br_t rfl;conv=>whnf)
  (apply rq_s rfl;conv=>whnf)
  (apply lend_s;conv=>whnf)
  (refine call_s (c174 ..) ?_;conv=>whnf)
  (refine br_s ?_ ?_ <;> intro hb <;> (try simp only [cln] at hb) <;> conv=>whnf)
  (apply rq_s rfl;conv=>whnf)
  iterate 2 (apply br_t rfl;conv=>whnf)
  (apply rq_s rfl;conv=>whnf)
  (apply lend_s;conv=>whnf)
  (refine call_s (c174 ..) ?_;conv=>whnf)
  (apply rq_s rfl;conv=>whnf)
  (focus (refine sh_s ?_; (first | (simp_all [dealOK]; done) | (simp_all [dealOK]; rfl))))
  iterate 3 (apply br_f rfl;conv=>whnf)
  (apply rq_s rfl;conv=>whnf)
  (focus (refine sh_s ?_; (first | (simp_all [dealOK]; done) | (simp_all [dealOK]; rfl))))
  iterate 7 (apply br_f rfl;conv=>whnf)
  (apply rq_s rfl;conv=>whnf)
  (focus (refine sh_s ?_; (first | (simp_all [dealOK]; done) | (simp_all [dealOK]; rfl))))
  iterate 11 (apply br_f rfl;conv=>whnf)
  (apply rq_s rfl;conv=>whnf)
  (focus (refine sh_s ?_; (first | (simp_all [dealOK]; done) | (simp_all [dealOK]; rfl))))
theorem c178 (d : Deal) : Con Tryz.prog 178 [dealV d] (undefs [dealV d]) (.bool (badDeal d)) := by
  refine Con.ev 6 T_ok mix Tryz.func178 rfl rfl rfl rfl [.tmp 2] rfl ?_
  conv => whnf
  iterate 5 (apply rq_s rfl;conv=>whnf)
  (apply lend_s;conv=>whnf)
  (refine call_s (c179 ..) ?_;conv=>whnf)
  (apply rq_s rfl;conv=>whnf)
  (refine sh_s ?_; (rfl))
theorem c173 (n : Int) : Con Tryz.prog 173 [.int .i64 n] (undefs [.int .i64 n]) (.bool (badCell n)) := by
  refine Con.ev 6 T_ok mix Tryz.func173 rfl rfl rfl rfl [.tmp 2] rfl ?_
  conv => whnf
  (apply rq_s rfl;conv=>whnf)
  (apply lend_s;conv=>whnf)
  (refine call_s (c174 ..) ?_;conv=>whnf)
  (apply rq_s rfl;conv=>whnf)
  (refine sh_s ?_; (rfl))

theorem c231 (rs : List (Deal)) : Con Tryz.prog 231 [roD rs, .fn 178 []] (undefs [roD rs, .fn 178 []]) (.int .i64 (findI badDeal rs)) := by
  refine Con.evF 19 T_ok mix Tryz.func231 rfl rfl rfl rfl [.tmp 4] rfl fun ⟨hx, _⟩ => ?_
  have hx := facts_len hx
  conv => whnf
  rotate_left
  refine LoopG.rounds (α := Nat) T_ok mix [0, 1, 7, 8] [] (fun i => [(0, roD rs), (1, .fn 178 []), (7, .int .i64 rs.length), (8, .int .i64 i)]) (fun _ => []) (fun i => i ≤ rs.length ∧ ∀ j, j < i → badDeal (rs.getD j default) = false) (fun i => rs.length - i) ?_ ?_
  · conv => whnf
    exact head_s 0 ⟨by simp, fun j hj => by omega⟩ (by simp [roD]) rfl
  · rintro i ⟨h1, h2⟩ - -
    conv => whnf
    (refine br_s ?_ ?_ <;> intro hb <;> (try simp only [cln] at hb) <;> conv=>whnf)
    (apply rq_s rfl;conv=>whnf)
    (refine rq_s (by refine and_s rfl ?_; simp only [lnm]; omega) ?_;conv=>whnf)
    (refine row_s (by ((try simp only [Int.toNat_natCast]); exact row_map dealR _ _ _ default (by first | omega | (simp; omega)))) ?_;conv=>whnf)
    iterate 4 (apply rq_s rfl;conv=>whnf)
    (apply lend_s;conv=>whnf)
    (refine call_s (c178 ..) ?_;conv=>whnf)
    (refine br_s ?_ ?_ <;> intro hb <;> (try simp only [cln] at hb) <;> conv=>whnf)
    (apply rq_s rfl;conv=>whnf)
    iterate 2 (rotate_left)
    (apply rq_s rfl;conv=>whnf)
    rotate_left
    · refine sh_s ?_
      rw [findI_hit default (by assumption) hb h2]
    · refine head_s (i + 1) ⟨⟨by omega, fun j hj => ?_⟩, by omega⟩ (by rw [wrap64 (by omega) (by omega)]; rfl) rfl
      by_cases hji : j = i
      · subst hji; exact hb
      · exact h2 j (by omega)
    · refine sh_s ?_
      rw [findI_none default fun j hj => h2 j (by omega)]
theorem c177 (rs : List (Deal)) : Con Tryz.prog 177 [roD rs, .fn 178 []] (undefs [roD rs, .fn 178 []]) (.bool (rs.any badDeal)) := by
  refine Con.ev 9 T_ok mix Tryz.func177 rfl rfl rfl rfl [.tmp 4] rfl ?_
  conv => whnf
  iterate 2 (apply rq_s rfl;conv=>whnf)
  (apply lend_s;conv=>whnf)
  (apply rows_s rfl;conv=>whnf)
  (refine call_s (c231 ..) ?_;conv=>whnf)
  (refine fac_s (fun hf => ?_);conv=>whnf)
  (apply rq_s rfl;conv=>whnf)
  (refine sh_s ?_; ((rw [← findI_any])))

theorem c229 (rs : List (Int)) : Con Tryz.prog 229 [roI rs, .fn 173 []] (undefs [roI rs, .fn 173 []]) (.int .i64 (findI badCell rs)) := by
  refine Con.evF 19 T_ok mix Tryz.func229 rfl rfl rfl rfl [.tmp 4] rfl fun ⟨hx, _⟩ => ?_
  have hx := facts_len hx
  conv => whnf
  rotate_left
  refine LoopG.rounds (α := Nat) T_ok mix [0, 1, 7, 8] [] (fun i => [(0, roI rs), (1, .fn 173 []), (7, .int .i64 rs.length), (8, .int .i64 i)]) (fun _ => []) (fun i => i ≤ rs.length ∧ ∀ j, j < i → badCell (rs.getD j default) = false) (fun i => rs.length - i) ?_ ?_
  · conv => whnf
    exact head_s 0 ⟨by simp, fun j hj => by omega⟩ (by simp [roI]) rfl
  · rintro i ⟨h1, h2⟩ - -
    conv => whnf
    (refine br_s ?_ ?_ <;> intro hb <;> (try simp only [cln] at hb) <;> conv=>whnf)
    (apply rq_s rfl;conv=>whnf)
    (refine rq_s (by refine and_s rfl ?_; simp only [lnm]; omega) ?_;conv=>whnf)
    (refine row_s (by ((try simp only [Int.toNat_natCast]); exact row_map intR _ _ _ default (by first | omega | (simp; omega)))) ?_;conv=>whnf)
    (apply rq_s rfl;conv=>whnf)
    (apply lend_s;conv=>whnf)
    (refine call_s (c173 ..) ?_;conv=>whnf)
    (refine br_s ?_ ?_ <;> intro hb <;> (try simp only [cln] at hb) <;> conv=>whnf)
    (apply rq_s rfl;conv=>whnf)
    iterate 2 (rotate_left)
    (apply rq_s rfl;conv=>whnf)
    rotate_left
    · refine sh_s ?_
      rw [findI_hit default (by assumption) hb h2]
    · refine head_s (i + 1) ⟨⟨by omega, fun j hj => ?_⟩, by omega⟩ (by rw [wrap64 (by omega) (by omega)]; rfl) rfl
      by_cases hji : j = i
      · subst hji; exact hb
      · exact h2 j (by omega)
    · refine sh_s ?_
      rw [findI_none default fun j hj => h2 j (by omega)]
theorem c172 (rs : List (Int)) : Con Tryz.prog 172 [roI rs, .fn 173 []] (undefs [roI rs, .fn 173 []]) (.bool (rs.any badCell)) := by
  refine Con.ev 9 T_ok mix Tryz.func172 rfl rfl rfl rfl [.tmp 4] rfl ?_
  conv => whnf
  iterate 2 (apply rq_s rfl;conv=>whnf)
  (apply lend_s;conv=>whnf)
  (apply rows_s rfl;conv=>whnf)
  (refine call_s (c229 ..) ?_;conv=>whnf)
  (refine fac_s (fun hf => ?_);conv=>whnf)
  (apply rq_s rfl;conv=>whnf)
  (refine sh_s ?_; ((rw [← findI_any])))
theorem cellsBad (xs : List Int) : Con Tryz.prog 172 [roI xs, .fn 173 []] (undefs [roI xs, .fn 173 []]) (.bool (!cellsOK xs)) := cells_any xs ▸ c172 xs
theorem dealsBad (xs : List Deal) : Con Tryz.prog 177 [roD xs, .fn 178 []] (undefs [roD xs, .fn 178 []]) (.bool (!dealsOK xs)) := deals_any xs ▸ c177 xs
theorem c111 (xs : List Int) (n : Int) : Con Tryz.prog 111 [roI xs, .int .i64 n] (undefs [roI xs, .int .i64 n]) (.bool (decide ((xs.length : Int) ≤ n) && cellsOK xs)) := by
  refine Con.ev 14 T_ok mix Tryz.func111 rfl rfl rfl rfl [.tmp 4] rfl ?_
  conv => whnf
  (refine br_s ?_ ?_ <;> intro hb <;> (try simp only [cln] at hb) <;> conv=>whnf)
  (apply br_t rfl;conv=>whnf)
  iterate 2 (apply rq_s rfl;conv=>whnf)
  (apply lend_s;conv=>whnf)
  (apply rows_s rfl;conv=>whnf)
  (refine call_s (cellsBad ..) ?_;conv=>whnf)
  (apply br_t rfl;conv=>whnf)
  (apply rq_s rfl;conv=>whnf)
  (focus (refine sh_s ?_; (first | (simp_all; done) | (simp_all; omega))))
  iterate 3 (apply br_f rfl;conv=>whnf)
  (apply rq_s rfl;conv=>whnf)
  (focus (refine sh_s ?_; (first | (simp_all; done) | (simp_all; omega))))
theorem c176 (xs : List Int) : Con Tryz.prog 176 [roI xs] (undefs [roI xs]) (.bool (decide (xs.length = 8) && cellsOK xs)) := by
  refine Con.ev 10 T_ok mix Tryz.func176 rfl rfl rfl rfl [.tmp 2] rfl ?_
  conv => whnf
  (refine br_s ?_ ?_ <;> intro hb <;> (try simp only [cln] at hb) <;> conv=>whnf)
  (apply br_t rfl;conv=>whnf)
  iterate 2 (apply rq_s rfl;conv=>whnf)
  (apply lend_s;conv=>whnf)
  (apply rows_s rfl;conv=>whnf)
  (refine call_s (c111 ..) ?_;conv=>whnf)
  (apply rq_s rfl;conv=>whnf)
  (focus (refine sh_s ?_; (first | (simp_all; done) | (simp_all; omega))))
  iterate 2 (apply br_f rfl;conv=>whnf)
  (apply rq_s rfl;conv=>whnf)
  (focus (refine sh_s ?_; (first | (simp_all; done) | (simp_all; omega))))
theorem c101 (xs : List Int) : Con Tryz.prog 101 [roI xs] (undefs [roI xs]) (.bool (cellsOK xs)) := by
  refine Con.evF 16 T_ok mix Tryz.func101 rfl rfl rfl rfl [.tmp 2] rfl fun ⟨hx, _⟩ => ?_
  have hx := facts_len hx
  conv => whnf
  rotate_left
  refine LoopG.rounds (α := Nat) T_ok mix [0, 3] [] (fun i => [(0, roI xs), (3, .int .i64 i)]) (fun _ => []) (fun i => i ≤ xs.length ∧ ∀ j, j < i → cell (xs.getD j default) = true) (fun i => xs.length - i) ?_ ?_
  · conv => whnf
    exact head_s 0 ⟨by simp, fun j hj => by omega⟩ (by first | rfl | simp [roI]) rfl
  · rintro i ⟨h1, h2⟩ - -
    conv => whnf
    (refine br_s ?_ ?_ <;> intro hb <;> (try simp only [cln] at hb) <;> conv=>whnf)
    (apply rq_s rfl;conv=>whnf)
    (refine rq_s (by refine and_s rfl ?_; simp only [lnm]; omega) ?_;conv=>whnf)
    (refine row_s (by ((try simp only [Int.toNat_natCast]); exact row_map intR _ _ _ default (by first | omega | (simp; omega)))) ?_;conv=>whnf)
    (apply rq_s rfl;conv=>whnf)
    (apply lend_s;conv=>whnf)
    (refine call_s (c160 ..) ?_;conv=>whnf)
    (refine br_s ?_ ?_ <;> intro hb <;> (try simp only [cln] at hb) <;> conv=>whnf)
    (apply rq_s rfl;conv=>whnf)
    iterate 2 (rotate_left)
    (apply rq_s rfl;conv=>whnf)
    rotate_left
    · exact sh_s (by rw [cellsOK, all_bad (by assumption) hb])
    · refine head_s (i + 1) ⟨⟨by omega, fun j hj => ?_⟩, by omega⟩ (by rw [wrap64 (by omega) (by omega)]; rfl) rfl
      by_cases hji : j = i
      · subst hji; exact hb
      · exact h2 j (by omega)
    · exact sh_s (by rw [cellsOK, all_good fun j hj => h2 j (by omega)])
theorem c113 (h : Hst) : Con Tryz.prog 113 [hstV h] (undefs [hstV h]) (.bool (hostOK h)) := by
  have e : ((h.q.length : Int) ≤ 20) = (h.q.length ≤ 20) := propext ⟨fun _ => by omega, fun _ => by omega⟩
  refine Con.ev 34 T_ok mix Tryz.func113 rfl rfl rfl rfl [.tmp 2] rfl ?_
  conv => whnf
  iterate 2 (apply rq_s rfl;conv=>whnf)
  (refine br_s ?_ ?_ <;> intro hb <;> (try simp only [cln] at hb) <;> conv=>whnf)
  (apply rq_s rfl;conv=>whnf)
  iterate 2 (apply br_t rfl;conv=>whnf)
  (apply rq_s rfl;conv=>whnf)
  (apply lend_s;conv=>whnf)
  (apply rows_s rfl;conv=>whnf)
  (refine call_s (c176 ..) ?_;conv=>whnf)
  (refine br_s ?_ ?_ <;> intro hb <;> (try simp only [cln] at hb) <;> conv=>whnf)
  (apply rq_s rfl;conv=>whnf)
  iterate 2 (apply br_t rfl;conv=>whnf)
  iterate 2 (apply rq_s rfl;conv=>whnf)
  (apply lend_s;conv=>whnf)
  (apply rows_s rfl;conv=>whnf)
  (refine call_s (c111 ..) ?_;conv=>whnf)
  (refine br_s ?_ ?_ <;> intro hb <;> (try simp only [cln] at hb) <;> conv=>whnf)
  (apply rq_s rfl;conv=>whnf)
  iterate 2 (apply br_t rfl;conv=>whnf)
  iterate 3 (apply rq_s rfl;conv=>whnf)
  (apply lend_s;conv=>whnf)
  (refine call_s (c57 ..) ?_;conv=>whnf)
  (refine br_s ?_ ?_ <;> intro hb <;> (try simp only [cln] at hb) <;> conv=>whnf)
  (apply rq_s rfl;conv=>whnf)
  iterate 3 (apply br_t rfl;conv=>whnf)
  (refine br_s ?_ ?_ <;> intro hb <;> (try simp only [cln] at hb) <;> conv=>whnf)
  (apply rq_s rfl;conv=>whnf)
  iterate 2 (apply br_t rfl;conv=>whnf)
  iterate 2 (apply rq_s rfl;conv=>whnf)
  (apply lend_s;conv=>whnf)
  (apply rows_s rfl;conv=>whnf)
  (refine call_s (dealsBad ..) ?_;conv=>whnf)
  (apply br_t rfl;conv=>whnf)
  (apply rq_s rfl;conv=>whnf)
  (focus (refine sh_s ?_; (first | (simp_all [hostOK]; done) | (simp_all [hostOK]; omega) | (congr 1; rw [Bool.eq_iff_iff]; simp_all [hostOK]; done) | (congr 1; rw [Bool.eq_iff_iff]; simp_all [hostOK]; omega))))
  iterate 4 (apply br_f rfl;conv=>whnf)
  (apply rq_s rfl;conv=>whnf)
  (focus (refine sh_s ?_; (first | (simp_all [hostOK]; done) | (simp_all [hostOK]; omega) | (congr 1; rw [Bool.eq_iff_iff]; simp_all [hostOK]; done) | (congr 1; rw [Bool.eq_iff_iff]; simp_all [hostOK]; omega))))
  iterate 9 (apply br_f rfl;conv=>whnf)
  (apply rq_s rfl;conv=>whnf)
  (focus (refine sh_s ?_; (first | (simp_all [hostOK]; done) | (simp_all [hostOK]; omega) | (congr 1; rw [Bool.eq_iff_iff]; simp_all [hostOK]; done) | (congr 1; rw [Bool.eq_iff_iff]; simp_all [hostOK]; omega))))
  iterate 13 (apply br_f rfl;conv=>whnf)
  (apply rq_s rfl;conv=>whnf)
  (focus (refine sh_s ?_; (first | (simp_all [hostOK]; done) | (simp_all [hostOK]; omega) | (congr 1; rw [Bool.eq_iff_iff]; simp_all [hostOK]; done) | (congr 1; rw [Bool.eq_iff_iff]; simp_all [hostOK]; omega))))
  iterate 17 (apply br_f rfl;conv=>whnf)
  (apply rq_s rfl;conv=>whnf)
  (focus (refine sh_s ?_; (first | (simp_all [hostOK]; done) | (simp_all [hostOK]; omega) | (congr 1; rw [Bool.eq_iff_iff]; simp_all [hostOK]; done) | (congr 1; rw [Bool.eq_iff_iff]; simp_all [hostOK]; omega))))
  iterate 21 (apply br_f rfl;conv=>whnf)
  (apply rq_s rfl;conv=>whnf)
  (focus (refine sh_s ?_; (first | (simp_all [hostOK]; done) | (simp_all [hostOK]; omega) | (congr 1; rw [Bool.eq_iff_iff]; simp_all [hostOK]; done) | (congr 1; rw [Bool.eq_iff_iff]; simp_all [hostOK]; omega))))

theorem c103 (h : Hst) : Con Tryz.prog 103 [hstV h] (undefs [hstV h]) (.bool (hostOK h)) := by
  refine Con.evF 58 T_ok mix Tryz.func103 rfl rfl rfl rfl [.tmp 2] rfl fun ⟨hx, _⟩ => ?_
  have hx := facts_len (fun d => hx (d + 1) (roD h.ds) (by simp [hstR]))
  conv => whnf
  iterate 2 (apply rq_s rfl;conv=>whnf)
  (refine br_s ?_ ?_ <;> intro hb <;> (try simp only [cln] at hb) <;> conv=>whnf)
  iterate 30 (apply br_t rfl;conv=>whnf)
  (apply rq_s rfl;conv=>whnf)
  (focus (refine sh_s ?_; (first | (simp_all [hostOK]; done) | (simp_all [hostOK]; omega))))
  (apply rq_s rfl;conv=>whnf)
  iterate 3 (apply br_f rfl;conv=>whnf)
  (refine br_s ?_ ?_ <;> intro hb <;> (try simp only [cln] at hb) <;> conv=>whnf)
  iterate 25 (apply br_t rfl;conv=>whnf)
  (apply rq_s rfl;conv=>whnf)
  (focus (refine sh_s ?_; (first | (simp_all [hostOK]; done) | (simp_all [hostOK]; omega))))
  (apply rq_s rfl;conv=>whnf)
  iterate 3 (apply br_f rfl;conv=>whnf)
  (refine br_s ?_ ?_ <;> intro hb <;> (try simp only [cln] at hb) <;> conv=>whnf)
  iterate 20 (apply br_t rfl;conv=>whnf)
  (apply rq_s rfl;conv=>whnf)
  (focus (refine sh_s ?_; (first | (simp_all [hostOK]; done) | (simp_all [hostOK]; omega))))
  (apply rq_s rfl;conv=>whnf)
  iterate 3 (apply br_f rfl;conv=>whnf)
  (refine br_s ?_ ?_ <;> intro hb <;> (try simp only [cln] at hb) <;> conv=>whnf)
  iterate 15 (apply br_t rfl;conv=>whnf)
  (apply rq_s rfl;conv=>whnf)
  (focus (refine sh_s ?_; (first | (simp_all [hostOK]; done) | (simp_all [hostOK]; omega))))
  (apply rq_s rfl;conv=>whnf)
  iterate 2 (apply br_f rfl;conv=>whnf)
  (apply rq_s rfl;conv=>whnf)
  (apply lend_s;conv=>whnf)
  (apply rows_s rfl;conv=>whnf)
  (refine call_s (c101 ..) ?_;conv=>whnf)
  (apply br_f rfl;conv=>whnf)
  (refine br_s ?_ ?_ <;> intro hb <;> (try simp only [cln] at hb) <;> conv=>whnf)
  iterate 10 (apply br_t rfl;conv=>whnf)
  (apply rq_s rfl;conv=>whnf)
  (focus (refine sh_s ?_; (first | (simp_all [hostOK]; done) | (simp_all [hostOK]; omega))))
  (apply rq_s rfl;conv=>whnf)
  iterate 2 (apply br_f rfl;conv=>whnf)
  (apply rq_s rfl;conv=>whnf)
  (apply lend_s;conv=>whnf)
  (apply rows_s rfl;conv=>whnf)
  (refine call_s (c101 ..) ?_;conv=>whnf)
  (apply br_f rfl;conv=>whnf)
  (refine br_s ?_ ?_ <;> intro hb <;> (try simp only [cln] at hb) <;> conv=>whnf)
  iterate 5 (apply br_t rfl;conv=>whnf)
  (apply rq_s rfl;conv=>whnf)
  (focus (refine sh_s ?_; (first | (simp_all [hostOK]; done) | (simp_all [hostOK]; omega))))
  (apply rq_s rfl;conv=>whnf)
  iterate 2 (apply br_f rfl;conv=>whnf)
  iterate 3 (apply rq_s rfl;conv=>whnf)
  (apply lend_s;conv=>whnf)
  (refine call_s (c79 ..) ?_;conv=>whnf)
  (apply br_f rfl;conv=>whnf)
  (refine br_s ?_ ?_ <;> intro hb <;> (try simp only [cln] at hb) <;> conv=>whnf)
  (apply rq_s rfl;conv=>whnf)
  (focus (refine sh_s ?_; (first | (simp_all [hostOK]; done) | (simp_all [hostOK]; omega))))
  rotate_left
  have g1 : h.gr.length = 4 := by omega
  have g2 : h.st.length = 8 := by omega
  have g3 : h.q.length ≤ 20 := by omega
  have g4 : h.ds.length ≤ 40 := by omega
  have g5 : cellsOK h.st = true := by assumption
  have g6 : cellsOK h.q = true := by assumption
  have g7 : inR h.tk 0 2147483647 = true := hb
  have fin : hostOK h = dealsOK h.ds := by simp [hostOK, g1, g2, g3, g4, g5, g6, g7]
  rw [fin]
  refine LoopG.rounds (α := Nat) T_ok mix [3, 1] [(1, 1)] (fun i => [(3, .int .i64 i), (1, .ptr 1 0 0)]) (fun _ => [(1, .live ⟨false, 0, [roB h.gr, roI h.st, roI h.q, .int .i64 h.tk, roD h.ds], [[roB h.gr, roI h.st, roI h.q, .int .i64 h.tk, roD h.ds]]⟩)]) (fun i => i ≤ h.ds.length ∧ ∀ j, j < i → dealOK (h.ds.getD j default) = true) (fun i => h.ds.length - i) ?_ ?_
  · conv => whnf
    exact head_s 0 ⟨by simp, fun j hj => by omega⟩ rfl rfl
  · rintro i ⟨h1, h2⟩ - -
    conv => whnf
    (apply rq_s rfl;conv=>whnf)
    (refine br_s ?_ ?_ <;> intro hb <;> (try simp only [cln] at hb) <;> conv=>whnf)
    iterate 2 (apply rq_s rfl;conv=>whnf)
    (refine rq_s (by refine and_s rfl ?_; simp only [lnm]; omega) ?_;conv=>whnf)
    (refine row_s (by ((try simp only [Int.toNat_natCast]); exact row_map dealR _ _ _ default (by first | omega | (simp; omega)))) ?_;conv=>whnf)
    iterate 4 (apply rq_s rfl;conv=>whnf)
    (apply lend_s;conv=>whnf)
    (refine call_s (c162 ..) ?_;conv=>whnf)
    (refine br_s ?_ ?_ <;> intro hb <;> (try simp only [cln] at hb) <;> conv=>whnf)
    (apply rq_s rfl;conv=>whnf)
    iterate 2 (rotate_left)
    (apply rq_s rfl;conv=>whnf)
    rotate_left
    · exact sh_s (by rw [dealsOK, all_bad (by assumption) hb])
    · refine head_s (i + 1) ⟨⟨by omega, fun j hj => ?_⟩, by omega⟩ (by rw [wrap64 (by omega) (by omega)]; rfl) rfl
      by_cases hji : j = i
      · subst hji; exact hb
      · exact h2 j (by omega)
    · exact sh_s (by rw [dealsOK, all_good fun j hj => h2 j (by omega)])
theorem c102 (d : Dat) : Con Tryz.prog 102 [datV d] (undefs [datV d]) (.bool (dataOK d)) := by
  refine Con.ev 50 T_ok mix Tryz.func102 rfl rfl rfl rfl [.tmp 2] rfl ?_
  conv => whnf
  iterate 2 (apply rq_s rfl;conv=>whnf)
  (refine br_s ?_ ?_ <;> intro hb <;> (try simp only [cln] at hb) <;> conv=>whnf)
  (apply rq_s rfl;conv=>whnf)
  iterate 3 (apply br_t rfl;conv=>whnf)
  (refine br_s ?_ ?_ <;> intro hb <;> (try simp only [cln] at hb) <;> conv=>whnf)
  (apply rq_s rfl;conv=>whnf)
  iterate 3 (apply br_t rfl;conv=>whnf)
  (refine br_s ?_ ?_ <;> intro hb <;> (try simp only [cln] at hb) <;> conv=>whnf)
  (apply rq_s rfl;conv=>whnf)
  iterate 2 (apply br_t rfl;conv=>whnf)
  (apply rq_s rfl;conv=>whnf)
  (apply lend_s;conv=>whnf)
  (apply rows_s rfl;conv=>whnf)
  (refine call_s (c101 ..) ?_;conv=>whnf)
  (refine br_s ?_ ?_ <;> intro hb <;> (try simp only [cln] at hb) <;> conv=>whnf)
  (apply rq_s rfl;conv=>whnf)
  iterate 2 (apply br_t rfl;conv=>whnf)
  (apply rq_s rfl;conv=>whnf)
  (apply lend_s;conv=>whnf)
  (apply rows_s rfl;conv=>whnf)
  (refine call_s (c101 ..) ?_;conv=>whnf)
  (refine br_s ?_ ?_ <;> intro hb <;> (try simp only [cln] at hb) <;> conv=>whnf)
  (apply rq_s rfl;conv=>whnf)
  iterate 2 (apply br_t rfl;conv=>whnf)
  (apply rq_s rfl;conv=>whnf)
  (apply lend_s;conv=>whnf)
  (apply rows_s rfl;conv=>whnf)
  (refine call_s (c101 ..) ?_;conv=>whnf)
  (refine br_s ?_ ?_ <;> intro hb <;> (try simp only [cln] at hb) <;> conv=>whnf)
  (apply rq_s rfl;conv=>whnf)
  iterate 2 (apply br_t rfl;conv=>whnf)
  iterate 3 (apply rq_s rfl;conv=>whnf)
  (apply lend_s;conv=>whnf)
  (refine call_s (c79 ..) ?_;conv=>whnf)
  (refine br_s ?_ ?_ <;> intro hb <;> (try simp only [cln] at hb) <;> conv=>whnf)
  (apply rq_s rfl;conv=>whnf)
  iterate 2 (apply br_t rfl;conv=>whnf)
  (apply rq_s rfl;conv=>whnf)
  (apply lend_s;conv=>whnf)
  (refine call_s (c161 ..) ?_;conv=>whnf)
  (refine br_s ?_ ?_ <;> intro hb <;> (try simp only [cln] at hb) <;> conv=>whnf)
  (apply rq_s rfl;conv=>whnf)
  iterate 3 (apply br_t rfl;conv=>whnf)
  (apply rq_s rfl;conv=>whnf)
  (focus (refine sh_s ?_; (first | (simp_all [dataOK]; done) | (simp_all [dataOK]; omega) | (congr 1; rw [Bool.eq_iff_iff]; simp_all [dataOK]; done) | (congr 1; rw [Bool.eq_iff_iff]; simp_all [dataOK]; omega))))
  iterate 4 (apply br_f rfl;conv=>whnf)
  (apply rq_s rfl;conv=>whnf)
  (focus (refine sh_s ?_; (first | (simp_all [dataOK]; done) | (simp_all [dataOK]; omega) | (congr 1; rw [Bool.eq_iff_iff]; simp_all [dataOK]; done) | (congr 1; rw [Bool.eq_iff_iff]; simp_all [dataOK]; omega))))
  iterate 8 (apply br_f rfl;conv=>whnf)
  (apply rq_s rfl;conv=>whnf)
  (focus (refine sh_s ?_; (first | (simp_all [dataOK]; done) | (simp_all [dataOK]; omega) | (congr 1; rw [Bool.eq_iff_iff]; simp_all [dataOK]; done) | (congr 1; rw [Bool.eq_iff_iff]; simp_all [dataOK]; omega))))
  iterate 12 (apply br_f rfl;conv=>whnf)
  (apply rq_s rfl;conv=>whnf)
  (focus (refine sh_s ?_; (first | (simp_all [dataOK]; done) | (simp_all [dataOK]; omega) | (congr 1; rw [Bool.eq_iff_iff]; simp_all [dataOK]; done) | (congr 1; rw [Bool.eq_iff_iff]; simp_all [dataOK]; omega))))
  iterate 16 (apply br_f rfl;conv=>whnf)
  (apply rq_s rfl;conv=>whnf)
  (focus (refine sh_s ?_; (first | (simp_all [dataOK]; done) | (simp_all [dataOK]; omega) | (congr 1; rw [Bool.eq_iff_iff]; simp_all [dataOK]; done) | (congr 1; rw [Bool.eq_iff_iff]; simp_all [dataOK]; omega))))
  iterate 20 (apply br_f rfl;conv=>whnf)
  (apply rq_s rfl;conv=>whnf)
  (focus (refine sh_s ?_; (first | (simp_all [dataOK]; done) | (simp_all [dataOK]; omega) | (congr 1; rw [Bool.eq_iff_iff]; simp_all [dataOK]; done) | (congr 1; rw [Bool.eq_iff_iff]; simp_all [dataOK]; omega))))
  iterate 24 (apply br_f rfl;conv=>whnf)
  (apply rq_s rfl;conv=>whnf)
  (focus (refine sh_s ?_; (first | (simp_all [dataOK]; done) | (simp_all [dataOK]; omega) | (congr 1; rw [Bool.eq_iff_iff]; simp_all [dataOK]; done) | (congr 1; rw [Bool.eq_iff_iff]; simp_all [dataOK]; omega))))
  iterate 29 (apply br_f rfl;conv=>whnf)
  (apply rq_s rfl;conv=>whnf)
  (focus (refine sh_s ?_; (first | (simp_all [dataOK]; done) | (simp_all [dataOK]; omega) | (congr 1; rw [Bool.eq_iff_iff]; simp_all [dataOK]; done) | (congr 1; rw [Bool.eq_iff_iff]; simp_all [dataOK]; omega))))
  iterate 34 (apply br_f rfl;conv=>whnf)
  (apply rq_s rfl;conv=>whnf)
  (focus (refine sh_s ?_; (first | (simp_all [dataOK]; done) | (simp_all [dataOK]; omega) | (congr 1; rw [Bool.eq_iff_iff]; simp_all [dataOK]; done) | (congr 1; rw [Bool.eq_iff_iff]; simp_all [dataOK]; omega))))
theorem c112 (d : Dat) : Con Tryz.prog 112 [datV d] (undefs [datV d]) (.bool (dataOK d)) := by
  have e1 : ((d.st.length : Int) ≤ 32) = (d.st.length ≤ 32) := propext ⟨fun _ => by omega, fun _ => by omega⟩
  have e2 : ((d.bk.length : Int) ≤ 32) = (d.bk.length ≤ 32) := propext ⟨fun _ => by omega, fun _ => by omega⟩
  have e3 : ((d.ce.length : Int) ≤ 32) = (d.ce.length ≤ 32) := propext ⟨fun _ => by omega, fun _ => by omega⟩
  refine Con.ev 38 T_ok mix Tryz.func112 rfl rfl rfl rfl [.tmp 2] rfl ?_
  conv => whnf
  iterate 4 (apply rq_s rfl;conv=>whnf)
  (apply lend_s;conv=>whnf)
  (apply rows_s rfl;conv=>whnf)
  (refine call_s (c111 ..) ?_;conv=>whnf)
  (refine br_s ?_ ?_ <;> intro hb <;> (try simp only [cln] at hb) <;> conv=>whnf)
  (apply rq_s rfl;conv=>whnf)
  iterate 2 (apply br_t rfl;conv=>whnf)
  iterate 2 (apply rq_s rfl;conv=>whnf)
  (apply lend_s;conv=>whnf)
  (apply rows_s rfl;conv=>whnf)
  (refine call_s (c111 ..) ?_;conv=>whnf)
  (refine br_s ?_ ?_ <;> intro hb <;> (try simp only [cln] at hb) <;> conv=>whnf)
  (apply rq_s rfl;conv=>whnf)
  iterate 2 (apply br_t rfl;conv=>whnf)
  iterate 2 (apply rq_s rfl;conv=>whnf)
  (apply lend_s;conv=>whnf)
  (apply rows_s rfl;conv=>whnf)
  (refine call_s (c111 ..) ?_;conv=>whnf)
  (refine br_s ?_ ?_ <;> intro hb <;> (try simp only [cln] at hb) <;> conv=>whnf)
  (apply rq_s rfl;conv=>whnf)
  iterate 3 (apply br_t rfl;conv=>whnf)
  (refine br_s ?_ ?_ <;> intro hb <;> (try simp only [cln] at hb) <;> conv=>whnf)
  (apply rq_s rfl;conv=>whnf)
  iterate 2 (apply br_t rfl;conv=>whnf)
  iterate 3 (apply rq_s rfl;conv=>whnf)
  (apply lend_s;conv=>whnf)
  (refine call_s (c57 ..) ?_;conv=>whnf)
  (refine br_s ?_ ?_ <;> intro hb <;> (try simp only [cln] at hb) <;> conv=>whnf)
  (apply rq_s rfl;conv=>whnf)
  iterate 2 (apply br_t rfl;conv=>whnf)
  (apply rq_s rfl;conv=>whnf)
  (apply lend_s;conv=>whnf)
  (refine call_s (c175 ..) ?_;conv=>whnf)
  (refine br_s ?_ ?_ <;> intro hb <;> (try simp only [cln] at hb) <;> conv=>whnf)
  (apply rq_s rfl;conv=>whnf)
  iterate 3 (apply br_t rfl;conv=>whnf)
  (apply rq_s rfl;conv=>whnf)
  (focus (refine sh_s ?_; (first | (simp_all [dataOK]; done) | (simp_all [dataOK]; omega) | (congr 1; rw [Bool.eq_iff_iff]; simp_all [dataOK]; done) | (congr 1; rw [Bool.eq_iff_iff]; simp_all [dataOK]; omega))))
  iterate 4 (apply br_f rfl;conv=>whnf)
  (apply rq_s rfl;conv=>whnf)
  (focus (refine sh_s ?_; (first | (simp_all [dataOK]; done) | (simp_all [dataOK]; omega) | (congr 1; rw [Bool.eq_iff_iff]; simp_all [dataOK]; done) | (congr 1; rw [Bool.eq_iff_iff]; simp_all [dataOK]; omega))))
  iterate 8 (apply br_f rfl;conv=>whnf)
  (apply rq_s rfl;conv=>whnf)
  (focus (refine sh_s ?_; (first | (simp_all [dataOK]; done) | (simp_all [dataOK]; omega) | (congr 1; rw [Bool.eq_iff_iff]; simp_all [dataOK]; done) | (congr 1; rw [Bool.eq_iff_iff]; simp_all [dataOK]; omega))))
  iterate 12 (apply br_f rfl;conv=>whnf)
  (apply rq_s rfl;conv=>whnf)
  (focus (refine sh_s ?_; (first | (simp_all [dataOK]; done) | (simp_all [dataOK]; omega) | (congr 1; rw [Bool.eq_iff_iff]; simp_all [dataOK]; done) | (congr 1; rw [Bool.eq_iff_iff]; simp_all [dataOK]; omega))))
  iterate 17 (apply br_f rfl;conv=>whnf)
  (apply rq_s rfl;conv=>whnf)
  (focus (refine sh_s ?_; (first | (simp_all [dataOK]; done) | (simp_all [dataOK]; omega) | (congr 1; rw [Bool.eq_iff_iff]; simp_all [dataOK]; done) | (congr 1; rw [Bool.eq_iff_iff]; simp_all [dataOK]; omega))))
  iterate 21 (apply br_f rfl;conv=>whnf)
  (apply rq_s rfl;conv=>whnf)
  (focus (refine sh_s ?_; (first | (simp_all [dataOK]; done) | (simp_all [dataOK]; omega) | (congr 1; rw [Bool.eq_iff_iff]; simp_all [dataOK]; done) | (congr 1; rw [Bool.eq_iff_iff]; simp_all [dataOK]; omega))))
  iterate 25 (apply br_f rfl;conv=>whnf)
  (apply rq_s rfl;conv=>whnf)
  (focus (refine sh_s ?_; (first | (simp_all [dataOK]; done) | (simp_all [dataOK]; omega) | (congr 1; rw [Bool.eq_iff_iff]; simp_all [dataOK]; done) | (congr 1; rw [Bool.eq_iff_iff]; simp_all [dataOK]; omega))))
theorem own_sh {α : Type} {z : List AV} {f : α → List AV} {xs : List α} (h : xs.length = 0) : Sh .emp (.own 0 z (xs.map f)) := by
  have : xs = [] := List.length_eq_zero_iff.1 h
  subst this
  exact Sh.emp_own 0 z
theorem c193 (xs : List Int) (h : xs.length ≤ 1048576) : Con Tryz.prog 193 [roI xs] (undefs [roI xs]) (ownI xs) := by
  refine Con.ev 8 T_ok mix Tryz.func193 rfl rfl rfl rfl [.tmp 2] rfl ?_
  conv => whnf
  (refine nil_s (fun hz => ?_) ?_ <;> conv=>whnf)
  (apply br_t rfl;conv=>whnf)
  (apply rq_s rfl;conv=>whnf)
  rotate_left
  (apply br_f rfl;conv=>whnf)
  iterate 3 (apply rq_s rfl;conv=>whnf)
  (apply rq_s (by (((simp [maxBytes, AV.plain]; omega))));conv=>whnf)
  (refine app0_s ?_;conv=>whnf)
  (apply rq_s (by simp only [lnm, mkS_len]; done);conv=>whnf)
  (apply rq_s rfl;conv=>whnf)
  (refine rows_s (by ((refine sub_all ?_; simp [List.length_map, mkS_len]; done))) ?_;conv=>whnf)
  rotate_left
  · exact ⟨own_sh (by simpa using hz)⟩
  · exact ⟨Sh.flat_map (fun _ => rfl) _⟩
end H1

/- strings.Split at one byte, strings.Fields on ASCII bytes: contracts, from the kit's shelf. -/
set_option linter.unusedVariables false
set_option linter.unusedSimpArgs false
set_option maxRecDepth 100000
open Go Go.Abs Go.Proofs V1
def K1.lays221_ren : Go.Shelf.Ren := ⟨fun | 221 => 261 | 268 => 268 | 138 => 269 | 143 => 270 | 195 => 274 | 197 => 275 | 218 => 276 | 219 => 277 | 260 => 280 | 217 => 281 | 225 => 282 | 224 => 283 | 267 => 284 | 266 => 285 | 314 => 286 | n => n, fun | 9 => 9 | 3 => 3 | 31 => 69 | 4 => 4 | 0 => 0 | 105 => 266 | 21 => 21 | 5 => 5 | 46 => 178 | 119 => 253 | 139 => 286 | 138 => 285 | 146 => 287 | 51 => 211 | n => n, fun | 1 => 5 | 3 => 6 | 4 => 7 | n => n⟩
theorem K1.lays221 : Go.Proofs.LaysM.n221 Tryz.prog K1.lays221_ren where
  mixed := by kernel_rfl
  f138 := Tryz.func269.trans (congrArg some (by kernel_rfl))
  f143 := Tryz.func270.trans (congrArg some (by kernel_rfl))
  f195 := Tryz.func274.trans (congrArg some (by kernel_rfl))
  f197 := Tryz.func275.trans (congrArg some (by kernel_rfl))
  f217 := Tryz.func281.trans (congrArg some (by kernel_rfl))
  f218 := Tryz.func276.trans (congrArg some (by kernel_rfl))
  f219 := Tryz.func277.trans (congrArg some (by kernel_rfl))
  f221 := Tryz.func261.trans (congrArg some (by kernel_rfl))
  f224 := Tryz.func283.trans (congrArg some (by kernel_rfl))
  f225 := Tryz.func282.trans (congrArg some (by kernel_rfl))
  f260 := Tryz.func280.trans (congrArg some (by kernel_rfl))
  f266 := Tryz.func285.trans (congrArg some (by kernel_rfl))
  f267 := Tryz.func284.trans (congrArg some (by kernel_rfl))
  f268 := Tryz.func268.trans (congrArg some (by kernel_rfl))
  f314 := Tryz.func286.trans (congrArg some (by kernel_rfl))
  t0 := Tryz.underlying0
  a0 := Tryz.isAgg0
  z0 := Tryz.sizeOf0
  v0 := Tryz.zeroValue0
  t3 := Tryz.underlying3
  a3 := Tryz.isAgg3
  z3 := Tryz.sizeOf3
  v3 := Tryz.zeroValue3
  t4 := Tryz.underlying4
  a4 := Tryz.isAgg4
  z4 := Tryz.sizeOf4
  v4 := Tryz.zeroValue4
  t5 := Tryz.underlying5
  a5 := Tryz.isAgg5
  z5 := Tryz.sizeOf5
  v5 := Tryz.zeroValue5
  t9 := Tryz.underlying9
  a9 := Tryz.isAgg9
  z9 := Tryz.sizeOf9
  v9 := Tryz.zeroValue9
  t21 := Tryz.underlying21
  a21 := Tryz.isAgg21
  z21 := Tryz.sizeOf21
  v21 := Tryz.zeroValue21
  t31 := Tryz.underlying69
  a31 := Tryz.isAgg69
  z31 := Tryz.sizeOf69
  v31 := Tryz.zeroValue69
  t46 := Tryz.underlying178
  a46 := Tryz.isAgg178
  z46 := Tryz.sizeOf178
  v46 := Tryz.zeroValue178
  t51 := Tryz.underlying211
  a51 := Tryz.isAgg211
  z51 := Tryz.sizeOf211
  v51 := Tryz.zeroValue211
  t105 := Tryz.underlying266
  a105 := Tryz.isAgg266
  z105 := Tryz.sizeOf266
  v105 := Tryz.zeroValue266
  t119 := Tryz.underlying253
  a119 := Tryz.isAgg253
  z119 := Tryz.sizeOf253
  t138 := Tryz.underlying285
  a138 := Tryz.isAgg285
  z138 := Tryz.sizeOf285
  v138 := Tryz.zeroValue285
  t139 := Tryz.underlying286
  a139 := Tryz.isAgg286
  z139 := Tryz.sizeOf286
  v139 := Tryz.zeroValue286
  t146 := Tryz.underlying287
  a146 := Tryz.isAgg287
  z146 := Tryz.sizeOf287
  v146 := Tryz.zeroValue287
  g1 := by kernel_rfl
  g3 := by kernel_rfl
  g4 := by kernel_rfl
  i0 := by kernel_rfl
  i3 := by kernel_rfl
  i4 := by kernel_rfl
  i5 := by kernel_rfl
  i9 := by kernel_rfl
  i21 := by kernel_rfl
  i31 := by kernel_rfl
  i46 := by kernel_rfl
  i51 := by kernel_rfl
  i105 := by kernel_rfl
  i138 := by kernel_rfl
  i139 := by kernel_rfl
  i146 := by kernel_rfl
  m1 := by kernel_rfl
  s1_3 := fun w h => Go.Proofs.cell_of_shapedOpen_int (zero := #[.int .i64 0]) (t := 3) h (of_decide_eq_true (by kernel_rfl)) (by kernel_rfl) rfl (by kernel_rfl) (by kernel_rfl) Tryz.underlying3
  m3 := by kernel_rfl
  m4 := by kernel_rfl

def K1.lays157_ren : Go.Shelf.Ren := ⟨fun | 157 => 254 | 229 => 262 | 199 => 263 | 261 => 271 | 311 => 278 | 312 => 279 | n => n, fun | 9 => 9 | 31 => 69 | 3 => 3 | 5 => 5 | 4 => 4 | 119 => 253 | 0 => 0 | 40 => 255 | 152 => 261 | 21 => 21 | 154 => 263 | 51 => 211 | 141 => 265 | 196 => 272 | 193 => 269 | 198 => 275 | 49 => 273 | 194 => 270 | 201 => 278 | 226 => 282 | 46 => 178 | 227 => 283 | n => n, fun | 0 => 0 | 6 => 2 | n => n⟩
theorem K1.lays157 : Go.Proofs.LaysM.n157 Tryz.prog K1.lays157_ren where
  mixed := by kernel_rfl
  f157 := Tryz.func254.trans (congrArg some (by kernel_rfl))
  f199 := Tryz.func263.trans (congrArg some (by kernel_rfl))
  f229 := Tryz.func262.trans (congrArg some (by kernel_rfl))
  f261 := Tryz.func271.trans (congrArg some (by kernel_rfl))
  f311 := Tryz.func278.trans (congrArg some (by kernel_rfl))
  f312 := Tryz.func279.trans (congrArg some (by kernel_rfl))
  t0 := Tryz.underlying0
  a0 := Tryz.isAgg0
  z0 := Tryz.sizeOf0
  v0 := Tryz.zeroValue0
  t3 := Tryz.underlying3
  a3 := Tryz.isAgg3
  z3 := Tryz.sizeOf3
  v3 := Tryz.zeroValue3
  t4 := Tryz.underlying4
  a4 := Tryz.isAgg4
  z4 := Tryz.sizeOf4
  v4 := Tryz.zeroValue4
  t5 := Tryz.underlying5
  a5 := Tryz.isAgg5
  z5 := Tryz.sizeOf5
  v5 := Tryz.zeroValue5
  t9 := Tryz.underlying9
  a9 := Tryz.isAgg9
  z9 := Tryz.sizeOf9
  v9 := Tryz.zeroValue9
  t21 := Tryz.underlying21
  a21 := Tryz.isAgg21
  z21 := Tryz.sizeOf21
  v21 := Tryz.zeroValue21
  t31 := Tryz.underlying69
  a31 := Tryz.isAgg69
  z31 := Tryz.sizeOf69
  v31 := Tryz.zeroValue69
  t40 := Tryz.underlying255
  a40 := Tryz.isAgg255
  z40 := Tryz.sizeOf255
  v40 := Tryz.zeroValue255
  t46 := Tryz.underlying178
  a46 := Tryz.isAgg178
  z46 := Tryz.sizeOf178
  v46 := Tryz.zeroValue178
  t49 := Tryz.underlying273
  a49 := Tryz.isAgg273
  z49 := Tryz.sizeOf273
  v49 := Tryz.zeroValue273
  t51 := Tryz.underlying211
  a51 := Tryz.isAgg211
  z51 := Tryz.sizeOf211
  v51 := Tryz.zeroValue211
  t119 := Tryz.underlying253
  a119 := Tryz.isAgg253
  z119 := Tryz.sizeOf253
  t141 := Tryz.underlying265
  a141 := Tryz.isAgg265
  z141 := Tryz.sizeOf265
  v141 := Tryz.zeroValue265
  t152 := Tryz.underlying261
  a152 := Tryz.isAgg261
  z152 := Tryz.sizeOf261
  v152 := Tryz.zeroValue261
  t154 := Tryz.underlying263
  a154 := Tryz.isAgg263
  z154 := Tryz.sizeOf263
  v154 := Tryz.zeroValue263
  t193 := Tryz.underlying269
  a193 := Tryz.isAgg269
  z193 := Tryz.sizeOf269
  v193 := Tryz.zeroValue269
  t194 := Tryz.underlying270
  a194 := Tryz.isAgg270
  z194 := Tryz.sizeOf270
  v194 := Tryz.zeroValue270
  t196 := Tryz.underlying272
  a196 := Tryz.isAgg272
  z196 := Tryz.sizeOf272
  v196 := Tryz.zeroValue272
  t198 := Tryz.underlying275
  a198 := Tryz.isAgg275
  z198 := Tryz.sizeOf275
  v198 := Tryz.zeroValue275
  t201 := Tryz.underlying278
  a201 := Tryz.isAgg278
  z201 := Tryz.sizeOf278
  v201 := Tryz.zeroValue278
  t226 := Tryz.underlying282
  a226 := Tryz.isAgg282
  z226 := Tryz.sizeOf282
  v226 := Tryz.zeroValue282
  t227 := Tryz.underlying283
  a227 := Tryz.isAgg283
  z227 := Tryz.sizeOf283
  v227 := Tryz.zeroValue283
  g0 := by kernel_rfl
  g6 := by kernel_rfl
  i0 := by kernel_rfl
  i3 := by kernel_rfl
  i4 := by kernel_rfl
  i5 := by kernel_rfl
  i9 := by kernel_rfl
  i21 := by kernel_rfl
  i31 := by kernel_rfl
  i40 := by kernel_rfl
  i46 := by kernel_rfl
  i49 := by kernel_rfl
  i51 := by kernel_rfl
  i141 := by kernel_rfl
  i152 := by kernel_rfl
  i154 := by kernel_rfl
  i193 := by kernel_rfl
  i194 := by kernel_rfl
  i196 := by kernel_rfl
  i198 := by kernel_rfl
  i201 := by kernel_rfl
  i226 := by kernel_rfl
  i227 := by kernel_rfl
  m0 := by kernel_rfl
  m6 := by kernel_rfl

namespace K1
theorem flat_ar {w w' : World} {R R' O : Cells} {loc loc' : Locs} {x : AV} {v : Value} (hx : x.flat = true) (h : AR w R loc x v O) : AR w' R' loc' x v none2 ∧ Emp O := by
  cases h with
  | sc h e => exact ⟨.sc h emp_none2, e⟩
  | _ => simp [AV.flat] at hx
theorem parts_flat {w : World} {R R' : Cells} : ∀ (l : List AV) (vals : List Value) (O : Cells), l.all AV.flat = true → Parts w R noLoc l vals O → Parts w R' noLoc l vals none2 ∧ Emp O
  | [], [], O, _, h => ⟨emp_none2, h⟩
  | [], _ :: _, _, _, h => h.elim
  | _ :: _, [], _, _, h => h.elim
  | x :: l, v :: vs, O, hf, h => by
    simp only [List.all_cons, Bool.and_eq_true] at hf
    obtain ⟨O1, O2, hO, hd, hx, hp⟩ := h
    obtain ⟨h1, e1⟩ := flat_ar (w' := w) (R' := R') (loc' := noLoc) hf.1 hx
    obtain ⟨h2, e2⟩ := parts_flat l vs O2 hf.2 hp
    exact ⟨⟨none2, none2, fun g o => by simp [none2], emp_none2.disj, h1, h2⟩, fun g o k => ((hO g o).1 k).elim (e1 g o) (e2 g o)⟩
def splL (s : List UInt8) (c : UInt8) : List (List UInt8) := Lib.split s [c]
theorem one_str {w : World} {R O : Cells} {s : List UInt8} {v : Value} (h : AR w R noLoc (.str s) v O) : v = .string ⟨s.toArray⟩ ∧ s.length ≤ maxLn := by
  cases h with
  | sc h _ => exact h
theorem one_int {w : World} {R O : Cells} {k : IntKind} {n : Int} {v : Value} (h : AR w R noLoc (.int k n) v O) : v = .int k n := by
  cases h with
  | sc h _ => exact h.1
theorem splitK_piece (sep : List UInt8) : ∀ (k : Nat) (s : List UInt8), ∀ x ∈ Lib.splitK sep 0 k s, x.length ≤ s.length
  | 0, s, x, h => by simp [Lib.splitK] at h; subst h; exact Nat.le_refl _
  | k + 1, s, x, h => by
    unfold Lib.splitK at h
    split at h
    · simp at h; subst h; exact Nat.le_refl _
    · rcases List.mem_cons.1 h with rfl | h
      · simp; omega
      · have := splitK_piece sep k _ x h
        simp at this
        omega
theorem splL_len (s : List UInt8) (c : UInt8) : (splL s c).length = s.count c + 1 := by
  have := Lib.splitB_all ⟨#[c]⟩ (show 1 ≤ 1 by omega) 0 _ ⟨s.toArray⟩ rfl
  have e := Lib.splitB_data ⟨#[c]⟩ 0 (Lib.countB ⟨s.toArray⟩ ⟨#[c]⟩) ⟨s.toArray⟩
  unfold splL Lib.split
  rw [← Lib.count_one]
  have e2 := congrArg List.length e
  rw [List.length_map, this] at e2
  exact e2.symm
set_option maxHeartbeats 1000000 in
theorem c261 (s : List UInt8) (c : UInt8) (hs : s.length < 4294967281) : Con Tryz.prog 261 [.str s, .str [c], .int .i64 0, .int .i64 (-1)] (undefs [.str s, .str [c], .int .i64 0, .int .i64 (-1)]) (ownS (splL s c)) := by
  have hcl : s.count c ≤ s.length := List.count_le_length
  refine Con.fresh (splL s c) ⟨_, Tryz.func261, rfl, rfl⟩ (by rw [splL_len]; unfold maxLn; omega) (fun x hx => ?_) (fun w vals hp tb => ?_) fun w R O vals hp => parts_flat _ _ _ rfl hp
  · have := splitK_piece [c] _ s x hx
    unfold maxLn; omega
  · obtain ⟨hl, os, h4, _⟩ := uni_of_parts _ _ _ hp
    match vals, hl with
    | [v0, v1, v2, v3], _ =>
      obtain rfl := (one_str (h4 0 _ v0 rfl rfl)).1
      obtain rfl := (one_str (h4 1 _ v1 rfl rfl)).1
      obtain rfl := one_int (h4 2 _ v2 rfl rfl)
      obtain rfl := one_int (h4 3 _ v3 rfl rfl)
      have hcn : Lib.countB ⟨s.toArray⟩ ⟨#[c]⟩ = s.count c := Lib.count_one c s
      have k := Any.strings_genSplit_core (L := { lays221 with }) lays221.i9 ⟨s.toArray⟩ ⟨#[c]⟩ 0 (-1) (Lib.countB ⟨s.toArray⟩ ⟨#[c]⟩ + 1) w hs (show 1 ≤ 1 by omega) (Nat.zero_le _)
        (fun x cc hx => (Any.strings_Index_one { lays221 with } x c _).mono fun e w' ⟨he, hw⟩ => ⟨by rw [he, ← Lib.index_one], hw⟩)
        ((Any.strings_Count_one { lays221 with } ⟨s.toArray⟩ c w).mono fun e w' ⟨he, hw⟩ => ⟨by rw [he, hcn]; rfl, hw⟩) (by decide) (by decide) (by
          rw [if_pos (by decide), hcn]
          have : ((⟨s.toArray⟩ : ByteArray).size : Int) = s.length := rfl
          omega)
      refine k.mono fun e w' ⟨he, hw⟩ => ?_
      rw [Nat.add_sub_cancel] at he hw
      have hle := Lib.splitB_all ⟨#[c]⟩ (show 1 ≤ 1 by omega) 0 _ ⟨s.toArray⟩ rfl
      have hda := Lib.splitB_data ⟨#[c]⟩ 0 (Lib.countB ⟨s.toArray⟩ ⟨#[c]⟩) ⟨s.toArray⟩
      refine ⟨?_, 9, ?_⟩
      · rw [he, hle, splL_len, hcn]
      · rw [hw]
        have e2 : Lib.cellsOf (Lib.splitB ⟨#[c]⟩ 0 (Lib.countB ⟨s.toArray⟩ ⟨#[c]⟩) ⟨s.toArray⟩) (Lib.countB ⟨s.toArray⟩ ⟨#[c]⟩ + 1) = ((splL s c).map fun s => Value.string ⟨s.toArray⟩).toArray := by
          rw [← hle, Lib.cellsOf_full]
          congr 1
          have : splL s c = (Lib.splitB ⟨#[c]⟩ 0 (Lib.countB ⟨s.toArray⟩ ⟨#[c]⟩) ⟨s.toArray⟩).map (·.data.toList) := by rw [hda]; rfl
          rw [this, List.map_map]
          rfl
        rw [e2]
        rfl
theorem c253 (s : List UInt8) (c : UInt8) (hs : s.length < 4294967281) : Con Tryz.prog 253 [.str s, .str [c]] (undefs [.str s, .str [c]]) (ownS (splL s c)) := by
  have k := c261 s c hs
  refine Con.ev 8 T_ok mix Tryz.func253 rfl rfl rfl rfl [.tmp 4] rfl ?_
  conv => whnf
  iterate 4 (apply rq_s rfl;conv=>whnf)
  (apply lend_s;conv=>whnf)
  (refine call_s (k ..) ?_;conv=>whnf)
  (refine fac_s (fun hf => ?_);conv=>whnf)
  (apply rq_s (by simp only [decide_eq_true_eq]; done);conv=>whnf)
  (apply rq_s rfl;conv=>whnf)
  (refine rows_s (by ((refine sub_all ?_; simp; done))) ?_;conv=>whnf)
  (refine sh_s ?_; (rfl))
theorem fields_piece : ∀ (l cur : List UInt8) (n : Nat), cur.length + l.length ≤ n → ∀ x ∈ Lib.fieldsGo cur l, x.length ≤ n
  | [], cur, n, h, x, hx => by
    unfold Lib.fieldsGo at hx
    split at hx
    · simp at hx
    · simp at hx; subst hx; simpa using h
  | b :: l, cur, n, h, x, hx => by
    unfold Lib.fieldsGo at hx
    simp only [List.length_cons] at h
    split at hx
    · split at hx
      · exact fields_piece l [] n (by simp; omega) x hx
      · rcases List.mem_cons.1 hx with rfl | hx
        · omega
        · exact fields_piece l [] n (by simp; omega) x hx
    · exact fields_piece l (cur ++ [b]) n (by simp; omega) x hx
theorem cntF_le : ∀ (l : List UInt8) (ws : Bool), Lib.cntF ws l ≤ l.length
  | [], ws => by simp [Lib.cntF]
  | b :: l, ws => by
    have := cntF_le l (Lib.isSp b)
    simp only [Lib.cntF, List.length_cons]
    split <;> omega
theorem c254 (s : List UInt8) (hs : s.length < 4294967281) (ha : ∀ b ∈ s, b.toNat < 128) : Con Tryz.prog 254 [.str s] (undefs [.str s]) (ownS (Lib.fields s)) := by
  have hlen : (Lib.fields s).length ≤ s.length := by
    unfold Lib.fields
    rw [Lib.fieldsGo_length]
    have := cntF_le s true
    simp
    exact this
  refine Con.fresh (Lib.fields s) ⟨_, Tryz.func254, rfl, rfl⟩ (by unfold maxLn; omega) (fun x hx => ?_) (fun w vals hp tb => ?_) fun w R O vals hp => parts_flat _ _ _ rfl hp
  · have := fields_piece s [] s.length (by simp) x hx
    unfold maxLn; omega
  · obtain ⟨hl, os, h4, _⟩ := uni_of_parts _ _ _ hp
    match vals, hl with
    | [v0], _ =>
      obtain rfl := (one_str (h4 0 _ v0 rfl rfl)).1
      have ht : Lib.TabIs Tryz.prog w "strings.asciiSpace" .u8 Lib.asciiSpaceTab := by
        have := tb.is (nm := "strings.asciiSpace") (g := 0) (cs := (Lib.asciiSpaceTab.map fun z => Value.int .u8 z).toArray) (by simp [tabL]) (by kernel_rfl)
        exact this
      refine (Any.strings_Fields { lays157 with } lays157.i9 lays157.m0 ⟨s.toArray⟩ w hs (fun j b hb => ha b (List.mem_of_getElem? (by simpa using hb))) ht).mono fun e w' ⟨he, hw⟩ => ?_
      exact ⟨he, _, hw⟩
end K1

/- Words of a dictionary: what is valid; contracts. -/
set_option linter.unusedVariables false
set_option linter.unusedSimpArgs false
set_option maxRecDepth 100000
open Go Go.Abs Go.Proofs V1 H1
namespace K2

def chOK (c : UInt8) : Bool := decide (33 ≤ c.toNat) && decide (c.toNat ≤ 126)
theorem wordOK_eq (s : List UInt8) : wordOK s = (inR s.length 1 12 && s.all chOK) := rfl

theorem c68 (s : List UInt8) : Con Tryz.prog 68 [.str s] (undefs [.str s]) (.bool (wordOK s)) := by
  refine Con.evF 23 T_ok mix Tryz.func68 rfl rfl rfl rfl [.tmp 2] rfl fun ⟨hx, _⟩ => ?_
  have hx : s.length ≤ maxLn := hx 0
  unfold maxLn at hx
  conv => whnf
  rotate_left
  refine LoopG.rounds (α := Nat) T_ok mix [0, 5, 6] [] (fun i => [(0, .str s), (5, .int .i64 s.length), (6, .int .i64 i)]) (fun _ => []) (fun i => i ≤ s.length ∧ ∀ j, j < i → chOK (s.getD j 0) = true) (fun i => s.length - i) ?_ ?_
  · conv => whnf
    exact head_s 0 ⟨by simp, fun j hj => by omega⟩ rfl rfl
  · rintro i ⟨h1, h2⟩ - -
    conv => whnf
    (refine br_s ?_ ?_ <;> intro hb <;> (try simp only [cln] at hb) <;> conv=>whnf)
    (apply rq_s rfl;conv=>whnf)
    (apply rq_s (by simp only [Bool.and_eq_true, decide_eq_true_eq, List.length_map]; omega);conv=>whnf)
    (refine br_s ?_ ?_ <;> intro hb <;> (try simp only [cln] at hb) <;> conv=>whnf)
    iterate 5 (apply br_t rfl;conv=>whnf)
    (apply rq_s rfl;conv=>whnf)
    rotate_left
    iterate 2 (apply br_f rfl;conv=>whnf)
    (apply rq_s rfl;conv=>whnf)
    (apply rq_s (by simp only [Bool.and_eq_true, decide_eq_true_eq, List.length_map]; omega);conv=>whnf)
    (apply br_f rfl;conv=>whnf)
    (refine br_s ?_ ?_ <;> intro hb <;> (try simp only [cln] at hb) <;> conv=>whnf)
    (apply rq_s rfl;conv=>whnf)
    iterate 2 (rotate_left)
    iterate 3 (apply rq_s rfl;conv=>whnf)
    (apply lend_s;conv=>whnf)
    (refine call_s (c57 ..) ?_;conv=>whnf)
    (apply rq_s rfl;conv=>whnf)
    rotate_left
    · simp only [Int.toNat_natCast] at hb
      have : s.all chOK = false := all_bad (i := i) (by assumption) (show chOK (s.getD i 0) = false by simp [chOK] at *; omega)
      exact sh_s (by rw [wordOK_eq, this, Bool.and_false])
    · simp only [Int.toNat_natCast] at hb
      have : s.all chOK = false := all_bad (i := i) (by assumption) (show chOK (s.getD i 0) = false by simp [chOK] at *; omega)
      exact sh_s (by rw [wordOK_eq, this, Bool.and_false])
    · rename_i hb1 hb2
      simp only [Int.toNat_natCast] at hb hb2
      refine head_s (i + 1) ⟨⟨by omega, fun j hj => ?_⟩, by omega⟩ (by rw [wrap64 (by omega) (by omega)]; rfl) rfl
      by_cases hji : j = i
      · subst hji; simp [chOK] at *; omega
      · exact h2 j (by omega)
    · have : s.all chOK = true := all_good fun j hj => h2 j (by omega)
      exact sh_s (by rw [wordOK_eq, this, Bool.and_true])
theorem c187 (s : List UInt8) : Con Tryz.prog 187 [.str s] (undefs [.str s]) (.bool (wordOK s)) := by
  have hw : ∀ i, IntKind.i64.wrap (((s.getD i 0).toNat : Nat) : Int) = ((s.getD i 0).toNat : Int) := fun i => by
    have := (s.getD i 0).toNat_lt
    exact wrap64 (by omega) (by omega)
  refine Con.evF 20 T_ok mix Tryz.func187 rfl rfl rfl rfl [.tmp 2] rfl fun ⟨hx, _⟩ => ?_
  have hx : s.length ≤ maxLn := hx 0
  unfold maxLn at hx
  conv => whnf
  iterate 3 (apply rq_s rfl;conv=>whnf)
  (apply lend_s;conv=>whnf)
  (refine call_s (c79 ..) ?_;conv=>whnf)
  (refine br_s ?_ ?_ <;> intro hb <;> (try simp only [cln] at hb) <;> conv=>whnf)
  (apply rq_s rfl;conv=>whnf)
  iterate 2 (rotate_left)
  · exact sh_s (by rw [wordOK_eq, hb, Bool.false_and])
  refine LoopG.rounds (α := Nat) T_ok mix [0, 3] [] (fun i => [(0, .str s), (3, .int .i64 i)]) (fun _ => []) (fun i => i ≤ s.length ∧ ∀ j, j < i → chOK (s.getD j 0) = true) (fun i => s.length - i) ?_ ?_
  · conv => whnf
    exact head_s 0 ⟨by simp, fun j hj => by omega⟩ rfl rfl
  · rintro i ⟨h1, h2⟩ - -
    have hin := hb
    conv => whnf
    (refine br_s ?_ ?_ <;> intro hb <;> (try simp only [cln] at hb) <;> conv=>whnf)
    (apply rq_s rfl;conv=>whnf)
    (apply rq_s (by simp only [Bool.and_eq_true, decide_eq_true_eq, List.length_map]; omega);conv=>whnf)
    iterate 3 (apply rq_s rfl;conv=>whnf)
    (apply lend_s;conv=>whnf)
    (refine call_s (c79 ..) ?_;conv=>whnf)
    (refine br_s ?_ ?_ <;> intro hb <;> (try simp only [cln] at hb) <;> conv=>whnf)
    (apply rq_s rfl;conv=>whnf)
    iterate 2 (rotate_left)
    (apply rq_s rfl;conv=>whnf)
    rotate_left
    · simp only [Int.toNat_natCast] at hb
      rw [hw] at hb
      have : s.all chOK = false := all_bad (i := i) (by assumption) (show chOK (s.getD i 0) = false by simp [chOK, inR] at *; omega)
      exact sh_s (by rw [wordOK_eq, this, Bool.and_false])
    · simp only [Int.toNat_natCast] at hb
      rw [hw] at hb
      refine head_s (i + 1) ⟨⟨by omega, fun j hj => ?_⟩, by omega⟩ (by rw [wrap64 (by omega) (by omega)]; rfl) rfl
      by_cases hji : j = i
      · subst hji; simp [chOK, inR] at *; omega
      · exact h2 j (by omega)
    · have : s.all chOK = true := all_good fun j hj => h2 j (by omega)
      exact sh_s (by rw [wordOK_eq, this, hin]; rfl)
theorem c171 (x : Wd) : Con Tryz.prog 171 [wdV x] (undefs [wdV x]) (.bool (scriptOK x)) := by
  refine Con.ev 44 T_ok mix Tryz.func171 rfl rfl rfl rfl [.tmp 2] rfl ?_
  conv => whnf
  iterate 2 (apply rq_s rfl;conv=>whnf)
  (refine br_s ?_ ?_ <;> intro hb <;> (try simp only [cln] at hb) <;> conv=>whnf)
  iterate 2 (apply rq_s rfl;conv=>whnf)
  (apply lend_s;conv=>whnf)
  (refine call_s (c68 ..) ?_;conv=>whnf)
  (refine br_s ?_ ?_ <;> intro hb <;> (try simp only [cln] at hb) <;> conv=>whnf)
  (apply rq_s rfl;conv=>whnf)
  iterate 2 (apply br_t rfl;conv=>whnf)
  iterate 3 (apply rq_s rfl;conv=>whnf)
  (apply lend_s;conv=>whnf)
  (refine call_s (c57 ..) ?_;conv=>whnf)
  (apply rq_s rfl;conv=>whnf)
  (focus (refine sh_s ?_; (first | (simp_all [scriptOK]; done) | (simp_all [scriptOK]; rfl))))
  iterate 3 (apply br_f rfl;conv=>whnf)
  (apply rq_s rfl;conv=>whnf)
  (focus (refine sh_s ?_; (first | (simp_all [scriptOK]; done) | (simp_all [scriptOK]; rfl))))
  (refine br_s ?_ ?_ <;> intro hb <;> (try simp only [cln] at hb) <;> conv=>whnf)
  iterate 2 (apply rq_s rfl;conv=>whnf)
  (apply lend_s;conv=>whnf)
  (refine call_s (c68 ..) ?_;conv=>whnf)
  (refine br_s ?_ ?_ <;> intro hb <;> (try simp only [cln] at hb) <;> conv=>whnf)
  (apply rq_s rfl;conv=>whnf)
  iterate 2 (apply br_t rfl;conv=>whnf)
  iterate 3 (apply rq_s rfl;conv=>whnf)
  (apply lend_s;conv=>whnf)
  (refine call_s (c57 ..) ?_;conv=>whnf)
  (refine br_s ?_ ?_ <;> intro hb <;> (try simp only [cln] at hb) <;> conv=>whnf)
  (apply rq_s rfl;conv=>whnf)
  iterate 2 (apply br_t rfl;conv=>whnf)
  (apply rq_s rfl;conv=>whnf)
  (apply br_t rfl;conv=>whnf)
  (apply rq_s rfl;conv=>whnf)
  (focus (refine sh_s ?_; (first | (simp_all [scriptOK]; done) | (simp_all [scriptOK]; rfl))))
  iterate 4 (apply br_f rfl;conv=>whnf)
  (apply rq_s rfl;conv=>whnf)
  (focus (refine sh_s ?_; (first | (simp_all [scriptOK]; done) | (simp_all [scriptOK]; rfl))))
  iterate 8 (apply br_f rfl;conv=>whnf)
  (apply rq_s rfl;conv=>whnf)
  (focus (refine sh_s ?_; (first | (simp_all [scriptOK]; done) | (simp_all [scriptOK]; rfl))))
  (apply rq_s rfl;conv=>whnf)
  (refine br_s ?_ ?_ <;> intro hb <;> (try simp only [cln] at hb) <;> conv=>whnf)
  (apply rq_s rfl;conv=>whnf)
  iterate 2 (apply br_t rfl;conv=>whnf)
  (apply rq_s rfl;conv=>whnf)
  (apply lend_s;conv=>whnf)
  (refine call_s (c68 ..) ?_;conv=>whnf)
  (refine br_s ?_ ?_ <;> intro hb <;> (try simp only [cln] at hb) <;> conv=>whnf)
  (apply rq_s rfl;conv=>whnf)
  iterate 2 (apply br_t rfl;conv=>whnf)
  (apply rq_s rfl;conv=>whnf)
  (apply lend_s;conv=>whnf)
  (refine call_s (c174 ..) ?_;conv=>whnf)
  (apply rq_s rfl;conv=>whnf)
  (focus (refine sh_s ?_; (first | (simp_all [scriptOK]; done) | (simp_all [scriptOK]; rfl))))
  iterate 3 (apply br_f rfl;conv=>whnf)
  (apply rq_s rfl;conv=>whnf)
  (focus (refine sh_s ?_; (first | (simp_all [scriptOK]; done) | (simp_all [scriptOK]; rfl))))
  iterate 7 (apply br_f rfl;conv=>whnf)
  (apply rq_s rfl;conv=>whnf)
  (focus (refine sh_s ?_; (first | (simp_all [scriptOK]; done) | (simp_all [scriptOK]; rfl))))
theorem c159 (x : Wd) : Con Tryz.prog 159 [wdV x] (undefs [wdV x]) (.bool (scriptOK x)) := by
  have h4 : ∀ v : Int, (inR v 4096 4220 && (v.tmod 4 == 0)) = (inR v 4096 4223 && decide (v.tmod 4 = 0)) := fun v => by
    rw [Bool.eq_iff_iff]
    simp only [inR, Bool.and_eq_true, decide_eq_true_eq, beq_iff_eq]
    constructor
    · rintro ⟨⟨h1, h2⟩, h3⟩
      exact ⟨⟨h1, by omega⟩, h3⟩
    · rintro ⟨⟨h1, h2⟩, h3⟩
      refine ⟨⟨h1, ?_⟩, h3⟩
      rw [Int.tmod_eq_emod_of_nonneg (by omega)] at h3
      omega
  refine Con.ev 30 T_ok mix Tryz.func159 rfl rfl rfl rfl [.tmp 2] rfl ?_
  conv => whnf
  iterate 3 (apply rq_s rfl;conv=>whnf)
  (apply lend_s;conv=>whnf)
  (refine call_s (c187 ..) ?_;conv=>whnf)
  (refine br_s ?_ ?_ <;> intro hb <;> (try simp only [cln] at hb) <;> conv=>whnf)
  (apply rq_s rfl;conv=>whnf)
  rotate_left
  (apply rq_s rfl;conv=>whnf)
  (refine br_s ?_ ?_ <;> intro hb <;> (try simp only [cln] at hb) <;> conv=>whnf)
  iterate 4 (apply rq_s rfl;conv=>whnf)
  (apply lend_s;conv=>whnf)
  (refine call_s (c79 ..) ?_;conv=>whnf)
  (apply rq_s rfl;conv=>whnf)
  rotate_left
  (refine br_s ?_ ?_ <;> intro hb <;> (try simp only [cln] at hb) <;> conv=>whnf)
  iterate 4 (apply rq_s rfl;conv=>whnf)
  (apply lend_s;conv=>whnf)
  (refine call_s (c79 ..) ?_;conv=>whnf)
  (refine br_s ?_ ?_ <;> intro hb <;> (try simp only [cln] at hb) <;> conv=>whnf)
  (apply rq_s rfl;conv=>whnf)
  iterate 2 (apply br_t rfl;conv=>whnf)
  (apply rq_s rfl;conv=>whnf)
  (apply br_t rfl;conv=>whnf)
  (apply rq_s rfl;conv=>whnf)
  rotate_left
  iterate 4 (apply br_f rfl;conv=>whnf)
  (apply rq_s rfl;conv=>whnf)
  rotate_left
  (refine br_s ?_ ?_ <;> intro hb <;> (try simp only [cln] at hb) <;> conv=>whnf)
  iterate 2 (apply rq_s rfl;conv=>whnf)
  (apply lend_s;conv=>whnf)
  (refine call_s (c160 ..) ?_;conv=>whnf)
  (apply rq_s rfl;conv=>whnf)
  rotate_left
  (apply rq_s rfl;conv=>whnf)
  rotate_left
  · exact sh_s (by simp [scriptOK, hb])
  · exact sh_s (by simp_all [scriptOK])
  · rename_i q1 q2 q3
    have := h4 x.v
    rw [hb, Bool.true_and] at this
    exact sh_s (by rw [if_pos rfl, this, scriptOK, if_neg q2, if_pos q3, q1, Bool.true_and])
  · rename_i q1 q2 q3
    have := h4 x.v
    rw [hb, Bool.false_and] at this
    exact sh_s (by rw [scriptOK, if_neg q2, if_pos q3, q1, Bool.true_and, ← this])
  · exact sh_s (by simp_all [scriptOK])
  · exact sh_s (by simp_all [scriptOK])
theorem c170 (x : Wd) : Con Tryz.prog 170 [wdV x] (undefs [wdV x]) (.bool (badScript x)) := by
  refine Con.ev 6 T_ok mix Tryz.func170 rfl rfl rfl rfl [.tmp 2] rfl ?_
  conv => whnf
  iterate 4 (apply rq_s rfl;conv=>whnf)
  (apply lend_s;conv=>whnf)
  (refine call_s (c171 ..) ?_;conv=>whnf)
  (apply rq_s rfl;conv=>whnf)
  (refine sh_s ?_; (rfl))
end K2

/- The words of the kernel, by both: contracts. -/
set_option linter.unusedVariables false
set_option linter.unusedSimpArgs false
set_option maxRecDepth 100000
open Go Go.Abs Go.Proofs V1 H1 K1 K2
namespace K3


def grpV (g : List (List UInt8)) : AV := .ro [.str []] (g.map strR)
theorem c243 : Con Tryz.prog 243 [] (undefs []) (grpV (kernelG.getD 0 [])) := by
  refine Con.ev 2 T_ok mix Tryz.func243 rfl rfl rfl rfl [.tmp 0] rfl ?_
  conv => whnf
  (apply rq_s rfl;conv=>whnf)
  (apply rq_s (by simp only [lnm]; done);conv=>whnf)
  (apply rq_s rfl;conv=>whnf)
  (refine rows_s (by ((refine sub_all ?_; simp [List.length_map]; done))) ?_;conv=>whnf)
  rotate_left
  exact ⟨Sh.own_ro (by omega) _ _⟩
theorem c244 : Con Tryz.prog 244 [] (undefs []) (grpV (kernelG.getD 1 [])) := by
  refine Con.ev 2 T_ok mix Tryz.func244 rfl rfl rfl rfl [.tmp 0] rfl ?_
  conv => whnf
  (apply rq_s rfl;conv=>whnf)
  (apply rq_s (by simp only [lnm]; done);conv=>whnf)
  (apply rq_s rfl;conv=>whnf)
  (refine rows_s (by ((refine sub_all ?_; simp [List.length_map]; done))) ?_;conv=>whnf)
  rotate_left
  exact ⟨Sh.own_ro (by omega) _ _⟩
theorem c245 : Con Tryz.prog 245 [] (undefs []) (grpV (kernelG.getD 2 [])) := by
  refine Con.ev 2 T_ok mix Tryz.func245 rfl rfl rfl rfl [.tmp 0] rfl ?_
  conv => whnf
  (apply rq_s rfl;conv=>whnf)
  (apply rq_s (by simp only [lnm]; done);conv=>whnf)
  (apply rq_s rfl;conv=>whnf)
  (refine rows_s (by ((refine sub_all ?_; simp [List.length_map]; done))) ?_;conv=>whnf)
  rotate_left
  exact ⟨Sh.own_ro (by omega) _ _⟩
theorem c246 : Con Tryz.prog 246 [] (undefs []) (grpV (kernelG.getD 3 [])) := by
  refine Con.ev 2 T_ok mix Tryz.func246 rfl rfl rfl rfl [.tmp 0] rfl ?_
  conv => whnf
  (apply rq_s rfl;conv=>whnf)
  (apply rq_s (by simp only [lnm]; done);conv=>whnf)
  (apply rq_s rfl;conv=>whnf)
  (refine rows_s (by ((refine sub_all ?_; simp [List.length_map]; done))) ?_;conv=>whnf)
  rotate_left
  exact ⟨Sh.own_ro (by omega) _ _⟩
theorem c247 : Con Tryz.prog 247 [] (undefs []) (grpV (kernelG.getD 4 [])) := by
  refine Con.ev 2 T_ok mix Tryz.func247 rfl rfl rfl rfl [.tmp 0] rfl ?_
  conv => whnf
  (apply rq_s rfl;conv=>whnf)
  (apply rq_s (by simp only [lnm]; done);conv=>whnf)
  (apply rq_s rfl;conv=>whnf)
  (refine rows_s (by ((refine sub_all ?_; simp [List.length_map]; done))) ?_;conv=>whnf)
  rotate_left
  exact ⟨Sh.own_ro (by omega) _ _⟩
def kg (i : Nat) : List Wd := (kernelG.getD i []).zipIdx.map fun p => ⟨p.1, (i : Int) + 1, (p.2 : Int) + 1⟩
def kpre (i : Nat) : List Wd := (List.range i).flatMap kg
theorem kpre_5 : kpre 5 = kernelW := by decide +kernel
theorem kpre_next (i : Nat) : kpre (i + 1) = kpre i ++ kg i := by simp [kpre, List.range_succ]
theorem kg_len (i : Nat) : (kg i).length = (kernelG.getD i []).length := by simp [kg]
theorem kg_take {i j : Nat} (h : j < (kernelG.getD i []).length) : (kg i).take (j + 1) = (kg i).take j ++ [⟨(kernelG.getD i []).getD j [], (i : Int) + 1, (j : Int) + 1⟩] := by
  rw [List.take_succ_eq_append_getElem (by rw [kg_len]; exact h)]
  have hl : j < (kg i).length := by rw [kg_len]; exact h
  have : (kg i)[j] = ⟨(kernelG.getD i []).getD j [], (i : Int) + 1, (j : Int) + 1⟩ := by
    unfold kg at hl ⊢
    generalize kernelG.getD i [] = g at h hl ⊢
    simp [h]
  rw [this]
theorem kpre_len (i : Nat) (h : i ≤ 5) : (kpre i).length ≤ 260 := by
  have : i = 0 ∨ i = 1 ∨ i = 2 ∨ i = 3 ∨ i = 4 ∨ i = 5 := by omega
  rcases this with rfl | rfl | rfl | rfl | rfl | rfl <;> decide +kernel
def gR (g : List (List UInt8)) : List AV := [grpV g]
theorem grp_le (i : Nat) : (kernelG.getD i []).length ≤ 52 := by
  by_cases h : i < 5
  · have : i = 0 ∨ i = 1 ∨ i = 2 ∨ i = 3 ∨ i = 4 := by omega
    rcases this with rfl | rfl | rfl | rfl | rfl <;> decide +kernel
  · have : kernelG.getD i [] = [] := by
      rw [List.getD_eq_getElem?_getD, List.getElem?_eq_none (by show 5 ≤ i; omega)]
      rfl
    rw [this]; simp


theorem c221 : Con Tryz.prog 221 [] (undefs []) (ownW kernelW) := by
  refine Con.ev 43 T_ok mix Tryz.func221 rfl rfl rfl rfl [.tmp 0] rfl ?_
  conv => whnf
  (apply rq_s rfl;conv=>whnf)
  (apply lend_s;conv=>whnf)
  (refine call_s (c243 ..) ?_;conv=>whnf)
  (apply lend_s;conv=>whnf)
  (refine call_s (c244 ..) ?_;conv=>whnf)
  (apply lend_s;conv=>whnf)
  (refine call_s (c245 ..) ?_;conv=>whnf)
  (apply lend_s;conv=>whnf)
  (refine call_s (c246 ..) ?_;conv=>whnf)
  (apply lend_s;conv=>whnf)
  (refine call_s (c247 ..) ?_;conv=>whnf)
  (apply rq_s rfl;conv=>whnf)
  iterate 5 (refine fac_s (fun hf => ?_);conv=>whnf)
  rotate_left
  refine LoopG.frz 2 ?_
  conv => whnf
  refine LoopG.bearT 1 101 zW rfl rfl ?_
  refine LoopG.auto (α := Nat) T_ok mix [1, 2, 3] (fun i => [(1, .ref 1 0 (kpre i).length), (2, .ro [.emp] (kernelG.map gR)), (3, .int .i64 i)]) (fun i => [(1, .live ⟨true, 0, zW, (kpre i).map wdR⟩)]) (fun i => i ≤ 5) (fun i => 5 - i) ?_ ?_
  · conv => whnf
    (refine ChkS.mk (by kernel_rfl) ?_;conv=>whnf)
    rotate_left
    exact head_s 0 (by omega) rfl rfl
  · intro i hi _ _
    conv => whnf
    (refine br_s ?_ ?_ <;> intro hb <;> (try simp only [cln] at hb) <;> conv=>whnf)
    rotate_left
    (apply rq_s (by simp only [lnm]; done);conv=>whnf)
    (apply rq_s rfl;conv=>whnf)
    (refine rows_s (by ((refine sub_all ?_; simp [List.length_map]; done))) ?_;conv=>whnf)
    rotate_left
    · have hi5 : i < 5 := by simpa [kernelG] using hb
      refine LoopG.auto (α := Nat) T_ok mix [1, 2, 3, 4] (fun j => [(1, .ref 1 0 (kpre i ++ (kg i).take j).length), (2, .ro [.emp] (kernelG.map gR)), (3, .int .i64 i), (4, .int .i64 j)]) (fun j => [(1, .live ⟨true, 0, zW, (kpre i ++ (kg i).take j).map wdR⟩)]) (fun j => j ≤ (kernelG.getD i []).length) (fun j => (kernelG.getD i []).length - j) ?_ ?_
      · conv => whnf
        (refine ChkS.mk (by kernel_rfl) ?_;conv=>whnf)
        rotate_left
        exact head_s 0 (by omega) (by simp) (by simp)
      · intro j hj _ _
        have h52 := grp_le i
        have h26 := kpre_len i hi
        conv => whnf
        (apply rq_s rfl;conv=>whnf)
        (refine rq_s (by refine and_s rfl ?_; simp only [lnm]; omega) ?_;conv=>whnf)
        (refine row_s (by ((try simp only [Int.toNat_natCast]); exact row_map gR kernelG _ _ [] (by show _ < 5; omega))) ?_;conv=>whnf)
        (refine br_s ?_ ?_ <;> intro hb <;> (try simp only [cln] at hb) <;> conv=>whnf)
        (apply rq_s rfl;conv=>whnf)
        (refine rq_s (by refine and_s rfl ?_; simp only [lnm]; omega) ?_;conv=>whnf)
        (refine row_s (by ((try simp only [Int.toNat_natCast]); exact row_map gR kernelG _ _ [] (by show _ < 5; omega))) ?_;conv=>whnf)
        (apply rq_s rfl;conv=>whnf)
        (refine rq_s (by refine and_s rfl ?_; simp only [lnm]; omega) ?_;conv=>whnf)
        (refine row_s (by ((try simp only [Int.toNat_natCast]); exact row_map strR _ _ _ [] (by omega))) ?_;conv=>whnf)
        iterate 2 (apply rq_s rfl;conv=>whnf)
        (apply rq_s (by simp only [lnm]; done);conv=>whnf)
        iterate 2 (apply rq_s rfl;conv=>whnf)
        (apply rq_s (by simp only [lnm]; done);conv=>whnf)
        (apply rq_s (by (((simp [maxBytes, subA]; omega))));conv=>whnf)
        (refine appf_s wdR (y := ⟨(kernelG.getD i []).getD j [], IntKind.i64.wrap ((i : Int) + 1), IntKind.i64.wrap ((j : Int) + 1)⟩) rfl ?_;conv=>whnf)
        (refine ChkS.mk (by kernel_rfl) ?_;conv=>whnf)
        rotate_left
        (refine ChkS.mk (by kernel_rfl) ?_;conv=>whnf)
        rotate_left
        · have hj2 : j < (kernelG.getD i []).length := by simpa using hb
          exact head_s (j + 1) ⟨by omega, by omega⟩ (by rw [kg_take hj2, wrap64 (n := (j : Int) + 1) (by omega) (by omega), wrap64 (by omega) (by omega), ← List.append_assoc]; rfl) (by rw [kg_take hj2, ← List.append_assoc, wrap64 (by omega) (by omega), wrap64 (by omega) (by omega)])
        · obtain rfl : j = (kernelG.getD i []).length := (by have : ¬ j < (kernelG.getD i []).length := (by simpa using hb); omega)
          have e : (kg i).take (kernelG.getD i []).length = kg i := by rw [← kg_len, List.take_length]
          exact head_s (i + 1) ⟨by omega, by omega⟩ (by rw [e, ← kpre_next, wrap64 (by omega) (by omega)]; first | done | rfl) (by rw [e, ← kpre_next])
    · have h5 : ¬ i < 5 := by simpa [kernelG] using hb
      obtain rfl : i = 5 := by omega
      exact ⟨by rw [kpre_5]; exact Sh.refl _⟩

def kTxt : List UInt8 := (kernelG.map fun g => (g.intersperse [32]).flatten).intersperse [124] |>.flatten
theorem kSplit : splL kTxt 124 = kernelG.map fun g => (g.intersperse [32]).flatten := by decide +kernel
def gT (i : Nat) : List UInt8 := (kernelG.map fun g => (g.intersperse [32]).flatten).getD i []
theorem kFields (i : Nat) (h : i < 5) : Lib.fields (gT i) = kernelG.getD i [] := by
  have : i = 0 ∨ i = 1 ∨ i = 2 ∨ i = 3 ∨ i = 4 := by omega
  rcases this with rfl | rfl | rfl | rfl | rfl <;> decide +kernel
theorem kS (s : List UInt8) (h : s = kTxt) : Con Tryz.prog 253 [.str s, .str [124]] (undefs [.str s, .str [124]]) (ownS (kernelG.map fun g => (g.intersperse [32]).flatten)) := by
  subst h
  have := c253 kTxt 124 (by decide +kernel)
  rw [kSplit] at this
  exact this
theorem kF (i : Nat) (h : i < 5) : Con Tryz.prog 254 [.str (gT i)] (undefs [.str (gT i)]) (ownS (kernelG.getD i [])) := by
  have := c254 (gT i) (by
    have : i = 0 ∨ i = 1 ∨ i = 2 ∨ i = 3 ∨ i = 4 := by omega
    rcases this with rfl | rfl | rfl | rfl | rfl <;> decide +kernel) (by
    have : i = 0 ∨ i = 1 ∨ i = 2 ∨ i = 3 ∨ i = 4 := by omega
    rcases this with rfl | rfl | rfl | rfl | rfl <;> decide +kernel)
  rw [kFields i h] at this
  exact this
abbrev gts : List (List UInt8) := kernelG.map fun g => (g.intersperse [32]).flatten


theorem c227 : Con Tryz.prog 227 [] (undefs []) (ownW kernelW) := by
  refine Con.ev 34 T_ok mix Tryz.func227 rfl rfl rfl rfl [.tmp 0] rfl ?_
  conv => whnf
  iterate 3 (apply rq_s rfl;conv=>whnf)
  (apply lend_s;conv=>whnf)
  (refine call_s (kS _ (by decide +kernel)) ?_;conv=>whnf)
  (refine fac_s (fun hf => ?_);conv=>whnf)
  rotate_left
  refine LoopG.frz 7 ?_
  conv => whnf
  refine LoopG.bearT 1 101 zW rfl rfl ?_
  refine LoopG.auto (α := Nat) T_ok mix [1, 7, 8, 9] (fun i => [(1, .ref 1 0 (kpre i).length), (7, .ro [.str []] (gts.map strR)), (8, .int .i64 5), (9, .int .i64 i)]) (fun i => [(1, .live ⟨true, 0, zW, (kpre i).map wdR⟩)]) (fun i => i ≤ 5) (fun i => 5 - i) ?_ ?_
  · conv => whnf
    (refine ChkS.mk (by kernel_rfl) ?_;conv=>whnf)
    rotate_left
    exact head_s 0 (by omega) (by rfl) (by rfl)
  · intro i hi _ _
    by_cases hi5 : i < 5
    · have hbi : decide ((i : Int) < 5) = true := by simp; omega
      conv => whnf
      (apply br_t (by assumption);conv=>whnf)
      (apply rq_s rfl;conv=>whnf)
      (refine rq_s (by (((refine and_s rfl ?_; rw [Int.toNat_natCast]; exact decide_eq_true (show i < 5 from hi5))))) ?_;conv=>whnf)
      (refine row_s (by ((try simp only [Int.toNat_natCast]); exact row_map strR gts _ _ [] (by show _ < 5; omega))) ?_;conv=>whnf)
      (apply rq_s rfl;conv=>whnf)
      (apply lend_s;conv=>whnf)
      (refine call_s (kF _ hi5) ?_;conv=>whnf)
      (refine fac_s (fun hf => ?_);conv=>whnf)
      rotate_left
      refine LoopG.frz 15 ?_
      conv => whnf
      refine LoopG.auto (α := Nat) T_ok mix [1, 2, 7, 8, 9, 15, 16, 17] (fun j => [(1, .ref 1 0 (kpre i ++ (kg i).take j).length), (2, .int .i64 i), (7, .ro [.str []] (gts.map strR)), (8, .int .i64 5), (9, .int .i64 i), (15, .ro [.str []] ((kernelG.getD i []).map strR)), (16, .int .i64 (kernelG.getD i []).length), (17, .int .i64 j)]) (fun j => [(1, .live ⟨true, 0, zW, (kpre i ++ (kg i).take j).map wdR⟩)]) (fun j => j ≤ (kernelG.getD i []).length) (fun j => (kernelG.getD i []).length - j) ?_ ?_
      · conv => whnf
        (refine ChkS.mk (by kernel_rfl) ?_;conv=>whnf)
        rotate_left
        exact head_s 0 (by omega) (by simp [subA, List.take_of_length_le]) (by simp)
      · intro j hj _ _
        have h52 := grp_le i
        have h26 := kpre_len i hi
        conv => whnf
        (refine br_s ?_ ?_ <;> intro hb <;> (try simp only [cln] at hb) <;> conv=>whnf)
        (apply rq_s rfl;conv=>whnf)
        (refine rq_s (by refine and_s rfl ?_; simp only [lnm]; omega) ?_;conv=>whnf)
        (refine row_s (by ((try simp only [Int.toNat_natCast]); exact row_map strR _ _ _ [] (by omega))) ?_;conv=>whnf)
        iterate 2 (apply rq_s rfl;conv=>whnf)
        (apply rq_s (by simp only [lnm]; done);conv=>whnf)
        iterate 2 (apply rq_s rfl;conv=>whnf)
        (apply rq_s (by simp only [lnm]; done);conv=>whnf)
        (apply rq_s (by (((simp [maxBytes, subA]; omega))));conv=>whnf)
        (refine appf_s wdR (y := ⟨(kernelG.getD i []).getD j [], IntKind.i64.wrap ((i : Int) + 1), IntKind.i64.wrap ((j : Int) + 1)⟩) rfl ?_;conv=>whnf)
        (refine ChkS.mk (by kernel_rfl) ?_;conv=>whnf)
        rotate_left
        (refine ChkS.mk (by kernel_rfl) ?_;conv=>whnf)
        rotate_left
        · have hj2 : j < (kernelG.getD i []).length := by simpa using hb
          exact head_s (j + 1) ⟨by omega, by omega⟩ (by rw [kg_take hj2, wrap64 (n := (j : Int) + 1) (by omega) (by omega), wrap64 (by omega) (by omega), ← List.append_assoc]; rfl) (by rw [kg_take hj2, ← List.append_assoc, wrap64 (by omega) (by omega), wrap64 (by omega) (by omega)])
        · obtain rfl : j = (kernelG.getD i []).length := (by have : ¬ j < (kernelG.getD i []).length := (by simpa using hb); omega)
          have e : (kg i).take (kernelG.getD i []).length = kg i := by rw [← kg_len, List.take_length]
          exact head_s (i + 1) ⟨by omega, by omega⟩ (by rw [e, ← kpre_next, wrap64 (by omega) (by omega)]; first | done | rfl) (by rw [e, ← kpre_next])
    · obtain rfl : i = 5 := by omega
      have hbi : decide (((5 : Nat) : Int) < 5) = false := by decide
      conv => whnf
      (apply br_f rfl;conv=>whnf)
      (apply rq_s (by simp only [lnm]; done);conv=>whnf)
      (apply rq_s rfl;conv=>whnf)
      (refine rows_s (by ((refine sub_all ?_; simp [List.length_map]; done))) ?_;conv=>whnf)
      rotate_left
      exact ⟨by rw [kpre_5]; exact Sh.refl _⟩
end K3

/- Dictionaries: what is valid; contracts. -/
set_option linter.unusedVariables false
set_option linter.unusedSimpArgs false
set_option maxRecDepth 100000
open Go Go.Abs Go.Proofs V1 H1 K1 K2 K3
namespace K4


theorem wq (a b : Wd) : ((a.nm == b.nm) && ((a.k == b.k) && ((a.v == b.v) && true))) = decide (a = b) := by
  cases a; cases b
  rw [Bool.eq_iff_iff]
  simp
theorem eqW (xs ys : List Wd) : Con Tryz.prog 132 [roW xs, roW ys] (undefs [roW xs, roW ys]) (.bool (decide (xs = ys))) := by
  refine Con.evF 26 T_ok mix Tryz.func132 rfl rfl rfl rfl [.tmp 4] rfl fun ⟨hx, _⟩ => ?_
  have hx := facts_len hx
  conv => whnf
  (refine br_s ?_ ?_ <;> intro hb <;> (try simp only [cln] at hb) <;> conv=>whnf)
  (apply rq_s rfl;conv=>whnf)
  iterate 2 (rotate_left)
  · refine sh_s ?_
    have : xs ≠ ys := fun e => hb (by rw [e])
    simp [this]
  · refine LoopG.rounds (α := Nat) T_ok mix [0, 1, 12, 13] [] (fun i => [(0, roW xs), (1, roW ys), (12, .int .i64 xs.length), (13, .int .i64 i)]) (fun _ => []) (fun i => i ≤ xs.length ∧ xs.take i = ys.take i) (fun i => xs.length - i) ?_ ?_
    · conv => whnf
      exact head_s 0 ⟨by simp, by simp⟩ (by simp [roW]) rfl
    · rintro i ⟨h1, h2⟩ - -
      conv => whnf
      (refine br_s ?_ ?_ <;> intro hb <;> (try simp only [cln] at hb) <;> conv=>whnf)
      iterate 3 (refine ChkS.mk (by kernel_rfl) ?_;conv=>whnf)
      (apply rq_s rfl;conv=>whnf)
      (refine rq_s (by refine and_s rfl ?_; simp only [lnm]; omega) ?_;conv=>whnf)
      (refine ChkS.mk (by kernel_rfl) ?_;conv=>whnf)
      (refine row_s (by ((try simp only [Int.toNat_natCast]); exact row_map wdR _ _ _ default (by first | omega | (simp; omega)))) ?_;conv=>whnf)
      iterate 3 (refine ChkS.mk (by kernel_rfl) ?_;conv=>whnf)
      (apply rq_s rfl;conv=>whnf)
      (refine rq_s (by refine and_s rfl ?_; simp only [lnm]; omega) ?_;conv=>whnf)
      (refine ChkS.mk (by kernel_rfl) ?_;conv=>whnf)
      (refine row_s (by ((try simp only [Int.toNat_natCast]); exact row_map wdR _ _ _ default (by first | omega | (simp; omega)))) ?_;conv=>whnf)
      (refine ChkS.mk (by kernel_rfl) ?_;conv=>whnf)
      (apply rq_s (by simp only [lnm]; done);conv=>whnf)
      (refine ChkS.mk (by kernel_rfl) ?_;conv=>whnf)
      (refine br_s ?_ ?_ <;> intro hb <;> (try simp only [cln] at hb) <;> conv=>whnf)
      (apply rq_s rfl;conv=>whnf)
      iterate 2 (rotate_left)
      (apply rq_s rfl;conv=>whnf)
      rotate_left
      · rw [wq] at hb
        refine sh_s ?_
        have : xs ≠ ys := fun e => by rw [e] at hb; simp at hb
        simp [this]
      · rw [wq] at hb
        exact head_s (i + 1) ⟨⟨by omega, take_next default h2 (by omega) (by omega) (of_decide_eq_true hb)⟩, by omega⟩ (by rw [wrap64 (by omega) (by omega)]; rfl) rfl
      · refine sh_s ?_
        simp [take_done h2 (by omega) (by omega)]
def longT (rs : List Wd) : Bool := decide (4096 < rs.length)
theorem c252 (rs : List Wd) : Con Tryz.prog 252 [roW rs] (undefs [roW rs]) (.bool (longT rs)) := by
  refine Con.ev 6 T_ok mix Tryz.func252 rfl rfl rfl rfl [.tmp 2] rfl ?_
  conv => whnf
  (apply rq_s rfl;conv=>whnf)
  (refine sh_s ?_; ((simp [longT]; omega)))
def rrT (rs : List Wd) : List AV := [roW rs]
def roRRT (rss : List (List Wd)) : AV := .ro [.emp] (rss.map rrT)

theorem c260 (rss : List (List Wd)) : Con Tryz.prog 260 [roRRT rss, .fn 252 []] (undefs [roRRT rss, .fn 252 []]) (.int .i64 (findI longT rss)) := by
  refine Con.evF 19 T_ok mix Tryz.func260 rfl rfl rfl rfl [.tmp 4] rfl fun ⟨hx, _⟩ => ?_
  have hx := facts_len hx
  conv => whnf
  rotate_left
  refine LoopG.rounds (α := Nat) T_ok mix [0, 1, 7, 8] [] (fun i => [(0, roRRT rss), (1, .fn 252 []), (7, .int .i64 rss.length), (8, .int .i64 i)]) (fun _ => []) (fun i => i ≤ rss.length ∧ ∀ j, j < i → longT (rss.getD j default) = false) (fun i => rss.length - i) ?_ ?_
  · conv => whnf
    exact head_s 0 ⟨by simp, fun j hj => by omega⟩ (by simp [roRRT]) rfl
  · rintro i ⟨h1, h2⟩ - -
    conv => whnf
    (refine br_s ?_ ?_ <;> intro hb <;> (try simp only [cln] at hb) <;> conv=>whnf)
    (apply rq_s rfl;conv=>whnf)
    (refine rq_s (by refine and_s rfl ?_; simp only [lnm]; omega) ?_;conv=>whnf)
    (refine row_s (by ((try simp only [Int.toNat_natCast]); exact row_map rrT _ _ _ default (by first | omega | (simp; omega)))) ?_;conv=>whnf)
    (apply rq_s rfl;conv=>whnf)
    (apply lend_s;conv=>whnf)
    (apply rows_s rfl;conv=>whnf)
    (refine call_s (c252 ..) ?_;conv=>whnf)
    (refine br_s ?_ ?_ <;> intro hb <;> (try simp only [cln] at hb) <;> conv=>whnf)
    (apply rq_s rfl;conv=>whnf)
    iterate 2 (rotate_left)
    (apply rq_s rfl;conv=>whnf)
    rotate_left
    · refine sh_s ?_
      rw [findI_hit default (by assumption) hb h2]
    · refine head_s (i + 1) ⟨⟨by omega, fun j hj => ?_⟩, by omega⟩ (by rw [wrap64 (by omega) (by omega)]; rfl) rfl
      by_cases hji : j = i
      · subst hji; exact hb
      · exact h2 j (by omega)
    · refine sh_s ?_
      rw [findI_none default fun j hj => h2 j (by omega)]
theorem c251 (rss : List (List Wd)) : Con Tryz.prog 251 [roRRT rss, .fn 252 []] (undefs [roRRT rss, .fn 252 []]) (.bool (rss.any longT)) := by
  refine Con.ev 9 T_ok mix Tryz.func251 rfl rfl rfl rfl [.tmp 4] rfl ?_
  conv => whnf
  iterate 2 (apply rq_s rfl;conv=>whnf)
  (apply lend_s;conv=>whnf)
  (apply rows_s rfl;conv=>whnf)
  (refine call_s (c260 ..) ?_;conv=>whnf)
  (refine fac_s (fun hf => ?_);conv=>whnf)
  (apply rq_s rfl;conv=>whnf)
  (refine sh_s ?_; ((rw [← findI_any])))
theorem c226 (rs : List Wd) : Con Tryz.prog 226 [.ro [.emp] [[roW rs]]] (undefs [.ro [.emp] [[roW rs]]]) (.bool (decide (4096 < rs.length))) := by
  have e : (.bool (decide (4096 < rs.length)) : AV) = .bool ([rs].any longT) := by simp [longT]
  rw [e]
  show Con Tryz.prog 226 [roRRT [rs]] (undefs [roRRT [rs]]) _
  refine Con.ev 5 T_ok mix Tryz.func226 rfl rfl rfl rfl [.tmp 2] rfl ?_
  conv => whnf
  iterate 2 (apply rq_s rfl;conv=>whnf)
  (apply lend_s;conv=>whnf)
  (apply rows_s rfl;conv=>whnf)
  (refine call_s (c251 ..) ?_;conv=>whnf)
  (apply rq_s rfl;conv=>whnf)
  (refine sh_s ?_; (rfl))

theorem c168 (xs : List Wd) : Con Tryz.prog 168 [roW xs] (undefs [roW xs]) (.bool (kernSame xs)) := by
  have k1 := eqW (xs.take 83) kernelW
  have k0 := c226 xs
  by_cases h1 : 83 ≤ xs.length
  · have hb1 : decide (((xs.map wdR).length : Int) ≥ 83) = true := by simp; omega
    by_cases h2 : 4096 < xs.length
    · rw [show decide (4096 < xs.length) = true by simpa using h2] at k0
      have hg : (if decide (((xs.map wdR).length : Int) ≥ 83) = true then !true else false) = false := by rw [hb1]; rfl
      have e : kernSame xs = false := by simp [kernSame]; omega
      rw [e]
      refine Con.ev 18 T_ok mix Tryz.func168 rfl rfl rfl rfl [.tmp 2] rfl ?_
      conv => whnf
      iterate 5 (refine ChkS.mk (by kernel_rfl) ?_;conv=>whnf)
      (apply br_t (by assumption);conv=>whnf)
      (refine ChkS.mk (by kernel_rfl) ?_;conv=>whnf)
      (apply br_t (by assumption);conv=>whnf)
      (apply rq_s rfl;conv=>whnf)
      (refine ChkS.mk (by kernel_rfl) ?_;conv=>whnf)
      (apply br_t (by assumption);conv=>whnf)
      (apply rq_s (by simp only [lnm]; done);conv=>whnf)
      (apply rq_s rfl;conv=>whnf)
      (refine rows_s (by ((refine sub_all ?_; simp [List.length_map]; done))) ?_;conv=>whnf)
      (refine call_s (k0 ..) ?_;conv=>whnf)
      (refine ChkS.mk (by kernel_rfl) ?_;conv=>whnf)
      (apply br_t (by assumption);conv=>whnf)
      iterate 3 (refine ChkS.mk (by kernel_rfl) ?_;conv=>whnf)
      (focus (apply br_f (by (simp; done));conv=>whnf))
      (refine ChkS.mk (by kernel_rfl) ?_;conv=>whnf)
      (focus (apply br_f (by (simp; done));conv=>whnf))
      (refine ChkS.mk (by kernel_rfl) ?_;conv=>whnf)
      (focus (apply br_f (by (simp; done));conv=>whnf))
      (refine ChkS.mk (by kernel_rfl) ?_;conv=>whnf)
      (focus (apply br_f (by (simp; done));conv=>whnf))
      (refine ChkS.mk (by kernel_rfl) ?_;conv=>whnf)
      (focus (apply br_f (by (simp; done));conv=>whnf))
      iterate 2 (refine ChkS.mk (by kernel_rfl) ?_;conv=>whnf)
      (apply rq_s rfl;conv=>whnf)
      (refine sh_s ?_; (rfl))
    · rw [show decide (4096 < xs.length) = false by simpa using h2] at k0
      have hg : (if decide (((xs.map wdR).length : Int) ≥ 83) = true then !false else false) = true := by rw [hb1]; rfl
      have e : kernSame xs = decide (xs.take 83 = kernelW) := by simp [kernSame, h1]; omega
      have hs : subA (xs.map wdR) 0 (Int.toNat 83 - 0) = (xs.take 83).map wdR := by simp [subA, List.map_take]
      rw [e]
      refine Con.ev 18 T_ok mix Tryz.func168 rfl rfl rfl rfl [.tmp 2] rfl ?_
      conv => whnf
      iterate 5 (refine ChkS.mk (by kernel_rfl) ?_;conv=>whnf)
      (apply br_t (by assumption);conv=>whnf)
      (refine ChkS.mk (by kernel_rfl) ?_;conv=>whnf)
      (apply br_t (by assumption);conv=>whnf)
      (apply rq_s rfl;conv=>whnf)
      (refine ChkS.mk (by kernel_rfl) ?_;conv=>whnf)
      (apply br_t (by assumption);conv=>whnf)
      (apply rq_s (by simp only [lnm]; done);conv=>whnf)
      (apply rq_s rfl;conv=>whnf)
      (refine rows_s (by ((refine sub_all ?_; simp [List.length_map]; done))) ?_;conv=>whnf)
      (refine call_s (k0 ..) ?_;conv=>whnf)
      (refine ChkS.mk (by kernel_rfl) ?_;conv=>whnf)
      (apply br_t (by assumption);conv=>whnf)
      iterate 3 (refine ChkS.mk (by kernel_rfl) ?_;conv=>whnf)
      (apply br_t (by assumption);conv=>whnf)
      (refine ChkS.mk (by kernel_rfl) ?_;conv=>whnf)
      (apply br_t (by assumption);conv=>whnf)
      (apply rq_s rfl;conv=>whnf)
      (refine rq_s (by refine and_s rfl ?_; simp only [lnm]; omega) ?_;conv=>whnf)
      (apply rq_s rfl;conv=>whnf)
      (refine ChkS.mk (by kernel_rfl) ?_;conv=>whnf)
      (apply br_t (by assumption);conv=>whnf)
      (refine call_s (c227 ..) ?_;conv=>whnf)
      (refine ChkS.mk (by kernel_rfl) ?_;conv=>whnf)
      (apply br_t (by assumption);conv=>whnf)
      (apply rq_s rfl;conv=>whnf)
      (apply rq_s (by simp only [lnm]; done);conv=>whnf)
      (apply rq_s rfl;conv=>whnf)
      (apply rows_s (by (exact sub_map _ _ _ _));conv=>whnf)
      (refine rows_s (by ((refine sub_all ?_; simp [List.length_map]; done))) ?_;conv=>whnf)
      (refine call_s (k1 ..) ?_;conv=>whnf)
      iterate 3 (refine ChkS.mk (by kernel_rfl) ?_;conv=>whnf)
      (refine fac_s (fun hf => ?_);conv=>whnf)
      (apply rq_s rfl;conv=>whnf)
      rotate_left
      exact sh_s (by rw [hb1]; rfl)
  · have hb1 : decide (((xs.map wdR).length : Int) ≥ 83) = false := by simp; omega
    have e : kernSame xs = false := by simp [kernSame]; omega
    rw [e]
    refine Con.ev 18 T_ok mix Tryz.func168 rfl rfl rfl rfl [.tmp 2] rfl ?_
    conv => whnf
    iterate 5 (refine ChkS.mk (by kernel_rfl) ?_;conv=>whnf)
    (apply br_f (by assumption);conv=>whnf)
    (refine ChkS.mk (by kernel_rfl) ?_;conv=>whnf)
    (apply br_f (by assumption);conv=>whnf)
    (refine ChkS.mk (by kernel_rfl) ?_;conv=>whnf)
    (apply br_f (by assumption);conv=>whnf)
    (refine ChkS.mk (by kernel_rfl) ?_;conv=>whnf)
    (apply br_f (by assumption);conv=>whnf)
    (refine ChkS.mk (by kernel_rfl) ?_;conv=>whnf)
    (apply br_f (by assumption);conv=>whnf)
    iterate 2 (refine ChkS.mk (by kernel_rfl) ?_;conv=>whnf)
    (apply br_f rfl;conv=>whnf)
    (refine ChkS.mk (by kernel_rfl) ?_;conv=>whnf)
    (apply br_f rfl;conv=>whnf)
    (refine ChkS.mk (by kernel_rfl) ?_;conv=>whnf)
    (apply br_f rfl;conv=>whnf)
    (refine ChkS.mk (by kernel_rfl) ?_;conv=>whnf)
    (apply br_f rfl;conv=>whnf)
    (refine ChkS.mk (by kernel_rfl) ?_;conv=>whnf)
    (apply br_f rfl;conv=>whnf)
    iterate 2 (refine ChkS.mk (by kernel_rfl) ?_;conv=>whnf)
    (apply rq_s rfl;conv=>whnf)
    (refine sh_s ?_; (rfl))
theorem words_any (xs : List Wd) : xs.any badScript = !xs.all scriptOK := by
  have := all_not_any scriptOK xs
  rw [← this, Bool.not_not]
  rfl

theorem c228 (rs : List (Wd)) : Con Tryz.prog 228 [roW rs, .fn 170 []] (undefs [roW rs, .fn 170 []]) (.int .i64 (findI badScript rs)) := by
  refine Con.evF 19 T_ok mix Tryz.func228 rfl rfl rfl rfl [.tmp 4] rfl fun ⟨hx, _⟩ => ?_
  have hx := facts_len hx
  conv => whnf
  rotate_left
  refine LoopG.rounds (α := Nat) T_ok mix [0, 1, 7, 8] [] (fun i => [(0, roW rs), (1, .fn 170 []), (7, .int .i64 rs.length), (8, .int .i64 i)]) (fun _ => []) (fun i => i ≤ rs.length ∧ ∀ j, j < i → badScript (rs.getD j default) = false) (fun i => rs.length - i) ?_ ?_
  · conv => whnf
    exact head_s 0 ⟨by simp, fun j hj => by omega⟩ (by simp [roW]) rfl
  · rintro i ⟨h1, h2⟩ - -
    conv => whnf
    (refine br_s ?_ ?_ <;> intro hb <;> (try simp only [cln] at hb) <;> conv=>whnf)
    (apply rq_s rfl;conv=>whnf)
    (refine rq_s (by refine and_s rfl ?_; simp only [lnm]; omega) ?_;conv=>whnf)
    (refine row_s (by ((try simp only [Int.toNat_natCast]); exact row_map wdR _ _ _ default (by first | omega | (simp; omega)))) ?_;conv=>whnf)
    iterate 3 (apply rq_s rfl;conv=>whnf)
    (apply lend_s;conv=>whnf)
    (refine call_s (c170 ..) ?_;conv=>whnf)
    (refine br_s ?_ ?_ <;> intro hb <;> (try simp only [cln] at hb) <;> conv=>whnf)
    (apply rq_s rfl;conv=>whnf)
    iterate 2 (rotate_left)
    (apply rq_s rfl;conv=>whnf)
    rotate_left
    · refine sh_s ?_
      rw [findI_hit default (by assumption) hb h2]
    · refine head_s (i + 1) ⟨⟨by omega, fun j hj => ?_⟩, by omega⟩ (by rw [wrap64 (by omega) (by omega)]; rfl) rfl
      by_cases hji : j = i
      · subst hji; exact hb
      · exact h2 j (by omega)
    · refine sh_s ?_
      rw [findI_none default fun j hj => h2 j (by omega)]
theorem c169 (rs : List (Wd)) : Con Tryz.prog 169 [roW rs, .fn 170 []] (undefs [roW rs, .fn 170 []]) (.bool (rs.any badScript)) := by
  refine Con.ev 9 T_ok mix Tryz.func169 rfl rfl rfl rfl [.tmp 4] rfl ?_
  conv => whnf
  iterate 2 (apply rq_s rfl;conv=>whnf)
  (apply lend_s;conv=>whnf)
  (apply rows_s rfl;conv=>whnf)
  (refine call_s (c228 ..) ?_;conv=>whnf)
  (refine fac_s (fun hf => ?_);conv=>whnf)
  (apply rq_s rfl;conv=>whnf)
  (refine sh_s ?_; ((rw [← findI_any])))
theorem wordsBad (xs : List Wd) : Con Tryz.prog 169 [roW xs, .fn 170 []] (undefs [roW xs, .fn 170 []]) (.bool (!xs.all scriptOK)) := words_any xs ▸ c169 xs
theorem kern_len {xs : List Wd} (h : kernSame xs = true) : 83 ≤ xs.length := by
  simp only [kernSame, Bool.and_eq_true, decide_eq_true_eq] at h
  exact h.1.1

theorem c110 (xs : List Wd) : Con Tryz.prog 110 [roW xs] (undefs [roW xs]) (.bool (dictOK xs)) := by
  have hs : subA (xs.map wdR) (Int.toNat 83) ((xs.map wdR).length - Int.toNat 83) = (xs.drop 83).map wdR := by
    simp [subA, List.map_drop, List.take_of_length_le]
  refine Con.ev 16 T_ok mix Tryz.func110 rfl rfl rfl rfl [.tmp 2] rfl ?_
  conv => whnf
  (refine br_s ?_ ?_ <;> intro hb <;> (try simp only [cln] at hb) <;> conv=>whnf)
  (apply br_t rfl;conv=>whnf)
  (apply rq_s rfl;conv=>whnf)
  (apply lend_s;conv=>whnf)
  (apply rows_s rfl;conv=>whnf)
  (refine call_s (c168 ..) ?_;conv=>whnf)
  (refine br_s ?_ ?_ <;> intro hb <;> (try simp only [cln] at hb) <;> conv=>whnf)
  (apply br_t rfl;conv=>whnf)
  (apply rq_s rfl;conv=>whnf)
  (apply rq_s (by (((have h83 := kern_len (by assumption); simp; omega))));conv=>whnf)
  (apply rq_s rfl;conv=>whnf)
  (apply br_t rfl;conv=>whnf)
  iterate 2 (apply rq_s rfl;conv=>whnf)
  (apply lend_s;conv=>whnf)
  (apply rows_s (by (exact hs));conv=>whnf)
  (refine call_s (wordsBad (xs.drop 83) ..) ?_;conv=>whnf)
  (apply br_t rfl;conv=>whnf)
  (apply rq_s rfl;conv=>whnf)
  rotate_left
  iterate 4 (apply br_f rfl;conv=>whnf)
  (apply rq_s rfl;conv=>whnf)
  rotate_left
  iterate 7 (apply br_f rfl;conv=>whnf)
  (apply rq_s rfl;conv=>whnf)
  rotate_left
  · have h103 : xs.length ≤ 103 := by omega
    exact sh_s (by simp [dictOK, hb, h103])
  · exact sh_s (by simp [dictOK, hb])
  · have h103 : ¬ xs.length ≤ 103 := by omega
    exact sh_s (by simp [dictOK, h103])

def sameS (xs : List Wd) : Bool := decide (83 ≤ xs.length) && decide (xs.take 83 = kernelW)
theorem c158 (xs : List Wd) : Con Tryz.prog 158 [roW xs] (undefs [roW xs]) (.bool (sameS xs)) := by
  have h83 := kernelW_len
  refine Con.ev 26 T_ok mix Tryz.func158 rfl rfl rfl rfl [.tmp 2] rfl ?_
  conv => whnf
  (apply lend_s;conv=>whnf)
  (refine call_s (c221 ..) ?_;conv=>whnf)
  (refine fac_s (fun hf => ?_);conv=>whnf)
  (refine br_s ?_ ?_ <;> intro hb <;> (try simp only [cln] at hb) <;> conv=>whnf)
  (apply rq_s rfl;conv=>whnf)
  iterate 2 (rotate_left)
  · exact sh_s (by have : ¬ 83 ≤ xs.length := (by omega); simp [sameS, this])
  refine LoopG.frz 3 ?_
  conv => whnf
  refine LoopG.rounds (α := Nat) T_ok mix [0, 3, 4] [] (fun i => [(0, roW xs), (3, roW kernelW), (4, .int .i64 i)]) (fun _ => []) (fun i => i ≤ 83 ∧ xs.take i = kernelW.take i) (fun i => 83 - i) ?_ ?_
  · conv => whnf
    exact head_s 0 ⟨by simp, by simp⟩ (by simp [roW, subA, List.take_of_length_le]) rfl
  · rintro i ⟨h1, h2⟩ - -
    conv => whnf
    (refine br_s ?_ ?_ <;> intro hb <;> (try simp only [cln] at hb) <;> conv=>whnf)
    iterate 3 (refine ChkS.mk (by kernel_rfl) ?_;conv=>whnf)
    (apply rq_s rfl;conv=>whnf)
    (refine rq_s (by refine and_s rfl ?_; simp only [lnm]; omega) ?_;conv=>whnf)
    (refine ChkS.mk (by kernel_rfl) ?_;conv=>whnf)
    (refine row_s (by ((try simp only [Int.toNat_natCast]); exact row_map wdR _ _ _ default (by first | omega | (simp; omega)))) ?_;conv=>whnf)
    iterate 3 (refine ChkS.mk (by kernel_rfl) ?_;conv=>whnf)
    (apply rq_s rfl;conv=>whnf)
    (refine rq_s (by refine and_s rfl ?_; simp only [lnm]; omega) ?_;conv=>whnf)
    (refine ChkS.mk (by kernel_rfl) ?_;conv=>whnf)
    (refine row_s (by ((try simp only [Int.toNat_natCast]); exact row_map wdR _ _ _ default (by first | omega | (simp; omega)))) ?_;conv=>whnf)
    (refine ChkS.mk (by kernel_rfl) ?_;conv=>whnf)
    (apply rq_s (by simp only [lnm]; done);conv=>whnf)
    (refine ChkS.mk (by kernel_rfl) ?_;conv=>whnf)
    (refine br_s ?_ ?_ <;> intro hb <;> (try simp only [cln] at hb) <;> conv=>whnf)
    (apply rq_s rfl;conv=>whnf)
    iterate 2 (rotate_left)
    (apply rq_s rfl;conv=>whnf)
    rotate_left
    · rw [wq] at hb
      have : xs.take 83 ≠ kernelW := fun e => by
        have hk : xs.getD i default = kernelW.getD i default := by
          rw [← e]; simp [List.getElem?_take, show i < 83 by omega]
        rw [hk] at hb
        simp at hb
      exact sh_s (by simp [sameS, this])
    · rw [wq] at hb
      exact head_s (i + 1) ⟨⟨by omega, take_next default h2 (by omega) (by omega) (of_decide_eq_true hb)⟩, by omega⟩ (by rw [wrap64 (by omega) (by omega)]; rfl) rfl
    · obtain rfl : i = 83 := by omega
      have e : xs.take 83 = kernelW := by rw [h2, ← h83, List.take_length]
      have hl : 83 ≤ xs.length := by omega
      exact sh_s (by simp [sameS, e, hl])
theorem drop_getD (xs : List Wd) (j : Nat) : (xs.drop 83).getD j default = xs.getD (83 + j) default := by simp
theorem dict_same (xs : List Wd) (h : xs.length ≤ 103) : dictOK xs = (sameS xs && (xs.drop 83).all scriptOK) := by
  have h2 : xs.length ≤ 4096 := by omega
  simp [dictOK, kernSame, sameS, h, h2]

theorem c100 (xs : List Wd) : Con Tryz.prog 100 [roW xs] (undefs [roW xs]) (.bool (dictOK xs)) := by
  refine Con.ev 24 T_ok mix Tryz.func100 rfl rfl rfl rfl [.tmp 2] rfl ?_
  conv => whnf
  (refine br_s ?_ ?_ <;> intro hb <;> (try simp only [cln] at hb) <;> conv=>whnf)
  iterate 4 (apply br_t rfl;conv=>whnf)
  (apply rq_s rfl;conv=>whnf)
  rotate_left
  (apply br_f rfl;conv=>whnf)
  (apply rq_s rfl;conv=>whnf)
  (apply lend_s;conv=>whnf)
  (apply rows_s rfl;conv=>whnf)
  (refine call_s (c158 ..) ?_;conv=>whnf)
  (apply br_f rfl;conv=>whnf)
  (refine br_s ?_ ?_ <;> intro hb <;> (try simp only [cln] at hb) <;> conv=>whnf)
  (apply rq_s rfl;conv=>whnf)
  iterate 2 (rotate_left)
  · have h103 : ¬ xs.length ≤ 103 := by omega
    exact sh_s (by simp [dictOK, h103])
  · exact sh_s (by rw [dict_same xs (by omega), hb]; rfl)
  rename_i q103
  have hsm := hb
  have h83 : 83 ≤ xs.length := by simp only [sameS, Bool.and_eq_true, decide_eq_true_eq] at hb; exact hb.1
  refine LoopG.rounds (α := Nat) T_ok mix [0, 3] [] (fun i => [(0, roW xs), (3, .int .i64 i)]) (fun _ => []) (fun i => (83 ≤ i ∧ i ≤ xs.length) ∧ ∀ j, 83 ≤ j → j < i → scriptOK (xs.getD j default) = true) (fun i => xs.length - i) ?_ ?_
  · conv => whnf
    exact head_s 83 ⟨⟨by omega, by omega⟩, fun j h1 h2 => by omega⟩ rfl rfl
  · rintro i ⟨h1, h2⟩ - -
    conv => whnf
    (refine br_s ?_ ?_ <;> intro hb <;> (try simp only [cln] at hb) <;> conv=>whnf)
    (apply rq_s rfl;conv=>whnf)
    (refine rq_s (by refine and_s rfl ?_; simp only [lnm]; omega) ?_;conv=>whnf)
    (refine row_s (by ((try simp only [Int.toNat_natCast]); exact row_map wdR _ _ _ default (by first | omega | (simp; omega)))) ?_;conv=>whnf)
    iterate 3 (apply rq_s rfl;conv=>whnf)
    (apply lend_s;conv=>whnf)
    (refine call_s (c159 ..) ?_;conv=>whnf)
    (refine br_s ?_ ?_ <;> intro hb <;> (try simp only [cln] at hb) <;> conv=>whnf)
    (apply rq_s rfl;conv=>whnf)
    iterate 2 (rotate_left)
    (apply rq_s rfl;conv=>whnf)
    rotate_left
    · have : (xs.drop 83).all scriptOK = false := all_bad (i := i - 83) (by simp; omega) (by rw [drop_getD, show 83 + (i - 83) = i by omega]; exact hb)
      exact sh_s (by rw [dict_same xs (by omega), this, Bool.and_false])
    · refine head_s (i + 1) ⟨⟨⟨by omega, by omega⟩, fun j h3 h4 => ?_⟩, by omega⟩ (by rw [wrap64 (by omega) (by omega)]; rfl) rfl
      by_cases hji : j = i
      · subst hji; exact hb
      · exact h2 j h3 (by omega)
    · have : (xs.drop 83).all scriptOK = true := all_good fun j hj => by
        rw [List.length_drop] at hj
        rw [drop_getD]
        exact h2 (83 + j) (by omega) (by omega)
      exact sh_s (by rw [dict_same xs (by omega), this, hsm]; rfl)
end K4
