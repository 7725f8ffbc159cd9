/- Sizes, copies, comparisons and marks of the data, each with its contract. -/
import Derived.Test.YtdbjklhadnnbdaaProg
import Derived.KernelRfl
import Derived.Test.YtdbjklhadnnbdaaAbsc
set_option linter.unusedVariables false
set_option linter.unusedSimpArgs false
set_option maxRecDepth 100000
open Go Go.Abs Go.Proofs
namespace V1
def T : TT := [(2, TI.mk (UT.int IntKind.i64) 1 8 [AV.int IntKind.i64 0] false),
  (3, TI.mk (UT.int IntKind.i64) 1 8 [AV.int IntKind.i64 0] false),
  (4, TI.mk UT.bool 1 1 [AV.bool false] false),
  (5, TI.mk (UT.int IntKind.u8) 1 1 [AV.int IntKind.u8 0] false),
  (6, TI.mk (UT.int IntKind.u8) 1 1 [AV.int IntKind.u8 0] false),
  (7, TI.mk (UT.struct [(0, 2), (1, 3), (2, 4), (3, 6)]) 4 24 [AV.int IntKind.i64 0, AV.int IntKind.i64 0, AV.bool false, AV.int IntKind.u8 0] true),
  (8, TI.mk (UT.struct [(0, 2), (1, 3), (2, 4), (3, 6)]) 4 24 [AV.int IntKind.i64 0, AV.int IntKind.i64 0, AV.bool false, AV.int IntKind.u8 0] true),
  (9, TI.mk UT.str 1 16 [AV.str []] false),
  (10, TI.mk UT.str 1 16 [AV.str []] false),
  (11, TI.mk UT.str 1 16 [AV.str []] false),
  (12, TI.mk (UT.int IntKind.u64) 1 8 [AV.int IntKind.u64 0] false),
  (13, TI.mk (UT.struct [(0, 9), (1, 12)]) 2 24 [AV.str [], AV.int IntKind.u64 0] false),
  (14, TI.mk (UT.struct [(0, 9), (1, 12)]) 2 24 [AV.str [], AV.int IntKind.u64 0] false),
  (18, TI.mk (UT.struct [(0, 17)]) 1 8 [AV.nilp] false),
  (19, TI.mk (UT.struct [(0, 17)]) 1 8 [AV.nilp] false),
  (21, TI.mk (UT.int IntKind.i32) 1 4 [AV.int IntKind.i32 0] false),
  (22, TI.mk (UT.slice 5) 1 24 [AV.emp] false),
  (23, TI.mk (UT.slice 4) 1 24 [AV.emp] false),
  (24, TI.mk (UT.slice 3) 1 24 [AV.emp] false),
  (25, TI.mk (UT.slice 37) 1 24 [AV.emp] false),
  (26, TI.mk (UT.struct [(0, 23), (1, 24), (2, 24), (3, 3), (4, 25)]) 5 104 [AV.emp, AV.emp, AV.emp, AV.int IntKind.i64 0, AV.emp] true),
  (27, TI.mk (UT.struct [(0, 23), (1, 24), (2, 24), (3, 3), (4, 25)]) 5 104 [AV.emp, AV.emp, AV.emp, AV.int IntKind.i64 0, AV.emp] true),
  (29, TI.mk (UT.struct [(0, 24), (1, 24), (2, 24), (3, 3), (4, 3), (5, 9)]) 6 104 [AV.emp, AV.emp, AV.emp, AV.int IntKind.i64 0, AV.int IntKind.i64 0, AV.str []] true),
  (30, TI.mk (UT.struct [(0, 24), (1, 24), (2, 24), (3, 3), (4, 3), (5, 9)]) 6 104 [AV.emp, AV.emp, AV.emp, AV.int IntKind.i64 0, AV.int IntKind.i64 0, AV.str []] true),
  (36, TI.mk (UT.struct [(0, 3), (1, 3), (2, 3), (3, 3)]) 4 32 [AV.int IntKind.i64 0, AV.int IntKind.i64 0, AV.int IntKind.i64 0, AV.int IntKind.i64 0] true),
  (37, TI.mk (UT.struct [(0, 3), (1, 3), (2, 3), (3, 3)]) 4 32 [AV.int IntKind.i64 0, AV.int IntKind.i64 0, AV.int IntKind.i64 0, AV.int IntKind.i64 0] true),
  (43, TI.mk (UT.slice 88) 1 24 [AV.emp] false),
  (47, TI.mk (UT.slice 86) 1 24 [AV.emp] false),
  (54, TI.mk (UT.slice 130) 1 24 [AV.emp] false),
  (55, TI.mk (UT.struct [(0, 23), (1, 24), (2, 24), (3, 3), (4, 54)]) 5 104 [AV.emp, AV.emp, AV.emp, AV.int IntKind.i64 0, AV.emp] true),
  (56, TI.mk (UT.struct [(0, 23), (1, 24), (2, 24), (3, 3), (4, 54)]) 5 104 [AV.emp, AV.emp, AV.emp, AV.int IntKind.i64 0, AV.emp] true),
  (57, TI.mk (UT.struct [(0, 24), (1, 24), (2, 24), (3, 3), (4, 3), (5, 9)]) 6 104 [AV.emp, AV.emp, AV.emp, AV.int IntKind.i64 0, AV.int IntKind.i64 0, AV.str []] true),
  (85, TI.mk (UT.struct [(0, 3), (1, 3)]) 2 16 [AV.int IntKind.i64 0, AV.int IntKind.i64 0] true),
  (86, TI.mk (UT.struct [(0, 3), (1, 3)]) 2 16 [AV.int IntKind.i64 0, AV.int IntKind.i64 0] true),
  (88, TI.mk (UT.struct [(0, 3), (1, 3)]) 2 16 [AV.int IntKind.i64 0, AV.int IntKind.i64 0] true),
  (103, TI.mk (UT.struct [(0, 22), (1, 3), (2, 3)]) 3 40 [AV.emp, AV.int IntKind.i64 0, AV.int IntKind.i64 0] true),
  (104, TI.mk (UT.struct [(0, 22), (1, 3), (2, 3)]) 3 40 [AV.emp, AV.int IntKind.i64 0, AV.int IntKind.i64 0] true),
  (108, TI.mk (UT.slice 9) 1 24 [AV.emp] false),
  (123, TI.mk (UT.slice 142) 1 24 [AV.emp] false),
  (124, TI.mk (UT.struct [(0, 3), (1, 24), (2, 123)]) 3 56 [AV.int IntKind.i64 0, AV.emp, AV.emp] true),
  (125, TI.mk (UT.struct [(0, 3), (1, 24), (2, 123)]) 3 56 [AV.int IntKind.i64 0, AV.emp, AV.emp] true),
  (130, TI.mk (UT.struct [(0, 3), (1, 3), (2, 3), (3, 3)]) 4 32 [AV.int IntKind.i64 0, AV.int IntKind.i64 0, AV.int IntKind.i64 0, AV.int IntKind.i64 0] true),
  (139, TI.mk (UT.int IntKind.u32) 1 4 [AV.int IntKind.u32 0] false),
  (140, TI.mk (UT.int IntKind.u64) 1 8 [AV.int IntKind.u64 0] false),
  (141, TI.mk (UT.struct [(0, 3), (1, 3)]) 2 16 [AV.int IntKind.i64 0, AV.int IntKind.i64 0] true),
  (142, TI.mk (UT.struct [(0, 3), (1, 3)]) 2 16 [AV.int IntKind.i64 0, AV.int IntKind.i64 0] true),
  (145, TI.mk (UT.slice 148) 1 24 [AV.emp] false),
  (147, TI.mk (UT.struct [(0, 9), (1, 3), (2, 3)]) 3 32 [AV.str [], AV.int IntKind.i64 0, AV.int IntKind.i64 0] true),
  (148, TI.mk (UT.struct [(0, 9), (1, 3), (2, 3)]) 3 32 [AV.str [], AV.int IntKind.i64 0, AV.int IntKind.i64 0] true),
  (149, TI.mk (UT.slice 47) 1 24 [AV.emp] false),
  (157, TI.mk (UT.slice 108) 1 24 [AV.emp] false),
  (160, TI.mk (UT.struct [(0, 17), (1, 17), (2, 17), (3, 9)]) 4 40 [AV.nilp, AV.nilp, AV.nilp, AV.str []] false),
  (161, TI.mk (UT.struct [(0, 17), (1, 17), (2, 17), (3, 9)]) 4 40 [AV.nilp, AV.nilp, AV.nilp, AV.str []] false),
  (162, TI.mk (UT.array 0 16) 0 0 [] false),
  (163, TI.mk (UT.struct [(0, 162)]) 0 0 [] false),
  (164, TI.mk (UT.struct [(0, 162)]) 0 0 [] false),
  (165, TI.mk (UT.int IntKind.u8) 1 1 [AV.int IntKind.u8 0] false),
  (166, TI.mk (UT.int IntKind.u8) 1 1 [AV.int IntKind.u8 0] false),
  (169, TI.mk (UT.int IntKind.i32) 1 4 [AV.int IntKind.i32 0] false),
  (170, TI.mk (UT.int IntKind.i32) 1 4 [AV.int IntKind.i32 0] false),
  (171, TI.mk (UT.struct [(0, 12), (1, 12), (2, 139), (3, 165), (4, 5), (5, 5), (6, 166), (7, 167), (8, 168), (9, 169), (10, 170)]) 11 48 [AV.int IntKind.u64 0, AV.int IntKind.u64 0, AV.int IntKind.u32 0, AV.int IntKind.u8 0, AV.int IntKind.u8 0, AV.int IntKind.u8 0, AV.int IntKind.u8 0, AV.nilfn, AV.nilp, AV.int IntKind.i32 0, AV.int IntKind.i32 0] false),
  (172, TI.mk (UT.struct [(0, 12), (1, 12), (2, 139), (3, 165), (4, 5), (5, 5), (6, 166), (7, 167), (8, 168), (9, 169), (10, 170)]) 11 48 [AV.int IntKind.u64 0, AV.int IntKind.u64 0, AV.int IntKind.u32 0, AV.int IntKind.u8 0, AV.int IntKind.u8 0, AV.int IntKind.u8 0, AV.int IntKind.u8 0, AV.nilfn, AV.nilp, AV.int IntKind.i32 0, AV.int IntKind.i32 0] false)]
theorem T_ok : T.ok Try.prog := TT.ok_cons (by kernel_rfl) <| TT.ok_cons (by kernel_rfl) <| TT.ok_cons (by kernel_rfl) <| TT.ok_cons (by kernel_rfl) <| TT.ok_cons (by kernel_rfl) <| TT.ok_cons (by kernel_rfl) <| TT.ok_cons (by kernel_rfl) <| TT.ok_cons (by kernel_rfl) <| TT.ok_cons (by kernel_rfl) <| TT.ok_cons (by kernel_rfl) <| TT.ok_cons (by kernel_rfl) <| TT.ok_cons (by kernel_rfl) <| TT.ok_cons (by kernel_rfl) <| TT.ok_cons (by kernel_rfl) <| TT.ok_cons (by kernel_rfl) <| TT.ok_cons (by kernel_rfl) <| TT.ok_cons (by kernel_rfl) <| TT.ok_cons (by kernel_rfl) <| TT.ok_cons (by kernel_rfl) <| TT.ok_cons (by kernel_rfl) <| TT.ok_cons (by kernel_rfl) <| TT.ok_cons (by kernel_rfl) <| TT.ok_cons (by kernel_rfl) <| TT.ok_cons (by kernel_rfl) <| TT.ok_cons (by kernel_rfl) <| TT.ok_cons (by kernel_rfl) <| TT.ok_cons (by kernel_rfl) <| TT.ok_cons (by kernel_rfl) <| TT.ok_cons (by kernel_rfl) <| TT.ok_cons (by kernel_rfl) <| TT.ok_cons (by kernel_rfl) <| TT.ok_cons (by kernel_rfl) <| TT.ok_cons (by kernel_rfl) <| TT.ok_cons (by kernel_rfl) <| TT.ok_cons (by kernel_rfl) <| TT.ok_cons (by kernel_rfl) <| TT.ok_cons (by kernel_rfl) <| TT.ok_cons (by kernel_rfl) <| TT.ok_cons (by kernel_rfl) <| TT.ok_cons (by kernel_rfl) <| TT.ok_cons (by kernel_rfl) <| TT.ok_cons (by kernel_rfl) <| TT.ok_cons (by kernel_rfl) <| TT.ok_cons (by kernel_rfl) <| TT.ok_cons (by kernel_rfl) <| TT.ok_cons (by kernel_rfl) <| TT.ok_cons (by kernel_rfl) <| TT.ok_cons (by kernel_rfl) <| TT.ok_cons (by kernel_rfl) <| TT.ok_cons (by kernel_rfl) <| TT.ok_cons (by kernel_rfl) <| TT.ok_cons (by kernel_rfl) <| TT.ok_cons (by kernel_rfl) <| TT.ok_cons (by kernel_rfl) <| TT.ok_cons (by kernel_rfl) <| TT.ok_cons (by kernel_rfl) <| TT.ok_cons (by kernel_rfl) <| TT.ok_cons (by kernel_rfl) <| TT.ok_cons (by kernel_rfl) <| TT.ok_cons (by kernel_rfl) <| TT.ok_cons (by kernel_rfl) <| TT.ok_cons (by kernel_rfl) <| TT.ok_nil

theorem mix : Try.prog.follows .mixedOrders = true := by kernel_rfl

theorem c72 (xs : List Bool) (left : Int) : Con Try.prog 72 [roB xs, .int .i64 left] (undefs [roB xs, .int .i64 left]) (.int .i64 (szN xs.length left)) := by
  refine Con.ev 12 T_ok mix Try.func72 rfl rfl rfl rfl [.tmp 4] rfl ?_
  conv => whnf
  (refine br_s (fun hb => ?_) (fun hb => ?_) <;> (try simp only [beq_iff_eq, bne_iff_ne, ne_eq, decide_eq_true_eq, decide_eq_false_iff_not, Int.not_lt, Int.not_le, Bool.false_eq_true, if_false, if_true, beq_eq_false_iff_ne, bne_eq_false_iff_eq, Bool.not_eq_true', Bool.not_eq_false', Int.ofNat_lt, Int.ofNat_le, Int.ofNat_inj, List.length_map, List.length_nil, List.length_cons] at hb) <;> conv => whnf)
  (refine rq_s (by (rfl)) ?_; conv => whnf)
  (focus (refine sh_s ?_; (first | (simp_all [szN]; done) | (simp_all [szN]; omega))))
  (refine rq_s (by (rfl)) ?_; conv => whnf)
  (focus (refine sh_s ?_; (first | (simp_all [szN]; done) | (simp_all [szN]; omega))))

theorem c75 (rs : List Bool) (h : rs.length ≤ 1048576) : Con Try.prog 75 [roB rs] (undefs [roB rs]) (.own 0 zB (rs.map boolR)) := by
  refine Con.ev 22 T_ok mix Try.func75 rfl rfl rfl rfl [.tmp 2] rfl ?_
  conv => whnf
  iterate 2 (refine rq_s (by (rfl)) ?_; conv => whnf)
  (refine rq_s (by (((simp [maxBytes, AV.plain]; omega)))) ?_; conv => whnf)
  rotate_left
  refine LoopG.rounds (α := Nat) T_ok mix [0, 3, 4] [(7, 7)] (fun i => [(0, roB rs), (3, .ref 7 0 rs.length), (4, .int .i64 i)]) (fun i => [(7, .live ⟨true, 0, zB, cpyR boolR zB rs i⟩)]) (fun i => i ≤ rs.length) (fun i => rs.length - i) ?_ ?_
  · conv => whnf
    exact head_s 0 (by simp) (by simp [roB]) (by simp [cpyR_zero, List.length_map])
  · intro i h1 _ _
    conv => whnf
    (refine br_s (fun hb => ?_) (fun hb => ?_) <;> (try simp only [beq_iff_eq, bne_iff_ne, ne_eq, decide_eq_true_eq, decide_eq_false_iff_not, Int.not_lt, Int.not_le, Bool.false_eq_true, if_false, if_true, beq_eq_false_iff_ne, bne_eq_false_iff_eq, Bool.not_eq_true', Bool.not_eq_false', Int.ofNat_lt, Int.ofNat_le, Int.ofNat_inj, List.length_map, List.length_nil, List.length_cons] at hb) <;> conv => whnf)
    (refine rq_s (by (rfl)) ?_; conv => whnf)
    (refine rq_s (by ((refine and_s rfl ?_; simp only [decide_eq_true_eq, List.length_map]; omega))) ?_; conv => whnf)
    (refine row_s (by ((try simp only [Int.toNat_natCast]); exact row_map boolR _ _ _ default (by first | omega | (simp; omega)))) ?_; conv => whnf)
    (refine rq_s (by (rfl)) ?_; conv => whnf)
    (refine rq_s (by ((simp only [decide_eq_true_eq, List.length_map, mkS_len]; done))) ?_; conv => whnf)
    (refine rq_s (by ((refine and_s rfl ?_; simp only [decide_eq_true_eq, List.length_map]; omega))) ?_; conv => whnf)
    (refine rows_s (by (rfl)) ?_; conv => whnf)
    rotate_left
    (refine rq_s (by ((simp only [decide_eq_true_eq, List.length_map, mkS_len]; done))) ?_; conv => whnf)
    (refine rq_s (by (rfl)) ?_; conv => whnf)
    (refine rows_s (by (rfl)) ?_; conv => whnf)
    rotate_left
    · have hi : i < rs.length := hb
      rotate_left
      refine head_s (i + 1) ⟨by omega, by omega⟩ (by rw [wrap64 (by omega) (by omega)]; rfl) (congrArg (fun r => [(7, MB.live ⟨true, 0, zB, r⟩)]) ?_)
      simp only [Nat.zero_add, Int.toNat_natCast]
      exact cpyR_next default hi rfl rfl
    · obtain rfl : i = rs.length := by omega
      (refine sh_s ?_; (simp [subA, cpyR_all, List.take_of_length_le, List.length_map]))
theorem c78 (xs ys : List Bool) : Con Try.prog 78 [roB xs, roB ys] (undefs [roB xs, roB ys]) (.bool (decide (xs = ys))) := by
  refine Con.evF 26 T_ok mix Try.func78 rfl rfl rfl rfl [.tmp 4] rfl fun ⟨hx, _⟩ => ?_
  have hx := facts_len hx
  conv => whnf
  (refine br_s (fun hb => ?_) (fun hb => ?_) <;> (try simp only [beq_iff_eq, bne_iff_ne, ne_eq, decide_eq_true_eq, decide_eq_false_iff_not, Int.not_lt, Int.not_le, Bool.false_eq_true, if_false, if_true, beq_eq_false_iff_ne, bne_eq_false_iff_eq, Bool.not_eq_true', Bool.not_eq_false', Int.ofNat_lt, Int.ofNat_le, Int.ofNat_inj, List.length_map, List.length_nil, List.length_cons] at hb) <;> conv => whnf)
  (refine rq_s (by (rfl)) ?_; conv => whnf)
  iterate 2 (rotate_left)
  · refine sh_s ?_
    have : xs ≠ ys := fun e => hb (by rw [e])
    simp [this]
  · refine LoopG.rounds (α := Nat) T_ok mix [0, 1, 5] [] (fun i => [(0, roB xs), (1, roB ys), (5, .int .i64 i)]) (fun _ => []) (fun i => i ≤ xs.length ∧ xs.take i = ys.take i) (fun i => xs.length - i) ?_ ?_
    · conv => whnf
      exact head_s 0 ⟨by simp, by simp⟩ rfl rfl
    · rintro i ⟨h1, h2⟩ - -
      conv => whnf
      (refine br_s (fun hb => ?_) (fun hb => ?_) <;> (try simp only [beq_iff_eq, bne_iff_ne, ne_eq, decide_eq_true_eq, decide_eq_false_iff_not, Int.not_lt, Int.not_le, Bool.false_eq_true, if_false, if_true, beq_eq_false_iff_ne, bne_eq_false_iff_eq, Bool.not_eq_true', Bool.not_eq_false', Int.ofNat_lt, Int.ofNat_le, Int.ofNat_inj, List.length_map, List.length_nil, List.length_cons] at hb) <;> conv => whnf)
      iterate 3 (refine ChkS.mk (by kernel_rfl) ?_; conv => whnf)
      (refine rq_s (by (rfl)) ?_; conv => whnf)
      (refine rq_s (by ((refine and_s rfl ?_; simp only [decide_eq_true_eq, List.length_map]; omega))) ?_; conv => whnf)
      (refine ChkS.mk (by kernel_rfl) ?_; conv => whnf)
      (refine row_s (by ((try simp only [Int.toNat_natCast]); exact row_map boolR _ _ _ default (by first | omega | (simp; omega)))) ?_; conv => whnf)
      iterate 3 (refine ChkS.mk (by kernel_rfl) ?_; conv => whnf)
      (refine rq_s (by (rfl)) ?_; conv => whnf)
      (refine rq_s (by ((refine and_s rfl ?_; simp only [decide_eq_true_eq, List.length_map]; omega))) ?_; conv => whnf)
      (refine ChkS.mk (by kernel_rfl) ?_; conv => whnf)
      (refine row_s (by ((try simp only [Int.toNat_natCast]); exact row_map boolR _ _ _ default (by first | omega | (simp; omega)))) ?_; conv => whnf)
      iterate 2 (refine ChkS.mk (by kernel_rfl) ?_; conv => whnf)
      (refine br_s (fun hb => ?_) (fun hb => ?_) <;> (try simp only [beq_iff_eq, bne_iff_ne, ne_eq, decide_eq_true_eq, decide_eq_false_iff_not, Int.not_lt, Int.not_le, Bool.false_eq_true, if_false, if_true, beq_eq_false_iff_ne, bne_eq_false_iff_eq, Bool.not_eq_true', Bool.not_eq_false', Int.ofNat_lt, Int.ofNat_le, Int.ofNat_inj, List.length_map, List.length_nil, List.length_cons] at hb) <;> conv => whnf)
      (refine rq_s (by (rfl)) ?_; conv => whnf)
      iterate 2 (rotate_left)
      (refine rq_s (by (rfl)) ?_; conv => whnf)
      rotate_left
      · refine sh_s ?_
        have : xs ≠ ys := fun e => hb (by rw [e])
        simp [this]
      · exact head_s (i + 1) ⟨⟨by omega, take_next default h2 (by omega) (by omega) hb⟩, by omega⟩ (by rw [wrap64 (by omega) (by omega)]; rfl) rfl
      · refine sh_s ?_
        simp [take_done h2 (by omega) (by omega)]
theorem mr80 (xs : List Bool) (i : Nat) (z : List AV) (y : Bool) (h : i < xs.length) : setRow (xs.map boolR) i 0 z [.bool y] = (xs.set i y).map boolR := by
  simp [setRow, setCells, rowA, List.getD_eq_getElem?_getD, h, boolR, List.map_set]
theorem c80 (xs : List Bool) (k : Int) (h1 : 0 ≤ k) (h2 : k + 1 * xs.length ≤ 1000000000) : Con Try.prog 80 [.own 0 zB (xs.map boolR), .int .i64 k] [.own 0 zB ((mkS mksB 1 xs.length k).map boolR), .undef] (.int .i64 (k + 1 * xs.length)) := by
  refine Con.evM 21 [true, false] [some 500000, none] [500000] rfl rfl rfl T_ok mix Try.func80 rfl rfl rfl rfl [.tmp 4] rfl ?_
  conv => whnf
  rotate_left
  refine LoopG.rounds (α := Nat) T_ok mix [0, 1, 5] [(500000, 500000)] (fun i => [(0, .ref 500000 0 xs.length), (1, .int .i64 (k + 1 * i)), (5, .int .i64 i)]) (fun i => [(500000, .live ⟨true, 0, zB, (mixS mksB 1 xs k i).map boolR⟩)]) (fun i => i ≤ xs.length) (fun i => xs.length - i) ?_ ?_
  · conv => whnf
    exact head_s 0 (by simp) (by simp) (by rw [mixS_zero])
  · intro i hi _ _
    have hlen := mixS_len mksB 1 (k := k) hi
    have e1 : i < xs.length → IntKind.i64.wrap (k + 1 * (i : Int) + 1) = k + 1 * ((i + 1 : Nat) : Int) := fun _ => (wrap64 (by omega) (by omega)).trans (by omega)
    conv => whnf
    (refine br_s (fun hb => ?_) (fun hb => ?_) <;> (try simp only [beq_iff_eq, bne_iff_ne, ne_eq, decide_eq_true_eq, decide_eq_false_iff_not, Int.not_lt, Int.not_le, Bool.false_eq_true, if_false, if_true, beq_eq_false_iff_ne, bne_eq_false_iff_eq, Bool.not_eq_true', Bool.not_eq_false', Int.ofNat_lt, Int.ofNat_le, Int.ofNat_inj, List.length_map, List.length_nil, List.length_cons] at hb) <;> conv => whnf)
    iterate 2 (refine rq_s (by (rfl)) ?_; conv => whnf)
    (refine rq_s (by ((simp only [decide_eq_true_eq, List.length_map, mkS_len]; done))) ?_; conv => whnf)
    (refine rq_s (by ((refine and_s rfl ?_; simp only [decide_eq_true_eq, List.length_map]; omega))) ?_; conv => whnf)
    (refine rows_s (by (rfl)) ?_; conv => whnf)
    rotate_left
    (refine rq_s (by (rfl)) ?_; conv => whnf)
    rotate_left
    · have hi2 : i < xs.length := by assumption
      refine head_s (i + 1) ⟨by omega, by omega⟩ ?_ (congrArg (fun r => [(500000, MB.live ⟨true, 0, zB, r⟩)]) ?_)
      · rw [e1 hi2, wrap64 (n := (i : Int) + 1) (by omega) (by omega)]
        rfl
      · simp only [Nat.zero_add, Int.toNat_natCast]
        exact (mr80 _ i _ (mksB (k + 1 * i)) (by omega)).trans (by rw [← mixS_next mksB 1 hi2])
    · obtain rfl : i = xs.length := by omega
      refine aft_s (by simp [AV.rowsN, hlen]) (by simp [mixS_all]) ?_
      exact sh_s rfl
theorem c82 (xs : List Bool) (k : Int) (h1 : 0 ≤ k) (h2 : k + 1 * xs.length ≤ 1000000000) : Con Try.prog 82 [roB xs, .int .i64 k] (undefs [roB xs, .int .i64 k]) (.int .i64 (heldS mksB 1 xs k)) := by
  refine Con.ev 23 T_ok mix Try.func82 rfl rfl rfl rfl [.tmp 4] rfl ?_
  conv => whnf
  rotate_left
  refine LoopG.rounds (α := Nat) T_ok mix [0, 1, 5] [] (fun i => [(0, roB xs), (1, .int .i64 (k + 1 * i)), (5, .int .i64 i)]) (fun _ => []) (fun i => i ≤ xs.length ∧ xs.take i = mkS mksB 1 i k) (fun i => xs.length - i) ?_ ?_
  · conv => whnf
    exact head_s 0 ⟨by simp, by simp [mkS]⟩ (by simp [roB]) rfl
  · rintro i ⟨hi, ht⟩ - -
    have e1 : i < xs.length → IntKind.i64.wrap (k + 1 * (i : Int) + 1) = k + 1 * ((i + 1 : Nat) : Int) := fun _ => (wrap64 (by omega) (by omega)).trans (by omega)
    conv => whnf
    (refine br_s (fun hb => ?_) (fun hb => ?_) <;> (try simp only [beq_iff_eq, bne_iff_ne, ne_eq, decide_eq_true_eq, decide_eq_false_iff_not, Int.not_lt, Int.not_le, Bool.false_eq_true, if_false, if_true, beq_eq_false_iff_ne, bne_eq_false_iff_eq, Bool.not_eq_true', Bool.not_eq_false', Int.ofNat_lt, Int.ofNat_le, Int.ofNat_inj, List.length_map, List.length_nil, List.length_cons] at hb) <;> conv => whnf)
    (refine rq_s (by (rfl)) ?_; conv => whnf)
    (refine rq_s (by ((refine and_s rfl ?_; simp only [decide_eq_true_eq, List.length_map]; omega))) ?_; conv => whnf)
    (refine row_s (by ((try simp only [Int.toNat_natCast]); exact row_map boolR _ _ _ default (by first | omega | (simp; omega)))) ?_; conv => whnf)
    (refine rq_s (by (rfl)) ?_; conv => whnf)
    (refine br_s (fun hb => ?_) (fun hb => ?_) <;> (try simp only [beq_iff_eq, bne_iff_ne, ne_eq, decide_eq_true_eq, decide_eq_false_iff_not, Int.not_lt, Int.not_le, Bool.false_eq_true, if_false, if_true, beq_eq_false_iff_ne, bne_eq_false_iff_eq, Bool.not_eq_true', Bool.not_eq_false', Int.ofNat_lt, Int.ofNat_le, Int.ofNat_inj, List.length_map, List.length_nil, List.length_cons] at hb) <;> conv => whnf)
    (refine rq_s (by (rfl)) ?_; conv => whnf)
    iterate 2 (rotate_left)
    (refine rq_s (by (rfl)) ?_; conv => whnf)
    rotate_left
    · have hi2 : i < xs.length := by assumption
      exact sh_s (by rw [heldS_bad mksB 1 default hi2 hb])
    · have hi2 : i < xs.length := by assumption
      exact head_s (i + 1) ⟨⟨by omega, heldS_next mksB 1 default hi2 ht hb⟩, by omega⟩ (by rw [e1 hi2, wrap64 (n := (i : Int) + 1) (by omega) (by omega)]; rfl) rfl
    · obtain rfl : i = xs.length := by omega
      exact sh_s (by rw [heldS_done mksB 1 (by omega) hi ht])
theorem c73 (xs : List Int) (left : Int) : Con Try.prog 73 [roI xs, .int .i64 left] (undefs [roI xs, .int .i64 left]) (.int .i64 (szN xs.length left)) := by
  refine Con.ev 12 T_ok mix Try.func73 rfl rfl rfl rfl [.tmp 4] rfl ?_
  conv => whnf
  (refine br_s (fun hb => ?_) (fun hb => ?_) <;> (try simp only [beq_iff_eq, bne_iff_ne, ne_eq, decide_eq_true_eq, decide_eq_false_iff_not, Int.not_lt, Int.not_le, Bool.false_eq_true, if_false, if_true, beq_eq_false_iff_ne, bne_eq_false_iff_eq, Bool.not_eq_true', Bool.not_eq_false', Int.ofNat_lt, Int.ofNat_le, Int.ofNat_inj, List.length_map, List.length_nil, List.length_cons] at hb) <;> conv => whnf)
  (refine rq_s (by (rfl)) ?_; conv => whnf)
  (focus (refine sh_s ?_; (first | (simp_all [szN]; done) | (simp_all [szN]; omega))))
  (refine rq_s (by (rfl)) ?_; conv => whnf)
  (focus (refine sh_s ?_; (first | (simp_all [szN]; done) | (simp_all [szN]; omega))))

theorem c76 (rs : List Int) (h : rs.length ≤ 1048576) : Con Try.prog 76 [roI rs] (undefs [roI rs]) (.own 0 zI (rs.map intR)) := by
  refine Con.ev 22 T_ok mix Try.func76 rfl rfl rfl rfl [.tmp 2] rfl ?_
  conv => whnf
  iterate 2 (refine rq_s (by (rfl)) ?_; conv => whnf)
  (refine rq_s (by (((simp [maxBytes, AV.plain]; omega)))) ?_; conv => whnf)
  rotate_left
  refine LoopG.rounds (α := Nat) T_ok mix [0, 3, 4] [(7, 7)] (fun i => [(0, roI rs), (3, .ref 7 0 rs.length), (4, .int .i64 i)]) (fun i => [(7, .live ⟨true, 0, zI, cpyR intR zI rs i⟩)]) (fun i => i ≤ rs.length) (fun i => rs.length - i) ?_ ?_
  · conv => whnf
    exact head_s 0 (by simp) (by simp [roI]) (by simp [cpyR_zero, List.length_map])
  · intro i h1 _ _
    conv => whnf
    (refine br_s (fun hb => ?_) (fun hb => ?_) <;> (try simp only [beq_iff_eq, bne_iff_ne, ne_eq, decide_eq_true_eq, decide_eq_false_iff_not, Int.not_lt, Int.not_le, Bool.false_eq_true, if_false, if_true, beq_eq_false_iff_ne, bne_eq_false_iff_eq, Bool.not_eq_true', Bool.not_eq_false', Int.ofNat_lt, Int.ofNat_le, Int.ofNat_inj, List.length_map, List.length_nil, List.length_cons] at hb) <;> conv => whnf)
    (refine rq_s (by (rfl)) ?_; conv => whnf)
    (refine rq_s (by ((refine and_s rfl ?_; simp only [decide_eq_true_eq, List.length_map]; omega))) ?_; conv => whnf)
    (refine row_s (by ((try simp only [Int.toNat_natCast]); exact row_map intR _ _ _ default (by first | omega | (simp; omega)))) ?_; conv => whnf)
    (refine rq_s (by (rfl)) ?_; conv => whnf)
    (refine rq_s (by ((simp only [decide_eq_true_eq, List.length_map, mkS_len]; done))) ?_; conv => whnf)
    (refine rq_s (by ((refine and_s rfl ?_; simp only [decide_eq_true_eq, List.length_map]; omega))) ?_; conv => whnf)
    (refine rows_s (by (rfl)) ?_; conv => whnf)
    rotate_left
    (refine rq_s (by ((simp only [decide_eq_true_eq, List.length_map, mkS_len]; done))) ?_; conv => whnf)
    (refine rq_s (by (rfl)) ?_; conv => whnf)
    (refine rows_s (by (rfl)) ?_; conv => whnf)
    rotate_left
    · have hi : i < rs.length := hb
      rotate_left
      refine head_s (i + 1) ⟨by omega, by omega⟩ (by rw [wrap64 (by omega) (by omega)]; rfl) (congrArg (fun r => [(7, MB.live ⟨true, 0, zI, r⟩)]) ?_)
      simp only [Nat.zero_add, Int.toNat_natCast]
      exact cpyR_next default hi rfl rfl
    · obtain rfl : i = rs.length := by omega
      (refine sh_s ?_; (simp [subA, cpyR_all, List.take_of_length_le, List.length_map]))
theorem c20 (xs ys : List Int) : Con Try.prog 20 [roI xs, roI ys] (undefs [roI xs, roI ys]) (.bool (decide (xs = ys))) := by
  refine Con.evF 26 T_ok mix Try.func20 rfl rfl rfl rfl [.tmp 4] rfl fun ⟨hx, _⟩ => ?_
  have hx := facts_len hx
  conv => whnf
  (refine br_s (fun hb => ?_) (fun hb => ?_) <;> (try simp only [beq_iff_eq, bne_iff_ne, ne_eq, decide_eq_true_eq, decide_eq_false_iff_not, Int.not_lt, Int.not_le, Bool.false_eq_true, if_false, if_true, beq_eq_false_iff_ne, bne_eq_false_iff_eq, Bool.not_eq_true', Bool.not_eq_false', Int.ofNat_lt, Int.ofNat_le, Int.ofNat_inj, List.length_map, List.length_nil, List.length_cons] at hb) <;> conv => whnf)
  (refine rq_s (by (rfl)) ?_; conv => whnf)
  iterate 2 (rotate_left)
  · refine sh_s ?_
    have : xs ≠ ys := fun e => hb (by rw [e])
    simp [this]
  · refine LoopG.rounds (α := Nat) T_ok mix [0, 1, 5] [] (fun i => [(0, roI xs), (1, roI ys), (5, .int .i64 i)]) (fun _ => []) (fun i => i ≤ xs.length ∧ xs.take i = ys.take i) (fun i => xs.length - i) ?_ ?_
    · conv => whnf
      exact head_s 0 ⟨by simp, by simp⟩ rfl rfl
    · rintro i ⟨h1, h2⟩ - -
      conv => whnf
      (refine br_s (fun hb => ?_) (fun hb => ?_) <;> (try simp only [beq_iff_eq, bne_iff_ne, ne_eq, decide_eq_true_eq, decide_eq_false_iff_not, Int.not_lt, Int.not_le, Bool.false_eq_true, if_false, if_true, beq_eq_false_iff_ne, bne_eq_false_iff_eq, Bool.not_eq_true', Bool.not_eq_false', Int.ofNat_lt, Int.ofNat_le, Int.ofNat_inj, List.length_map, List.length_nil, List.length_cons] at hb) <;> conv => whnf)
      iterate 3 (refine ChkS.mk (by kernel_rfl) ?_; conv => whnf)
      (refine rq_s (by (rfl)) ?_; conv => whnf)
      (refine rq_s (by ((refine and_s rfl ?_; simp only [decide_eq_true_eq, List.length_map]; omega))) ?_; conv => whnf)
      (refine ChkS.mk (by kernel_rfl) ?_; conv => whnf)
      (refine row_s (by ((try simp only [Int.toNat_natCast]); exact row_map intR _ _ _ default (by first | omega | (simp; omega)))) ?_; conv => whnf)
      iterate 3 (refine ChkS.mk (by kernel_rfl) ?_; conv => whnf)
      (refine rq_s (by (rfl)) ?_; conv => whnf)
      (refine rq_s (by ((refine and_s rfl ?_; simp only [decide_eq_true_eq, List.length_map]; omega))) ?_; conv => whnf)
      (refine ChkS.mk (by kernel_rfl) ?_; conv => whnf)
      (refine row_s (by ((try simp only [Int.toNat_natCast]); exact row_map intR _ _ _ default (by first | omega | (simp; omega)))) ?_; conv => whnf)
      iterate 2 (refine ChkS.mk (by kernel_rfl) ?_; conv => whnf)
      (refine br_s (fun hb => ?_) (fun hb => ?_) <;> (try simp only [beq_iff_eq, bne_iff_ne, ne_eq, decide_eq_true_eq, decide_eq_false_iff_not, Int.not_lt, Int.not_le, Bool.false_eq_true, if_false, if_true, beq_eq_false_iff_ne, bne_eq_false_iff_eq, Bool.not_eq_true', Bool.not_eq_false', Int.ofNat_lt, Int.ofNat_le, Int.ofNat_inj, List.length_map, List.length_nil, List.length_cons] at hb) <;> conv => whnf)
      (refine rq_s (by (rfl)) ?_; conv => whnf)
      iterate 2 (rotate_left)
      (refine rq_s (by (rfl)) ?_; conv => whnf)
      rotate_left
      · refine sh_s ?_
        have : xs ≠ ys := fun e => hb (by rw [e])
        simp [this]
      · exact head_s (i + 1) ⟨⟨by omega, take_next default h2 (by omega) (by omega) hb⟩, by omega⟩ (by rw [wrap64 (by omega) (by omega)]; rfl) rfl
      · refine sh_s ?_
        simp [take_done h2 (by omega) (by omega)]
theorem mr23 (xs : List Int) (i : Nat) (z : List AV) (y : Int) (h : i < xs.length) : setRow (xs.map intR) i 0 z [.int .i64 y] = (xs.set i y).map intR := by
  simp [setRow, setCells, rowA, List.getD_eq_getElem?_getD, h, intR, List.map_set]
theorem c23 (xs : List Int) (k : Int) (h1 : 0 ≤ k) (h2 : k + 1 * xs.length ≤ 1000000000) : Con Try.prog 23 [.own 0 zI (xs.map intR), .int .i64 k] [.own 0 zI ((mkS mksI 1 xs.length k).map intR), .undef] (.int .i64 (k + 1 * xs.length)) := by
  refine Con.evM 19 [true, false] [some 500000, none] [500000] rfl rfl rfl T_ok mix Try.func23 rfl rfl rfl rfl [.tmp 4] rfl ?_
  conv => whnf
  rotate_left
  refine LoopG.rounds (α := Nat) T_ok mix [0, 1, 5] [(500000, 500000)] (fun i => [(0, .ref 500000 0 xs.length), (1, .int .i64 (k + 1 * i)), (5, .int .i64 i)]) (fun i => [(500000, .live ⟨true, 0, zI, (mixS mksI 1 xs k i).map intR⟩)]) (fun i => i ≤ xs.length) (fun i => xs.length - i) ?_ ?_
  · conv => whnf
    exact head_s 0 (by simp) (by simp) (by rw [mixS_zero])
  · intro i hi _ _
    have hlen := mixS_len mksI 1 (k := k) hi
    have e1 : i < xs.length → IntKind.i64.wrap (k + 1 * (i : Int) + 1) = k + 1 * ((i + 1 : Nat) : Int) := fun _ => (wrap64 (by omega) (by omega)).trans (by omega)
    conv => whnf
    (refine br_s (fun hb => ?_) (fun hb => ?_) <;> (try simp only [beq_iff_eq, bne_iff_ne, ne_eq, decide_eq_true_eq, decide_eq_false_iff_not, Int.not_lt, Int.not_le, Bool.false_eq_true, if_false, if_true, beq_eq_false_iff_ne, bne_eq_false_iff_eq, Bool.not_eq_true', Bool.not_eq_false', Int.ofNat_lt, Int.ofNat_le, Int.ofNat_inj, List.length_map, List.length_nil, List.length_cons] at hb) <;> conv => whnf)
    (refine rq_s (by (rfl)) ?_; conv => whnf)
    (refine rq_s (by ((simp only [decide_eq_true_eq, List.length_map, mkS_len]; done))) ?_; conv => whnf)
    (refine rq_s (by ((refine and_s rfl ?_; simp only [decide_eq_true_eq, List.length_map]; omega))) ?_; conv => whnf)
    (refine rows_s (by (rfl)) ?_; conv => whnf)
    rotate_left
    (refine rq_s (by (rfl)) ?_; conv => whnf)
    rotate_left
    · have hi2 : i < xs.length := by assumption
      refine head_s (i + 1) ⟨by omega, by omega⟩ ?_ (congrArg (fun r => [(500000, MB.live ⟨true, 0, zI, r⟩)]) ?_)
      · rw [e1 hi2, wrap64 (n := (i : Int) + 1) (by omega) (by omega)]
        rfl
      · simp only [Nat.zero_add, Int.toNat_natCast]
        exact (mr23 _ i _ (mksI (k + 1 * i)) (by omega)).trans (by rw [← mixS_next mksI 1 hi2])
    · obtain rfl : i = xs.length := by omega
      refine aft_s (by simp [AV.rowsN, hlen]) (by simp [mixS_all]) ?_
      exact sh_s rfl
theorem c24 (xs : List Int) (k : Int) (h1 : 0 ≤ k) (h2 : k + 1 * xs.length ≤ 1000000000) : Con Try.prog 24 [roI xs, .int .i64 k] (undefs [roI xs, .int .i64 k]) (.int .i64 (heldS mksI 1 xs k)) := by
  refine Con.ev 21 T_ok mix Try.func24 rfl rfl rfl rfl [.tmp 4] rfl ?_
  conv => whnf
  rotate_left
  refine LoopG.rounds (α := Nat) T_ok mix [0, 1, 5] [] (fun i => [(0, roI xs), (1, .int .i64 (k + 1 * i)), (5, .int .i64 i)]) (fun _ => []) (fun i => i ≤ xs.length ∧ xs.take i = mkS mksI 1 i k) (fun i => xs.length - i) ?_ ?_
  · conv => whnf
    exact head_s 0 ⟨by simp, by simp [mkS]⟩ (by simp [roI]) rfl
  · rintro i ⟨hi, ht⟩ - -
    have e1 : i < xs.length → IntKind.i64.wrap (k + 1 * (i : Int) + 1) = k + 1 * ((i + 1 : Nat) : Int) := fun _ => (wrap64 (by omega) (by omega)).trans (by omega)
    conv => whnf
    (refine br_s (fun hb => ?_) (fun hb => ?_) <;> (try simp only [beq_iff_eq, bne_iff_ne, ne_eq, decide_eq_true_eq, decide_eq_false_iff_not, Int.not_lt, Int.not_le, Bool.false_eq_true, if_false, if_true, beq_eq_false_iff_ne, bne_eq_false_iff_eq, Bool.not_eq_true', Bool.not_eq_false', Int.ofNat_lt, Int.ofNat_le, Int.ofNat_inj, List.length_map, List.length_nil, List.length_cons] at hb) <;> conv => whnf)
    (refine rq_s (by (rfl)) ?_; conv => whnf)
    (refine rq_s (by ((refine and_s rfl ?_; simp only [decide_eq_true_eq, List.length_map]; omega))) ?_; conv => whnf)
    (refine row_s (by ((try simp only [Int.toNat_natCast]); exact row_map intR _ _ _ default (by first | omega | (simp; omega)))) ?_; conv => whnf)
    (refine br_s (fun hb => ?_) (fun hb => ?_) <;> (try simp only [beq_iff_eq, bne_iff_ne, ne_eq, decide_eq_true_eq, decide_eq_false_iff_not, Int.not_lt, Int.not_le, Bool.false_eq_true, if_false, if_true, beq_eq_false_iff_ne, bne_eq_false_iff_eq, Bool.not_eq_true', Bool.not_eq_false', Int.ofNat_lt, Int.ofNat_le, Int.ofNat_inj, List.length_map, List.length_nil, List.length_cons] at hb) <;> conv => whnf)
    (refine rq_s (by (rfl)) ?_; conv => whnf)
    iterate 2 (rotate_left)
    (refine rq_s (by (rfl)) ?_; conv => whnf)
    rotate_left
    · have hi2 : i < xs.length := by assumption
      exact sh_s (by rw [heldS_bad mksI 1 default hi2 hb])
    · have hi2 : i < xs.length := by assumption
      exact head_s (i + 1) ⟨⟨by omega, heldS_next mksI 1 default hi2 ht hb⟩, by omega⟩ (by rw [e1 hi2, wrap64 (n := (i : Int) + 1) (by omega) (by omega)]; rfl) rfl
    · obtain rfl : i = xs.length := by omega
      exact sh_s (by rw [heldS_done mksI 1 (by omega) hi ht])

theorem c74 (xs : List Deal) (left : Int) : Con Try.prog 74 [roD xs, .int .i64 left] (undefs [roD xs, .int .i64 left]) (.int .i64 (szN xs.length left)) := by
  refine Con.ev 12 T_ok mix Try.func74 rfl rfl rfl rfl [.tmp 4] rfl ?_
  conv => whnf
  (refine br_s (fun hb => ?_) (fun hb => ?_) <;> (try simp only [beq_iff_eq, bne_iff_ne, ne_eq, decide_eq_true_eq, decide_eq_false_iff_not, Int.not_lt, Int.not_le, Bool.false_eq_true, if_false, if_true, beq_eq_false_iff_ne, bne_eq_false_iff_eq, Bool.not_eq_true', Bool.not_eq_false', Int.ofNat_lt, Int.ofNat_le, Int.ofNat_inj, List.length_map, List.length_nil, List.length_cons] at hb) <;> conv => whnf)
  (refine rq_s (by (rfl)) ?_; conv => whnf)
  (focus (refine sh_s ?_; (first | (simp_all [szN]; done) | (simp_all [szN]; omega))))
  (refine rq_s (by (rfl)) ?_; conv => whnf)
  (focus (refine sh_s ?_; (first | (simp_all [szN]; done) | (simp_all [szN]; omega))))

theorem c128 (x : Deal) : Con Try.prog 128 [dealV x] (undefs [dealV x]) (dealV x) := by
  refine Con.ev 17 T_ok mix Try.func128 rfl rfl rfl rfl [.cell 2 37] rfl ?_
  conv => whnf
  iterate 14 (refine rq_s (by (rfl)) ?_; conv => whnf)
  (refine sh_s ?_; (rfl))
theorem c129 (a b : Deal) : Con Try.prog 129 [dealV a, dealV b] (undefs [dealV a, dealV b]) (.bool (decide (a = b))) := by
  refine Con.ev 25 T_ok mix Try.func129 rfl rfl rfl rfl [.tmp 4] rfl ?_
  conv => whnf
  iterate 4 (refine rq_s (by (rfl)) ?_; conv => whnf)
  (refine br_s (fun hb => ?_) (fun hb => ?_) <;> (try simp only [beq_iff_eq, bne_iff_ne, ne_eq, decide_eq_true_eq, decide_eq_false_iff_not, Int.not_lt, Int.not_le, Bool.false_eq_true, if_false, if_true, beq_eq_false_iff_ne, bne_eq_false_iff_eq, Bool.not_eq_true', Bool.not_eq_false', Int.ofNat_lt, Int.ofNat_le, Int.ofNat_inj, List.length_map, List.length_nil, List.length_cons] at hb) <;> conv => whnf)
  (refine rq_s (by (rfl)) ?_; conv => whnf)
  (refine sh_s ?_; ((cases a; cases b; simp_all)))
  iterate 2 (refine rq_s (by (rfl)) ?_; conv => whnf)
  (refine br_s (fun hb => ?_) (fun hb => ?_) <;> (try simp only [beq_iff_eq, bne_iff_ne, ne_eq, decide_eq_true_eq, decide_eq_false_iff_not, Int.not_lt, Int.not_le, Bool.false_eq_true, if_false, if_true, beq_eq_false_iff_ne, bne_eq_false_iff_eq, Bool.not_eq_true', Bool.not_eq_false', Int.ofNat_lt, Int.ofNat_le, Int.ofNat_inj, List.length_map, List.length_nil, List.length_cons] at hb) <;> conv => whnf)
  (refine rq_s (by (rfl)) ?_; conv => whnf)
  (refine sh_s ?_; ((cases a; cases b; simp_all)))
  iterate 2 (refine rq_s (by (rfl)) ?_; conv => whnf)
  (refine br_s (fun hb => ?_) (fun hb => ?_) <;> (try simp only [beq_iff_eq, bne_iff_ne, ne_eq, decide_eq_true_eq, decide_eq_false_iff_not, Int.not_lt, Int.not_le, Bool.false_eq_true, if_false, if_true, beq_eq_false_iff_ne, bne_eq_false_iff_eq, Bool.not_eq_true', Bool.not_eq_false', Int.ofNat_lt, Int.ofNat_le, Int.ofNat_inj, List.length_map, List.length_nil, List.length_cons] at hb) <;> conv => whnf)
  (refine rq_s (by (rfl)) ?_; conv => whnf)
  (refine sh_s ?_; ((cases a; cases b; simp_all)))
  iterate 2 (refine rq_s (by (rfl)) ?_; conv => whnf)
  (refine br_s (fun hb => ?_) (fun hb => ?_) <;> (try simp only [beq_iff_eq, bne_iff_ne, ne_eq, decide_eq_true_eq, decide_eq_false_iff_not, Int.not_lt, Int.not_le, Bool.false_eq_true, if_false, if_true, beq_eq_false_iff_ne, bne_eq_false_iff_eq, Bool.not_eq_true', Bool.not_eq_false', Int.ofNat_lt, Int.ofNat_le, Int.ofNat_inj, List.length_map, List.length_nil, List.length_cons] at hb) <;> conv => whnf)
  (refine rq_s (by (rfl)) ?_; conv => whnf)
  (refine sh_s ?_; ((cases a; cases b; simp_all)))
  (refine rq_s (by (rfl)) ?_; conv => whnf)
  (refine sh_s ?_; ((cases a; cases b; simp_all)))
theorem c77 (rs : List Deal) (h : rs.length ≤ 1048576) : Con Try.prog 77 [roD rs] (undefs [roD rs]) (.own 0 zD (rs.map dealR)) := by
  refine Con.ev 23 T_ok mix Try.func77 rfl rfl rfl rfl [.tmp 2] rfl ?_
  conv => whnf
  iterate 2 (refine rq_s (by (rfl)) ?_; conv => whnf)
  (refine rq_s (by (((simp [maxBytes, AV.plain]; omega)))) ?_; conv => whnf)
  rotate_left
  refine LoopG.rounds (α := Nat) T_ok mix [0, 3, 4] [(7, 7)] (fun i => [(0, roD rs), (3, .ref 7 0 rs.length), (4, .int .i64 i)]) (fun i => [(7, .live ⟨true, 0, zD, cpyR dealR zD rs i⟩)]) (fun i => i ≤ rs.length) (fun i => rs.length - i) ?_ ?_
  · conv => whnf
    exact head_s 0 (by simp) (by simp [roD]) (by simp [cpyR_zero, List.length_map])
  · intro i h1 _ _
    conv => whnf
    (refine br_s (fun hb => ?_) (fun hb => ?_) <;> (try simp only [beq_iff_eq, bne_iff_ne, ne_eq, decide_eq_true_eq, decide_eq_false_iff_not, Int.not_lt, Int.not_le, Bool.false_eq_true, if_false, if_true, beq_eq_false_iff_ne, bne_eq_false_iff_eq, Bool.not_eq_true', Bool.not_eq_false', Int.ofNat_lt, Int.ofNat_le, Int.ofNat_inj, List.length_map, List.length_nil, List.length_cons] at hb) <;> conv => whnf)
    (refine rq_s (by (rfl)) ?_; conv => whnf)
    (refine rq_s (by ((refine and_s rfl ?_; simp only [decide_eq_true_eq, List.length_map]; omega))) ?_; conv => whnf)
    (refine row_s (by ((try simp only [Int.toNat_natCast]); exact row_map dealR _ _ _ default (by first | omega | (simp; omega)))) ?_; conv => whnf)
    iterate 4 (refine rq_s (by (rfl)) ?_; conv => whnf)
    (refine lend_s ?_; conv => whnf)
    rotate_left
    (refine rq_s (by ((simp only [decide_eq_true_eq, List.length_map, mkS_len]; done))) ?_; conv => whnf)
    (refine rq_s (by (rfl)) ?_; conv => whnf)
    (refine rows_s (by (rfl)) ?_; conv => whnf)
    rotate_left
    · have hi : i < rs.length := hb
      (refine call_s (c128 ..) ?_; conv => whnf)
      (refine rq_s (by (rfl)) ?_; conv => whnf)
      (refine rq_s (by ((simp only [decide_eq_true_eq, List.length_map, mkS_len]; done))) ?_; conv => whnf)
      (refine rq_s (by ((refine and_s rfl ?_; simp only [decide_eq_true_eq, List.length_map]; omega))) ?_; conv => whnf)
      (refine rows_s (by (rfl)) ?_; conv => whnf)
      iterate 4 (refine fac_s (fun hf => ?_); conv => whnf)
      rotate_left
      refine head_s (i + 1) ⟨by omega, by omega⟩ (by rw [wrap64 (by omega) (by omega)]; rfl) (congrArg (fun r => [(7, MB.live ⟨true, 0, zD, r⟩)]) ?_)
      simp only [Nat.zero_add, Int.toNat_natCast]
      exact cpyR_next default hi rfl rfl
    · obtain rfl : i = rs.length := by omega
      (refine sh_s ?_; (simp [subA, cpyR_all, List.take_of_length_le, List.length_map]))
theorem c79 (xs ys : List Deal) : Con Try.prog 79 [roD xs, roD ys] (undefs [roD xs, roD ys]) (.bool (decide (xs = ys))) := by
  refine Con.evF 27 T_ok mix Try.func79 rfl rfl rfl rfl [.tmp 4] rfl fun ⟨hx, _⟩ => ?_
  have hx := facts_len hx
  conv => whnf
  (refine br_s (fun hb => ?_) (fun hb => ?_) <;> (try simp only [beq_iff_eq, bne_iff_ne, ne_eq, decide_eq_true_eq, decide_eq_false_iff_not, Int.not_lt, Int.not_le, Bool.false_eq_true, if_false, if_true, beq_eq_false_iff_ne, bne_eq_false_iff_eq, Bool.not_eq_true', Bool.not_eq_false', Int.ofNat_lt, Int.ofNat_le, Int.ofNat_inj, List.length_map, List.length_nil, List.length_cons] at hb) <;> conv => whnf)
  (refine rq_s (by (rfl)) ?_; conv => whnf)
  iterate 2 (rotate_left)
  · refine sh_s ?_
    have : xs ≠ ys := fun e => hb (by rw [e])
    simp [this]
  · refine LoopG.rounds (α := Nat) T_ok mix [0, 1, 5] [] (fun i => [(0, roD xs), (1, roD ys), (5, .int .i64 i)]) (fun _ => []) (fun i => i ≤ xs.length ∧ xs.take i = ys.take i) (fun i => xs.length - i) ?_ ?_
    · conv => whnf
      exact head_s 0 ⟨by simp, by simp⟩ rfl rfl
    · rintro i ⟨h1, h2⟩ - -
      conv => whnf
      (refine br_s (fun hb => ?_) (fun hb => ?_) <;> (try simp only [beq_iff_eq, bne_iff_ne, ne_eq, decide_eq_true_eq, decide_eq_false_iff_not, Int.not_lt, Int.not_le, Bool.false_eq_true, if_false, if_true, beq_eq_false_iff_ne, bne_eq_false_iff_eq, Bool.not_eq_true', Bool.not_eq_false', Int.ofNat_lt, Int.ofNat_le, Int.ofNat_inj, List.length_map, List.length_nil, List.length_cons] at hb) <;> conv => whnf)
      iterate 3 (refine ChkS.mk (by kernel_rfl) ?_; conv => whnf)
      (refine rq_s (by (rfl)) ?_; conv => whnf)
      (refine rq_s (by ((refine and_s rfl ?_; simp only [decide_eq_true_eq, List.length_map]; omega))) ?_; conv => whnf)
      (refine ChkS.mk (by kernel_rfl) ?_; conv => whnf)
      (refine row_s (by ((try simp only [Int.toNat_natCast]); exact row_map dealR _ _ _ default (by first | omega | (simp; omega)))) ?_; conv => whnf)
      iterate 3 (refine ChkS.mk (by kernel_rfl) ?_; conv => whnf)
      (refine rq_s (by (rfl)) ?_; conv => whnf)
      (refine rq_s (by ((refine and_s rfl ?_; simp only [decide_eq_true_eq, List.length_map]; omega))) ?_; conv => whnf)
      (refine ChkS.mk (by kernel_rfl) ?_; conv => whnf)
      (refine row_s (by ((try simp only [Int.toNat_natCast]); exact row_map dealR _ _ _ default (by first | omega | (simp; omega)))) ?_; conv => whnf)
      (refine ChkS.mk (by kernel_rfl) ?_; conv => whnf)
      iterate 8 (refine rq_s (by (rfl)) ?_; conv => whnf)
      (refine call_s (c129 ..) ?_; conv => whnf)
      iterate 2 (refine ChkS.mk (by kernel_rfl) ?_; conv => whnf)
      (refine br_s (fun hb => ?_) (fun hb => ?_) <;> (try simp only [beq_iff_eq, bne_iff_ne, ne_eq, decide_eq_true_eq, decide_eq_false_iff_not, Int.not_lt, Int.not_le, Bool.false_eq_true, if_false, if_true, beq_eq_false_iff_ne, bne_eq_false_iff_eq, Bool.not_eq_true', Bool.not_eq_false', Int.ofNat_lt, Int.ofNat_le, Int.ofNat_inj, List.length_map, List.length_nil, List.length_cons] at hb) <;> conv => whnf)
      (refine rq_s (by (rfl)) ?_; conv => whnf)
      iterate 2 (rotate_left)
      (refine rq_s (by (rfl)) ?_; conv => whnf)
      rotate_left
      · refine sh_s ?_
        have : xs ≠ ys := fun e => hb (by rw [e])
        simp [this]
      · exact head_s (i + 1) ⟨⟨by omega, take_next default h2 (by omega) (by omega) hb⟩, by omega⟩ (by rw [wrap64 (by omega) (by omega)]; rfl) rfl
      · refine sh_s ?_
        simp [take_done h2 (by omega) (by omega)]
theorem mr81 (xs : List Deal) (i : Nat) (z : List AV) (y : Deal) (h : i < xs.length) : setRow (setRow (setRow (setRow (xs.map dealR) i 0 z [.int .i64 y.c]) i 1 z [.int .i64 y.a]) i 2 z [.int .i64 y.b]) i 3 z [.int .i64 y.r] = (xs.set i y).map dealR := by
  simp [setRow, setCells, rowA, List.getD_eq_getElem?_getD, h, dealR, List.map_set]
theorem c81 (xs : List Deal) (k : Int) (h1 : 0 ≤ k) (h2 : k + 4 * xs.length ≤ 1000000000) : Con Try.prog 81 [.own 0 zD (xs.map dealR), .int .i64 k] [.own 0 zD ((mkS mksD 4 xs.length k).map dealR), .undef] (.int .i64 (k + 4 * xs.length)) := by
  refine Con.evM 41 [true, false] [some 500000, none] [500000] rfl rfl rfl T_ok mix Try.func81 rfl rfl rfl rfl [.tmp 4] rfl ?_
  conv => whnf
  rotate_left
  refine LoopG.rounds (α := Nat) T_ok mix [0, 1, 5] [(500000, 500000)] (fun i => [(0, .ref 500000 0 xs.length), (1, .int .i64 (k + 4 * i)), (5, .int .i64 i)]) (fun i => [(500000, .live ⟨true, 0, zD, (mixS mksD 4 xs k i).map dealR⟩)]) (fun i => i ≤ xs.length) (fun i => xs.length - i) ?_ ?_
  · conv => whnf
    exact head_s 0 (by simp) (by simp) (by rw [mixS_zero])
  · intro i hi _ _
    have hlen := mixS_len mksD 4 (k := k) hi
    have e1 : i < xs.length → IntKind.i64.wrap (k + 4 * (i : Int) + 1) = k + 4 * (i : Int) + 1 := fun _ => (wrap64 (by omega) (by omega)).trans (by omega)
    have e2 : i < xs.length → IntKind.i64.wrap (k + 4 * (i : Int) + 1 + 1) = k + 4 * (i : Int) + 2 := fun _ => (wrap64 (by omega) (by omega)).trans (by omega)
    have e3 : i < xs.length → IntKind.i64.wrap (k + 4 * (i : Int) + 2 + 1) = k + 4 * (i : Int) + 3 := fun _ => (wrap64 (by omega) (by omega)).trans (by omega)
    have e4 : i < xs.length → IntKind.i64.wrap (k + 4 * (i : Int) + 3 + 1) = k + 4 * ((i + 1 : Nat) : Int) := fun _ => (wrap64 (by omega) (by omega)).trans (by omega)
    conv => whnf
    (refine br_s (fun hb => ?_) (fun hb => ?_) <;> (try simp only [beq_iff_eq, bne_iff_ne, ne_eq, decide_eq_true_eq, decide_eq_false_iff_not, Int.not_lt, Int.not_le, Bool.false_eq_true, if_false, if_true, beq_eq_false_iff_ne, bne_eq_false_iff_eq, Bool.not_eq_true', Bool.not_eq_false', Int.ofNat_lt, Int.ofNat_le, Int.ofNat_inj, List.length_map, List.length_nil, List.length_cons] at hb) <;> conv => whnf)
    (refine rq_s (by (rfl)) ?_; conv => whnf)
    (refine rq_s (by ((simp only [decide_eq_true_eq, List.length_map, mkS_len]; done))) ?_; conv => whnf)
    (refine rq_s (by ((refine and_s rfl ?_; simp only [decide_eq_true_eq, List.length_map]; omega))) ?_; conv => whnf)
    (refine rq_s (by (rfl)) ?_; conv => whnf)
    (refine rows_s (by (rfl)) ?_; conv => whnf)
    (refine rq_s (by (rfl)) ?_; conv => whnf)
    (refine rq_s (by ((simp only [decide_eq_true_eq, List.length_map, mkS_len]; done))) ?_; conv => whnf)
    (refine rq_s (by ((refine and_s rfl ?_; simp only [decide_eq_true_eq, List.length_map]; omega))) ?_; conv => whnf)
    (refine rq_s (by (rfl)) ?_; conv => whnf)
    (refine rows_s (by (rfl)) ?_; conv => whnf)
    (refine rq_s (by (rfl)) ?_; conv => whnf)
    (refine rq_s (by ((simp only [decide_eq_true_eq, List.length_map, mkS_len]; done))) ?_; conv => whnf)
    (refine rq_s (by ((refine and_s rfl ?_; simp only [decide_eq_true_eq, List.length_map]; omega))) ?_; conv => whnf)
    (refine rq_s (by (rfl)) ?_; conv => whnf)
    (refine rows_s (by (rfl)) ?_; conv => whnf)
    (refine rq_s (by (rfl)) ?_; conv => whnf)
    (refine rq_s (by ((simp only [decide_eq_true_eq, List.length_map, mkS_len]; done))) ?_; conv => whnf)
    (refine rq_s (by ((refine and_s rfl ?_; simp only [decide_eq_true_eq, List.length_map]; omega))) ?_; conv => whnf)
    (refine rq_s (by (rfl)) ?_; conv => whnf)
    (refine rows_s (by (rfl)) ?_; conv => whnf)
    rotate_left
    (refine rq_s (by (rfl)) ?_; conv => whnf)
    rotate_left
    · have hi2 : i < xs.length := by assumption
      refine head_s (i + 1) ⟨by omega, by omega⟩ ?_ (congrArg (fun r => [(500000, MB.live ⟨true, 0, zD, r⟩)]) ?_)
      · rw [e1 hi2, e2 hi2, e3 hi2, e4 hi2, wrap64 (n := (i : Int) + 1) (by omega) (by omega)]
        rfl
      · rw [e1 hi2, e2 hi2, e3 hi2]
        simp only [Nat.zero_add, Int.toNat_natCast]
        exact (mr81 _ i _ (mksD (k + 4 * i)) (by omega)).trans (by rw [← mixS_next mksD 4 hi2])
    · obtain rfl : i = xs.length := by omega
      refine aft_s (by simp [AV.rowsN, hlen]) (by simp [mixS_all]) ?_
      exact sh_s rfl
theorem c83 (xs : List Deal) (k : Int) (h1 : 0 ≤ k) (h2 : k + 4 * xs.length ≤ 1000000000) : Con Try.prog 83 [roD xs, .int .i64 k] (undefs [roD xs, .int .i64 k]) (.int .i64 (heldS mksD 4 xs k)) := by
  refine Con.ev 49 T_ok mix Try.func83 rfl rfl rfl rfl [.tmp 4] rfl ?_
  conv => whnf
  rotate_left
  refine LoopG.rounds (α := Nat) T_ok mix [0, 1, 5] [] (fun i => [(0, roD xs), (1, .int .i64 (k + 4 * i)), (5, .int .i64 i)]) (fun _ => []) (fun i => i ≤ xs.length ∧ xs.take i = mkS mksD 4 i k) (fun i => xs.length - i) ?_ ?_
  · conv => whnf
    exact head_s 0 ⟨by simp, by simp [mkS]⟩ (by simp [roD]) rfl
  · rintro i ⟨hi, ht⟩ - -
    have e1 : i < xs.length → IntKind.i64.wrap (k + 4 * (i : Int) + 1) = k + 4 * (i : Int) + 1 := fun _ => (wrap64 (by omega) (by omega)).trans (by omega)
    have e2 : i < xs.length → IntKind.i64.wrap (k + 4 * (i : Int) + 1 + 1) = k + 4 * (i : Int) + 2 := fun _ => (wrap64 (by omega) (by omega)).trans (by omega)
    have e3 : i < xs.length → IntKind.i64.wrap (k + 4 * (i : Int) + 2 + 1) = k + 4 * (i : Int) + 3 := fun _ => (wrap64 (by omega) (by omega)).trans (by omega)
    have e4 : i < xs.length → IntKind.i64.wrap (k + 4 * (i : Int) + 3 + 1) = k + 4 * ((i + 1 : Nat) : Int) := fun _ => (wrap64 (by omega) (by omega)).trans (by omega)
    conv => whnf
    (refine br_s (fun hb => ?_) (fun hb => ?_) <;> (try simp only [beq_iff_eq, bne_iff_ne, ne_eq, decide_eq_true_eq, decide_eq_false_iff_not, Int.not_lt, Int.not_le, Bool.false_eq_true, if_false, if_true, beq_eq_false_iff_ne, bne_eq_false_iff_eq, Bool.not_eq_true', Bool.not_eq_false', Int.ofNat_lt, Int.ofNat_le, Int.ofNat_inj, List.length_map, List.length_nil, List.length_cons] at hb) <;> conv => whnf)
    (refine rq_s (by (rfl)) ?_; conv => whnf)
    (refine rq_s (by ((refine and_s rfl ?_; simp only [decide_eq_true_eq, List.length_map]; omega))) ?_; conv => whnf)
    (refine rq_s (by (rfl)) ?_; conv => whnf)
    (refine row_s (by ((try simp only [Int.toNat_natCast]); exact row_map dealR _ _ _ default (by first | omega | (simp; omega)))) ?_; conv => whnf)
    (refine br_s (fun hb => ?_) (fun hb => ?_) <;> (try simp only [beq_iff_eq, bne_iff_ne, ne_eq, decide_eq_true_eq, decide_eq_false_iff_not, Int.not_lt, Int.not_le, Bool.false_eq_true, if_false, if_true, beq_eq_false_iff_ne, bne_eq_false_iff_eq, Bool.not_eq_true', Bool.not_eq_false', Int.ofNat_lt, Int.ofNat_le, Int.ofNat_inj, List.length_map, List.length_nil, List.length_cons] at hb) <;> conv => whnf)
    (refine rq_s (by (rfl)) ?_; conv => whnf)
    rotate_left
    (refine rq_s (by (rfl)) ?_; conv => whnf)
    (refine rq_s (by ((refine and_s rfl ?_; simp only [decide_eq_true_eq, List.length_map]; omega))) ?_; conv => whnf)
    (refine rq_s (by (rfl)) ?_; conv => whnf)
    (refine row_s (by ((try simp only [Int.toNat_natCast]); exact row_map dealR _ _ _ default (by first | omega | (simp; omega)))) ?_; conv => whnf)
    (refine br_s (fun hb => ?_) (fun hb => ?_) <;> (try simp only [beq_iff_eq, bne_iff_ne, ne_eq, decide_eq_true_eq, decide_eq_false_iff_not, Int.not_lt, Int.not_le, Bool.false_eq_true, if_false, if_true, beq_eq_false_iff_ne, bne_eq_false_iff_eq, Bool.not_eq_true', Bool.not_eq_false', Int.ofNat_lt, Int.ofNat_le, Int.ofNat_inj, List.length_map, List.length_nil, List.length_cons] at hb) <;> conv => whnf)
    (refine rq_s (by (rfl)) ?_; conv => whnf)
    rotate_left
    (refine rq_s (by (rfl)) ?_; conv => whnf)
    (refine rq_s (by ((refine and_s rfl ?_; simp only [decide_eq_true_eq, List.length_map]; omega))) ?_; conv => whnf)
    (refine rq_s (by (rfl)) ?_; conv => whnf)
    (refine row_s (by ((try simp only [Int.toNat_natCast]); exact row_map dealR _ _ _ default (by first | omega | (simp; omega)))) ?_; conv => whnf)
    (refine br_s (fun hb => ?_) (fun hb => ?_) <;> (try simp only [beq_iff_eq, bne_iff_ne, ne_eq, decide_eq_true_eq, decide_eq_false_iff_not, Int.not_lt, Int.not_le, Bool.false_eq_true, if_false, if_true, beq_eq_false_iff_ne, bne_eq_false_iff_eq, Bool.not_eq_true', Bool.not_eq_false', Int.ofNat_lt, Int.ofNat_le, Int.ofNat_inj, List.length_map, List.length_nil, List.length_cons] at hb) <;> conv => whnf)
    (refine rq_s (by (rfl)) ?_; conv => whnf)
    rotate_left
    (refine rq_s (by (rfl)) ?_; conv => whnf)
    (refine rq_s (by ((refine and_s rfl ?_; simp only [decide_eq_true_eq, List.length_map]; omega))) ?_; conv => whnf)
    (refine rq_s (by (rfl)) ?_; conv => whnf)
    (refine row_s (by ((try simp only [Int.toNat_natCast]); exact row_map dealR _ _ _ default (by first | omega | (simp; omega)))) ?_; conv => whnf)
    (refine br_s (fun hb => ?_) (fun hb => ?_) <;> (try simp only [beq_iff_eq, bne_iff_ne, ne_eq, decide_eq_true_eq, decide_eq_false_iff_not, Int.not_lt, Int.not_le, Bool.false_eq_true, if_false, if_true, beq_eq_false_iff_ne, bne_eq_false_iff_eq, Bool.not_eq_true', Bool.not_eq_false', Int.ofNat_lt, Int.ofNat_le, Int.ofNat_inj, List.length_map, List.length_nil, List.length_cons] at hb) <;> conv => whnf)
    (refine rq_s (by (rfl)) ?_; conv => whnf)
    iterate 2 (rotate_left)
    (refine rq_s (by (rfl)) ?_; conv => whnf)
    rotate_left
    · have hi2 : i < xs.length := by assumption
      exact sh_s (by rw [heldS_bad mksD 4 default hi2 fun e => hb (by rw [e]; rfl)])
    · rename_i hi2 _
      exact sh_s (by rw [heldS_bad mksD 4 default hi2 fun e => hb (by rw [e, e1 hi2]; rfl)])
    · rename_i hi2 _ _
      exact sh_s (by rw [heldS_bad mksD 4 default hi2 fun e => hb (by rw [e, e1 hi2, e2 hi2]; rfl)])
    · rename_i hi2 _ _ _
      exact sh_s (by rw [heldS_bad mksD 4 default hi2 fun e => hb (by rw [e, e1 hi2, e2 hi2, e3 hi2]; rfl)])
    · rename_i hi2 q1 q2 q3
      rw [e1 hi2] at q2
      rw [e1 hi2, e2 hi2] at q3
      rw [e1 hi2, e2 hi2, e3 hi2] at hb
      have h3 : xs.getD i default = mksD (k + 4 * i) := by
        generalize hg : xs.getD i default = y at *
        cases y
        simp only at q1 q2 q3 hb
        simp only [mksD, Deal.mk.injEq]
        exact ⟨q1, q2, q3, hb⟩
      refine head_s (i + 1) ⟨⟨by omega, heldS_next mksD 4 default hi2 ht h3⟩, by omega⟩ (by rw [e1 hi2, e2 hi2, e3 hi2, e4 hi2, wrap64 (n := (i : Int) + 1) (by omega) (by omega)]; rfl) rfl
    · obtain rfl : i = xs.length := by omega
      exact sh_s (by rw [heldS_done mksD 4 (by omega) hi ht])

theorem c16 (xs : List Itm) (left : Int) : Con Try.prog 16 [roT xs, .int .i64 left] (undefs [roT xs, .int .i64 left]) (.int .i64 (szN xs.length left)) := by
  refine Con.ev 12 T_ok mix Try.func16 rfl rfl rfl rfl [.tmp 4] rfl ?_
  conv => whnf
  (refine br_s (fun hb => ?_) (fun hb => ?_) <;> (try simp only [beq_iff_eq, bne_iff_ne, ne_eq, decide_eq_true_eq, decide_eq_false_iff_not, Int.not_lt, Int.not_le, Bool.false_eq_true, if_false, if_true, beq_eq_false_iff_ne, bne_eq_false_iff_eq, Bool.not_eq_true', Bool.not_eq_false', Int.ofNat_lt, Int.ofNat_le, Int.ofNat_inj, List.length_map, List.length_nil, List.length_cons] at hb) <;> conv => whnf)
  (refine rq_s (by (rfl)) ?_; conv => whnf)
  (focus (refine sh_s ?_; (first | (simp_all [szN]; done) | (simp_all [szN]; omega))))
  (refine rq_s (by (rfl)) ?_; conv => whnf)
  (focus (refine sh_s ?_; (first | (simp_all [szN]; done) | (simp_all [szN]; omega))))

theorem c67 (x : Itm) : Con Try.prog 67 [itV x] (undefs [itV x]) (itV x) := by
  refine Con.ev 11 T_ok mix Try.func67 rfl rfl rfl rfl [.cell 2 86] rfl ?_
  conv => whnf
  iterate 8 (refine rq_s (by (rfl)) ?_; conv => whnf)
  (refine sh_s ?_; (rfl))
theorem c71 (a b : Itm) : Con Try.prog 71 [itV a, itV b] (undefs [itV a, itV b]) (.bool (decide (a = b))) := by
  refine Con.ev 15 T_ok mix Try.func71 rfl rfl rfl rfl [.tmp 4] rfl ?_
  conv => whnf
  iterate 4 (refine rq_s (by (rfl)) ?_; conv => whnf)
  (refine br_s (fun hb => ?_) (fun hb => ?_) <;> (try simp only [beq_iff_eq, bne_iff_ne, ne_eq, decide_eq_true_eq, decide_eq_false_iff_not, Int.not_lt, Int.not_le, Bool.false_eq_true, if_false, if_true, beq_eq_false_iff_ne, bne_eq_false_iff_eq, Bool.not_eq_true', Bool.not_eq_false', Int.ofNat_lt, Int.ofNat_le, Int.ofNat_inj, List.length_map, List.length_nil, List.length_cons] at hb) <;> conv => whnf)
  (refine rq_s (by (rfl)) ?_; conv => whnf)
  (refine sh_s ?_; ((cases a; cases b; simp_all)))
  iterate 2 (refine rq_s (by (rfl)) ?_; conv => whnf)
  (refine br_s (fun hb => ?_) (fun hb => ?_) <;> (try simp only [beq_iff_eq, bne_iff_ne, ne_eq, decide_eq_true_eq, decide_eq_false_iff_not, Int.not_lt, Int.not_le, Bool.false_eq_true, if_false, if_true, beq_eq_false_iff_ne, bne_eq_false_iff_eq, Bool.not_eq_true', Bool.not_eq_false', Int.ofNat_lt, Int.ofNat_le, Int.ofNat_inj, List.length_map, List.length_nil, List.length_cons] at hb) <;> conv => whnf)
  (refine rq_s (by (rfl)) ?_; conv => whnf)
  (refine sh_s ?_; ((cases a; cases b; simp_all)))
  (refine rq_s (by (rfl)) ?_; conv => whnf)
  (refine sh_s ?_; ((cases a; cases b; simp_all)))
theorem c18 (rs : List Itm) (h : rs.length ≤ 1048576) : Con Try.prog 18 [roT rs] (undefs [roT rs]) (.own 0 zT (rs.map itR)) := by
  refine Con.ev 23 T_ok mix Try.func18 rfl rfl rfl rfl [.tmp 2] rfl ?_
  conv => whnf
  iterate 2 (refine rq_s (by (rfl)) ?_; conv => whnf)
  (refine rq_s (by (((simp [maxBytes, AV.plain]; omega)))) ?_; conv => whnf)
  rotate_left
  refine LoopG.rounds (α := Nat) T_ok mix [0, 3, 4] [(7, 7)] (fun i => [(0, roT rs), (3, .ref 7 0 rs.length), (4, .int .i64 i)]) (fun i => [(7, .live ⟨true, 0, zT, cpyR itR zT rs i⟩)]) (fun i => i ≤ rs.length) (fun i => rs.length - i) ?_ ?_
  · conv => whnf
    exact head_s 0 (by simp) (by simp [roT]) (by simp [cpyR_zero, List.length_map])
  · intro i h1 _ _
    conv => whnf
    (refine br_s (fun hb => ?_) (fun hb => ?_) <;> (try simp only [beq_iff_eq, bne_iff_ne, ne_eq, decide_eq_true_eq, decide_eq_false_iff_not, Int.not_lt, Int.not_le, Bool.false_eq_true, if_false, if_true, beq_eq_false_iff_ne, bne_eq_false_iff_eq, Bool.not_eq_true', Bool.not_eq_false', Int.ofNat_lt, Int.ofNat_le, Int.ofNat_inj, List.length_map, List.length_nil, List.length_cons] at hb) <;> conv => whnf)
    (refine rq_s (by (rfl)) ?_; conv => whnf)
    (refine rq_s (by ((refine and_s rfl ?_; simp only [decide_eq_true_eq, List.length_map]; omega))) ?_; conv => whnf)
    (refine row_s (by ((try simp only [Int.toNat_natCast]); exact row_map itR _ _ _ default (by first | omega | (simp; omega)))) ?_; conv => whnf)
    iterate 2 (refine rq_s (by (rfl)) ?_; conv => whnf)
    (refine lend_s ?_; conv => whnf)
    rotate_left
    (refine rq_s (by ((simp only [decide_eq_true_eq, List.length_map, mkS_len]; done))) ?_; conv => whnf)
    (refine rq_s (by (rfl)) ?_; conv => whnf)
    (refine rows_s (by (rfl)) ?_; conv => whnf)
    rotate_left
    · have hi : i < rs.length := hb
      (refine call_s (c67 ..) ?_; conv => whnf)
      (refine rq_s (by (rfl)) ?_; conv => whnf)
      (refine rq_s (by ((simp only [decide_eq_true_eq, List.length_map, mkS_len]; done))) ?_; conv => whnf)
      (refine rq_s (by ((refine and_s rfl ?_; simp only [decide_eq_true_eq, List.length_map]; omega))) ?_; conv => whnf)
      (refine rows_s (by (rfl)) ?_; conv => whnf)
      iterate 2 (refine fac_s (fun hf => ?_); conv => whnf)
      rotate_left
      refine head_s (i + 1) ⟨by omega, by omega⟩ (by rw [wrap64 (by omega) (by omega)]; rfl) (congrArg (fun r => [(7, MB.live ⟨true, 0, zT, r⟩)]) ?_)
      simp only [Nat.zero_add, Int.toNat_natCast]
      exact cpyR_next default hi rfl rfl
    · obtain rfl : i = rs.length := by omega
      (refine sh_s ?_; (simp [subA, cpyR_all, List.take_of_length_le, List.length_map]))
theorem c21 (xs ys : List Itm) : Con Try.prog 21 [roT xs, roT ys] (undefs [roT xs, roT ys]) (.bool (decide (xs = ys))) := by
  refine Con.evF 27 T_ok mix Try.func21 rfl rfl rfl rfl [.tmp 4] rfl fun ⟨hx, _⟩ => ?_
  have hx := facts_len hx
  conv => whnf
  (refine br_s (fun hb => ?_) (fun hb => ?_) <;> (try simp only [beq_iff_eq, bne_iff_ne, ne_eq, decide_eq_true_eq, decide_eq_false_iff_not, Int.not_lt, Int.not_le, Bool.false_eq_true, if_false, if_true, beq_eq_false_iff_ne, bne_eq_false_iff_eq, Bool.not_eq_true', Bool.not_eq_false', Int.ofNat_lt, Int.ofNat_le, Int.ofNat_inj, List.length_map, List.length_nil, List.length_cons] at hb) <;> conv => whnf)
  (refine rq_s (by (rfl)) ?_; conv => whnf)
  iterate 2 (rotate_left)
  · refine sh_s ?_
    have : xs ≠ ys := fun e => hb (by rw [e])
    simp [this]
  · refine LoopG.rounds (α := Nat) T_ok mix [0, 1, 5] [] (fun i => [(0, roT xs), (1, roT ys), (5, .int .i64 i)]) (fun _ => []) (fun i => i ≤ xs.length ∧ xs.take i = ys.take i) (fun i => xs.length - i) ?_ ?_
    · conv => whnf
      exact head_s 0 ⟨by simp, by simp⟩ rfl rfl
    · rintro i ⟨h1, h2⟩ - -
      conv => whnf
      (refine br_s (fun hb => ?_) (fun hb => ?_) <;> (try simp only [beq_iff_eq, bne_iff_ne, ne_eq, decide_eq_true_eq, decide_eq_false_iff_not, Int.not_lt, Int.not_le, Bool.false_eq_true, if_false, if_true, beq_eq_false_iff_ne, bne_eq_false_iff_eq, Bool.not_eq_true', Bool.not_eq_false', Int.ofNat_lt, Int.ofNat_le, Int.ofNat_inj, List.length_map, List.length_nil, List.length_cons] at hb) <;> conv => whnf)
      iterate 3 (refine ChkS.mk (by kernel_rfl) ?_; conv => whnf)
      (refine rq_s (by (rfl)) ?_; conv => whnf)
      (refine rq_s (by ((refine and_s rfl ?_; simp only [decide_eq_true_eq, List.length_map]; omega))) ?_; conv => whnf)
      (refine ChkS.mk (by kernel_rfl) ?_; conv => whnf)
      (refine row_s (by ((try simp only [Int.toNat_natCast]); exact row_map itR _ _ _ default (by first | omega | (simp; omega)))) ?_; conv => whnf)
      iterate 3 (refine ChkS.mk (by kernel_rfl) ?_; conv => whnf)
      (refine rq_s (by (rfl)) ?_; conv => whnf)
      (refine rq_s (by ((refine and_s rfl ?_; simp only [decide_eq_true_eq, List.length_map]; omega))) ?_; conv => whnf)
      (refine ChkS.mk (by kernel_rfl) ?_; conv => whnf)
      (refine row_s (by ((try simp only [Int.toNat_natCast]); exact row_map itR _ _ _ default (by first | omega | (simp; omega)))) ?_; conv => whnf)
      (refine ChkS.mk (by kernel_rfl) ?_; conv => whnf)
      iterate 4 (refine rq_s (by (rfl)) ?_; conv => whnf)
      (refine call_s (c71 ..) ?_; conv => whnf)
      iterate 2 (refine ChkS.mk (by kernel_rfl) ?_; conv => whnf)
      (refine br_s (fun hb => ?_) (fun hb => ?_) <;> (try simp only [beq_iff_eq, bne_iff_ne, ne_eq, decide_eq_true_eq, decide_eq_false_iff_not, Int.not_lt, Int.not_le, Bool.false_eq_true, if_false, if_true, beq_eq_false_iff_ne, bne_eq_false_iff_eq, Bool.not_eq_true', Bool.not_eq_false', Int.ofNat_lt, Int.ofNat_le, Int.ofNat_inj, List.length_map, List.length_nil, List.length_cons] at hb) <;> conv => whnf)
      (refine rq_s (by (rfl)) ?_; conv => whnf)
      iterate 2 (rotate_left)
      (refine rq_s (by (rfl)) ?_; conv => whnf)
      rotate_left
      · refine sh_s ?_
        have : xs ≠ ys := fun e => hb (by rw [e])
        simp [this]
      · exact head_s (i + 1) ⟨⟨by omega, take_next default h2 (by omega) (by omega) hb⟩, by omega⟩ (by rw [wrap64 (by omega) (by omega)]; rfl) rfl
      · refine sh_s ?_
        simp [take_done h2 (by omega) (by omega)]
theorem mr22 (xs : List Itm) (i : Nat) (z : List AV) (y : Itm) (h : i < xs.length) : setRow (setRow (xs.map itR) i 0 z [.int .i64 y.k]) i 1 z [.int .i64 y.v] = (xs.set i y).map itR := by
  simp [setRow, setCells, rowA, List.getD_eq_getElem?_getD, h, itR, List.map_set]
theorem c22 (xs : List Itm) (k : Int) (h1 : 0 ≤ k) (h2 : k + 2 * xs.length ≤ 1000000000) : Con Try.prog 22 [.own 0 zT (xs.map itR), .int .i64 k] [.own 0 zT ((mkS mksT 2 xs.length k).map itR), .undef] (.int .i64 (k + 2 * xs.length)) := by
  refine Con.evM 27 [true, false] [some 500000, none] [500000] rfl rfl rfl T_ok mix Try.func22 rfl rfl rfl rfl [.tmp 4] rfl ?_
  conv => whnf
  rotate_left
  refine LoopG.rounds (α := Nat) T_ok mix [0, 1, 5] [(500000, 500000)] (fun i => [(0, .ref 500000 0 xs.length), (1, .int .i64 (k + 2 * i)), (5, .int .i64 i)]) (fun i => [(500000, .live ⟨true, 0, zT, (mixS mksT 2 xs k i).map itR⟩)]) (fun i => i ≤ xs.length) (fun i => xs.length - i) ?_ ?_
  · conv => whnf
    exact head_s 0 (by simp) (by simp) (by rw [mixS_zero])
  · intro i hi _ _
    have hlen := mixS_len mksT 2 (k := k) hi
    have e1 : i < xs.length → IntKind.i64.wrap (k + 2 * (i : Int) + 1) = k + 2 * (i : Int) + 1 := fun _ => (wrap64 (by omega) (by omega)).trans (by omega)
    have e2 : i < xs.length → IntKind.i64.wrap (k + 2 * (i : Int) + 1 + 1) = k + 2 * ((i + 1 : Nat) : Int) := fun _ => (wrap64 (by omega) (by omega)).trans (by omega)
    conv => whnf
    (refine br_s (fun hb => ?_) (fun hb => ?_) <;> (try simp only [beq_iff_eq, bne_iff_ne, ne_eq, decide_eq_true_eq, decide_eq_false_iff_not, Int.not_lt, Int.not_le, Bool.false_eq_true, if_false, if_true, beq_eq_false_iff_ne, bne_eq_false_iff_eq, Bool.not_eq_true', Bool.not_eq_false', Int.ofNat_lt, Int.ofNat_le, Int.ofNat_inj, List.length_map, List.length_nil, List.length_cons] at hb) <;> conv => whnf)
    (refine rq_s (by (rfl)) ?_; conv => whnf)
    (refine rq_s (by ((simp only [decide_eq_true_eq, List.length_map, mkS_len]; done))) ?_; conv => whnf)
    (refine rq_s (by ((refine and_s rfl ?_; simp only [decide_eq_true_eq, List.length_map]; omega))) ?_; conv => whnf)
    (refine rq_s (by (rfl)) ?_; conv => whnf)
    (refine rows_s (by (rfl)) ?_; conv => whnf)
    (refine rq_s (by (rfl)) ?_; conv => whnf)
    (refine rq_s (by ((simp only [decide_eq_true_eq, List.length_map, mkS_len]; done))) ?_; conv => whnf)
    (refine rq_s (by ((refine and_s rfl ?_; simp only [decide_eq_true_eq, List.length_map]; omega))) ?_; conv => whnf)
    (refine rq_s (by (rfl)) ?_; conv => whnf)
    (refine rows_s (by (rfl)) ?_; conv => whnf)
    rotate_left
    (refine rq_s (by (rfl)) ?_; conv => whnf)
    rotate_left
    · have hi2 : i < xs.length := by assumption
      refine head_s (i + 1) ⟨by omega, by omega⟩ ?_ (congrArg (fun r => [(500000, MB.live ⟨true, 0, zT, r⟩)]) ?_)
      · rw [e1 hi2, e2 hi2, wrap64 (n := (i : Int) + 1) (by omega) (by omega)]
        rfl
      · rw [e1 hi2]
        simp only [Nat.zero_add, Int.toNat_natCast]
        exact (mr22 _ i _ (mksT (k + 2 * i)) (by omega)).trans (by rw [← mixS_next mksT 2 hi2])
    · obtain rfl : i = xs.length := by omega
      refine aft_s (by simp [AV.rowsN, hlen]) (by simp [mixS_all]) ?_
      exact sh_s rfl


def smallData (d : Dat) : Prop := d.st.length ≤ 1048576 ∧ d.bk.length ≤ 1048576 ∧ d.ce.length ≤ 1048576 ∧ d.ou.length ≤ 1048576
def szData (d : Dat) (l : Int) : Int := szC (szN d.st.length l) (fun l => szC (szN d.bk.length l) (fun l => szC (szN d.ce.length l) (fun l => szC (szN d.ou.length l) id)))
theorem c26 (d : Dat) (left : Int) : Con Try.prog 26 [datV d, .int .i64 left] (undefs [datV d, .int .i64 left]) (.int .i64 (szData d left)) := by
  refine Con.ev 31 T_ok mix Try.func26 rfl rfl rfl rfl [.tmp 4] rfl ?_
  conv => whnf
  iterate 4 (refine rq_s (by (rfl)) ?_; conv => whnf)
  (refine lend_s ?_; conv => whnf)
  (refine rows_s (by (rfl)) ?_; conv => whnf)
  (refine call_s (c73 ..) ?_; conv => whnf)
  (refine fac_s (fun hf => ?_); conv => whnf)
  (refine br_s (fun hb => ?_) (fun hb => ?_) <;> (try simp only [beq_iff_eq, bne_iff_ne, ne_eq, decide_eq_true_eq, decide_eq_false_iff_not, Int.not_lt, Int.not_le, Bool.false_eq_true, if_false, if_true, beq_eq_false_iff_ne, bne_eq_false_iff_eq, Bool.not_eq_true', Bool.not_eq_false', Int.ofNat_lt, Int.ofNat_le, Int.ofNat_inj, List.length_map, List.length_nil, List.length_cons] at hb) <;> conv => whnf)
  (refine rq_s (by (rfl)) ?_; conv => whnf)
  (focus (refine sh_s ?_; (first | (simp_all [szData, szC, szN]; done) | (simp_all [szData, szC, szN]; omega))))
  iterate 3 (refine rq_s (by (rfl)) ?_; conv => whnf)
  (refine lend_s ?_; conv => whnf)
  (refine rows_s (by (rfl)) ?_; conv => whnf)
  (refine call_s (c73 ..) ?_; conv => whnf)
  (refine fac_s (fun hf => ?_); conv => whnf)
  (refine br_s (fun hb => ?_) (fun hb => ?_) <;> (try simp only [beq_iff_eq, bne_iff_ne, ne_eq, decide_eq_true_eq, decide_eq_false_iff_not, Int.not_lt, Int.not_le, Bool.false_eq_true, if_false, if_true, beq_eq_false_iff_ne, bne_eq_false_iff_eq, Bool.not_eq_true', Bool.not_eq_false', Int.ofNat_lt, Int.ofNat_le, Int.ofNat_inj, List.length_map, List.length_nil, List.length_cons] at hb) <;> conv => whnf)
  (refine rq_s (by (rfl)) ?_; conv => whnf)
  (focus (refine sh_s ?_; (first | (simp_all [szData, szC, szN]; done) | (simp_all [szData, szC, szN]; omega))))
  iterate 3 (refine rq_s (by (rfl)) ?_; conv => whnf)
  (refine lend_s ?_; conv => whnf)
  (refine rows_s (by (rfl)) ?_; conv => whnf)
  (refine call_s (c73 ..) ?_; conv => whnf)
  (refine fac_s (fun hf => ?_); conv => whnf)
  (refine br_s (fun hb => ?_) (fun hb => ?_) <;> (try simp only [beq_iff_eq, bne_iff_ne, ne_eq, decide_eq_true_eq, decide_eq_false_iff_not, Int.not_lt, Int.not_le, Bool.false_eq_true, if_false, if_true, beq_eq_false_iff_ne, bne_eq_false_iff_eq, Bool.not_eq_true', Bool.not_eq_false', Int.ofNat_lt, Int.ofNat_le, Int.ofNat_inj, List.length_map, List.length_nil, List.length_cons] at hb) <;> conv => whnf)
  (refine rq_s (by (rfl)) ?_; conv => whnf)
  (focus (refine sh_s ?_; (first | (simp_all [szData, szC, szN]; done) | (simp_all [szData, szC, szN]; omega))))
  (refine rq_s (by (rfl)) ?_; conv => whnf)
  (refine br_s (fun hb => ?_) (fun hb => ?_) <;> (try simp only [beq_iff_eq, bne_iff_ne, ne_eq, decide_eq_true_eq, decide_eq_false_iff_not, Int.not_lt, Int.not_le, Bool.false_eq_true, if_false, if_true, beq_eq_false_iff_ne, bne_eq_false_iff_eq, Bool.not_eq_true', Bool.not_eq_false', Int.ofNat_lt, Int.ofNat_le, Int.ofNat_inj, List.length_map, List.length_nil, List.length_cons] at hb) <;> conv => whnf)
  (refine rq_s (by (rfl)) ?_; conv => whnf)
  (focus (refine sh_s ?_; (first | (simp_all [szData, szC, szN]; done) | (simp_all [szData, szC, szN]; omega))))
  (refine rq_s (by (rfl)) ?_; conv => whnf)
  (focus (refine sh_s ?_; (first | (simp_all [szData, szC, szN]; done) | (simp_all [szData, szC, szN]; omega))))
theorem smallData_of {d : Dat} {l : Int} (h1 : 0 ≤ l) (h2 : l ≤ 1048576) (hl0 : d.st.length ≤ 9223372036854775807) (hl1 : d.bk.length ≤ 9223372036854775807) (hl2 : d.ce.length ≤ 9223372036854775807) (hl5 : d.ou.length ≤ 9223372036854775807) (e : 0 ≤ szData d l) : szData d l ≤ l ∧ smallData d := by
  unfold szData at e ⊢
  obtain ⟨a0, e, q0⟩ := szC_step e
  have k0 := szN_le (h1) (h2) hl0 a0
  obtain ⟨a1, e, q1⟩ := szC_step e
  have k1 := szN_le (by omega) (by omega) hl1 a1
  obtain ⟨a2, e, q2⟩ := szC_step e
  have k2 := szN_le (by omega) (by omega) hl2 a2
  obtain ⟨a5, e, q5⟩ := szC_step e
  have k5 := szN_le (by omega) (by omega) hl5 a5
  try simp only [id] at *
  refine ⟨by rw [q0, q1, q2, q5]; (try simp only [id]); omega, k0.2, k1.2, k2.2, k5.2⟩
theorem c28 (d : Dat) (hs : smallData d) : Con Try.prog 28 [datV d] (undefs [datV d]) (datO d) := by
  refine Con.ev 26 T_ok mix Try.func28 rfl rfl rfl rfl [.cell 2 30] rfl ?_
  conv => whnf
  iterate 3 (refine rq_s (by (rfl)) ?_; conv => whnf)
  (refine lend_s ?_; conv => whnf)
  (refine rows_s (by (rfl)) ?_; conv => whnf)
  (refine call_s (c76 _ hs.1) ?_; conv => whnf)
  (refine rq_s (by (rfl)) ?_; conv => whnf)
  (refine fac_s (fun hf => ?_); conv => whnf)
  iterate 2 (refine rq_s (by (rfl)) ?_; conv => whnf)
  (refine lend_s ?_; conv => whnf)
  (refine rows_s (by (rfl)) ?_; conv => whnf)
  (refine call_s (c76 _ hs.2.1) ?_; conv => whnf)
  (refine rq_s (by (rfl)) ?_; conv => whnf)
  (refine fac_s (fun hf => ?_); conv => whnf)
  iterate 2 (refine rq_s (by (rfl)) ?_; conv => whnf)
  (refine lend_s ?_; conv => whnf)
  (refine rows_s (by (rfl)) ?_; conv => whnf)
  (refine call_s (c76 _ hs.2.2.1) ?_; conv => whnf)
  (refine rq_s (by (rfl)) ?_; conv => whnf)
  (refine fac_s (fun hf => ?_); conv => whnf)
  iterate 7 (refine rq_s (by (rfl)) ?_; conv => whnf)
  (refine rq_s (by ((simp only [decide_eq_true_eq, List.length_map, mkS_len, ownI, ownB, ownD, ownW, ownT, ownC, ownS]; done))) ?_; conv => whnf)
  (refine rq_s (by (rfl)) ?_; conv => whnf)
  (refine rq_s (by ((simp only [decide_eq_true_eq, List.length_map, mkS_len, ownI, ownB, ownD, ownW, ownT, ownC, ownS]; done))) ?_; conv => whnf)
  (refine rq_s (by (rfl)) ?_; conv => whnf)
  (refine rq_s (by ((simp only [decide_eq_true_eq, List.length_map, mkS_len, ownI, ownB, ownD, ownW, ownT, ownC, ownS]; done))) ?_; conv => whnf)
  iterate 4 (refine rq_s (by (rfl)) ?_; conv => whnf)
  iterate 3 (refine rows_s (by ((refine sub_all ?_; simp [List.length_map, mkS_len, ownI, ownB, ownD, ownW, ownT, ownC, ownS]; done))) ?_; conv => whnf)
  (refine sh_s ?_; (rfl))
theorem c30 (a b : Dat) : Con Try.prog 30 [datV a, datV b] (undefs [datV a, datV b]) (.bool (decide (a = b))) := by
  refine Con.ev 38 T_ok mix Try.func30 rfl rfl rfl rfl [.tmp 4] rfl ?_
  conv => whnf
  iterate 6 (refine rq_s (by (rfl)) ?_; conv => whnf)
  (refine lend_s ?_; conv => whnf)
  iterate 2 (refine rows_s (by (rfl)) ?_; conv => whnf)
  (refine call_s (c20 ..) ?_; conv => whnf)
  (refine br_s (fun hb => ?_) (fun hb => ?_) <;> (try simp only [beq_iff_eq, bne_iff_ne, ne_eq, decide_eq_true_eq, decide_eq_false_iff_not, Int.not_lt, Int.not_le, Bool.false_eq_true, if_false, if_true, beq_eq_false_iff_ne, bne_eq_false_iff_eq, Bool.not_eq_true', Bool.not_eq_false', Int.ofNat_lt, Int.ofNat_le, Int.ofNat_inj, List.length_map, List.length_nil, List.length_cons] at hb) <;> conv => whnf)
  (refine rq_s (by (rfl)) ?_; conv => whnf)
  (refine sh_s ?_; ((cases a; cases b; simp_all)))
  iterate 4 (refine rq_s (by (rfl)) ?_; conv => whnf)
  (refine lend_s ?_; conv => whnf)
  iterate 2 (refine rows_s (by (rfl)) ?_; conv => whnf)
  (refine call_s (c20 ..) ?_; conv => whnf)
  (refine br_s (fun hb => ?_) (fun hb => ?_) <;> (try simp only [beq_iff_eq, bne_iff_ne, ne_eq, decide_eq_true_eq, decide_eq_false_iff_not, Int.not_lt, Int.not_le, Bool.false_eq_true, if_false, if_true, beq_eq_false_iff_ne, bne_eq_false_iff_eq, Bool.not_eq_true', Bool.not_eq_false', Int.ofNat_lt, Int.ofNat_le, Int.ofNat_inj, List.length_map, List.length_nil, List.length_cons] at hb) <;> conv => whnf)
  (refine rq_s (by (rfl)) ?_; conv => whnf)
  (refine sh_s ?_; ((cases a; cases b; simp_all)))
  iterate 4 (refine rq_s (by (rfl)) ?_; conv => whnf)
  (refine lend_s ?_; conv => whnf)
  iterate 2 (refine rows_s (by (rfl)) ?_; conv => whnf)
  (refine call_s (c20 ..) ?_; conv => whnf)
  (refine br_s (fun hb => ?_) (fun hb => ?_) <;> (try simp only [beq_iff_eq, bne_iff_ne, ne_eq, decide_eq_true_eq, decide_eq_false_iff_not, Int.not_lt, Int.not_le, Bool.false_eq_true, if_false, if_true, beq_eq_false_iff_ne, bne_eq_false_iff_eq, Bool.not_eq_true', Bool.not_eq_false', Int.ofNat_lt, Int.ofNat_le, Int.ofNat_inj, List.length_map, List.length_nil, List.length_cons] at hb) <;> conv => whnf)
  (refine rq_s (by (rfl)) ?_; conv => whnf)
  (refine sh_s ?_; ((cases a; cases b; simp_all)))
  iterate 2 (refine rq_s (by (rfl)) ?_; conv => whnf)
  (refine br_s (fun hb => ?_) (fun hb => ?_) <;> (try simp only [beq_iff_eq, bne_iff_ne, ne_eq, decide_eq_true_eq, decide_eq_false_iff_not, Int.not_lt, Int.not_le, Bool.false_eq_true, if_false, if_true, beq_eq_false_iff_ne, bne_eq_false_iff_eq, Bool.not_eq_true', Bool.not_eq_false', Int.ofNat_lt, Int.ofNat_le, Int.ofNat_inj, List.length_map, List.length_nil, List.length_cons] at hb) <;> conv => whnf)
  (refine rq_s (by (rfl)) ?_; conv => whnf)
  (refine sh_s ?_; ((cases a; cases b; simp_all)))
  iterate 2 (refine rq_s (by (rfl)) ?_; conv => whnf)
  (refine br_s (fun hb => ?_) (fun hb => ?_) <;> (try simp only [beq_iff_eq, bne_iff_ne, ne_eq, decide_eq_true_eq, decide_eq_false_iff_not, Int.not_lt, Int.not_le, Bool.false_eq_true, if_false, if_true, beq_eq_false_iff_ne, bne_eq_false_iff_eq, Bool.not_eq_true', Bool.not_eq_false', Int.ofNat_lt, Int.ofNat_le, Int.ofNat_inj, List.length_map, List.length_nil, List.length_cons] at hb) <;> conv => whnf)
  (refine rq_s (by (rfl)) ?_; conv => whnf)
  (refine sh_s ?_; ((cases a; cases b; simp_all)))
  iterate 2 (refine rq_s (by (rfl)) ?_; conv => whnf)
  (refine br_s (fun hb => ?_) (fun hb => ?_) <;> (try simp only [beq_iff_eq, bne_iff_ne, ne_eq, decide_eq_true_eq, decide_eq_false_iff_not, Int.not_lt, Int.not_le, Bool.false_eq_true, if_false, if_true, beq_eq_false_iff_ne, bne_eq_false_iff_eq, Bool.not_eq_true', Bool.not_eq_false', Int.ofNat_lt, Int.ofNat_le, Int.ofNat_inj, List.length_map, List.length_nil, List.length_cons] at hb) <;> conv => whnf)
  (refine rq_s (by (rfl)) ?_; conv => whnf)
  (refine sh_s ?_; ((cases a; cases b; simp_all)))
  (refine rq_s (by (rfl)) ?_; conv => whnf)
  (refine sh_s ?_; ((cases a; cases b; simp_all)))
def lenData (d : Dat) : Int := 1 * (d.st.length : Int) + 1 * (d.bk.length : Int) + 1 * (d.ce.length : Int)
def mkData (d : Dat) (k : Int) : Dat := ⟨mkS mksI 1 d.st.length (k), mkS mksI 1 d.bk.length (k + 1 * (d.st.length : Int)), mkS mksI 1 d.ce.length (k + 1 * (d.st.length : Int) + 1 * (d.bk.length : Int)), d.he, d.ba, d.ou⟩
theorem c32 (d : Dat) (k : Int) (h1 : 0 ≤ k) (h2 : k + lenData d ≤ 100000000) : Con Try.prog 32 [datO d, .int .i64 k] [.agg [ownI (mkData d k).st, ownI (mkData d k).bk, ownI (mkData d k).ce, .undef, .undef, .undef], .undef] (.int .i64 (k + lenData d)) := by
  unfold lenData at h2
  refine Con.evH 18 [some 500000, some 500001, some 500002, none, none, none] [500000, 500001, 500002] rfl rfl T_ok mix Try.func32 rfl rfl rfl rfl [.tmp 4] rfl ?_
  conv => whnf
  iterate 2 (refine rq_s (by (rfl)) ?_; conv => whnf)
  (refine rq_s (by ((simp only [decide_eq_true_eq, List.length_map, mkS_len, ownI, ownB, ownD, ownW, ownT, ownC, ownS]; done))) ?_; conv => whnf)
  iterate 2 (refine rq_s (by (rfl)) ?_; conv => whnf)
  (refine hand_s 23 0 ?_; conv => whnf)
  (refine rq_s (by ((simp only [decide_eq_true_eq, List.length_map, mkS_len, ownI, ownB, ownD, ownW, ownT, ownC, ownS]; done))) ?_; conv => whnf)
  iterate 2 (refine rq_s (by (rfl)) ?_; conv => whnf)
  (refine rows_s (by (rfl)) ?_; conv => whnf)
  (refine handc_s (f := 23) (j := 0) (c23 _ _ (by omega) (by omega)) (by simp [List.length_map, mkS_len, ownI, ownB, ownD, ownW, ownT, ownC, ownS]) (by rfl) (by rfl) ?_; conv => whnf)
  (refine fac_s (fun hf => ?_); conv => whnf)
  (refine rq_s (by (rfl)) ?_; conv => whnf)
  (refine rq_s (by ((simp only [decide_eq_true_eq, List.length_map, mkS_len, ownI, ownB, ownD, ownW, ownT, ownC, ownS]; done))) ?_; conv => whnf)
  iterate 2 (refine rq_s (by (rfl)) ?_; conv => whnf)
  (refine hand_s 23 0 ?_; conv => whnf)
  (refine rq_s (by ((simp only [decide_eq_true_eq, List.length_map, mkS_len, ownI, ownB, ownD, ownW, ownT, ownC, ownS]; done))) ?_; conv => whnf)
  iterate 2 (refine rq_s (by (rfl)) ?_; conv => whnf)
  (refine rows_s (by (rfl)) ?_; conv => whnf)
  (refine handc_s (f := 23) (j := 0) (c23 _ _ (by omega) (by omega)) (by simp [List.length_map, mkS_len, ownI, ownB, ownD, ownW, ownT, ownC, ownS]) (by rfl) (by rfl) ?_; conv => whnf)
  (refine fac_s (fun hf => ?_); conv => whnf)
  (refine rq_s (by (rfl)) ?_; conv => whnf)
  (refine rq_s (by ((simp only [decide_eq_true_eq, List.length_map, mkS_len, ownI, ownB, ownD, ownW, ownT, ownC, ownS]; done))) ?_; conv => whnf)
  iterate 2 (refine rq_s (by (rfl)) ?_; conv => whnf)
  (refine hand_s 23 0 ?_; conv => whnf)
  (refine rq_s (by ((simp only [decide_eq_true_eq, List.length_map, mkS_len, ownI, ownB, ownD, ownW, ownT, ownC, ownS]; done))) ?_; conv => whnf)
  iterate 2 (refine rq_s (by (rfl)) ?_; conv => whnf)
  (refine rows_s (by (rfl)) ?_; conv => whnf)
  (refine handc_s (f := 23) (j := 0) (c23 _ _ (by omega) (by omega)) (by simp [List.length_map, mkS_len, ownI, ownB, ownD, ownW, ownT, ownC, ownS]) (by rfl) (by rfl) ?_; conv => whnf)
  (refine fac_s (fun hf => ?_); conv => whnf)
  (refine rq_s (by (rfl)) ?_; conv => whnf)
  iterate 3 (focus (refine aft_s (by (simp [AV.rowsN, List.length_map, mkS_len, ownI, ownB, ownD, ownW, ownT, ownC, ownS]; done)) rfl ?_; conv => whnf))
  (refine sh_s ?_; ((simp only [lenData]; congr 1; omega)))
def heldData (d : Dat) (k : Int) : Int := szC (heldS mksI 1 d.st k) (fun l => szC (heldS mksI 1 d.bk l) (fun l => szC (heldS mksI 1 d.ce l) id))
theorem c34 (d : Dat) (k : Int) (h1 : 0 ≤ k) (h2 : k + lenData d ≤ 100000000) : Con Try.prog 34 [datV d, .int .i64 k] (undefs [datV d, .int .i64 k]) (.int .i64 (heldData d k)) := by
  unfold lenData at h2
  have g0 := heldS_le mksI 1 d.st k
  have g1 := heldS_le mksI 1 d.bk (heldS mksI 1 d.st k)
  have g2 := heldS_le mksI 1 d.ce (heldS mksI 1 d.bk (heldS mksI 1 d.st k))
  refine Con.ev 24 T_ok mix Try.func34 rfl rfl rfl rfl [.tmp 4] rfl ?_
  conv => whnf
  iterate 4 (refine rq_s (by (rfl)) ?_; conv => whnf)
  (refine lend_s ?_; conv => whnf)
  (refine rows_s (by (rfl)) ?_; conv => whnf)
  (refine call_s (c24 _ _ (by omega) (by omega)) ?_; conv => whnf)
  (refine fac_s (fun hf => ?_); conv => whnf)
  (refine br_s (fun hb => ?_) (fun hb => ?_) <;> (try simp only [beq_iff_eq, bne_iff_ne, ne_eq, decide_eq_true_eq, decide_eq_false_iff_not, Int.not_lt, Int.not_le, Bool.false_eq_true, if_false, if_true, beq_eq_false_iff_ne, bne_eq_false_iff_eq, Bool.not_eq_true', Bool.not_eq_false', Int.ofNat_lt, Int.ofNat_le, Int.ofNat_inj, List.length_map, List.length_nil, List.length_cons] at hb) <;> conv => whnf)
  (refine rq_s (by (rfl)) ?_; conv => whnf)
  (focus (refine sh_s ?_; (first | (simp_all [heldData, szC]; done) | (simp_all [heldData, szC]; omega))))
  iterate 3 (refine rq_s (by (rfl)) ?_; conv => whnf)
  (refine lend_s ?_; conv => whnf)
  (refine rows_s (by (rfl)) ?_; conv => whnf)
  (refine call_s (c24 _ _ (by omega) (by omega)) ?_; conv => whnf)
  (refine fac_s (fun hf => ?_); conv => whnf)
  (refine br_s (fun hb => ?_) (fun hb => ?_) <;> (try simp only [beq_iff_eq, bne_iff_ne, ne_eq, decide_eq_true_eq, decide_eq_false_iff_not, Int.not_lt, Int.not_le, Bool.false_eq_true, if_false, if_true, beq_eq_false_iff_ne, bne_eq_false_iff_eq, Bool.not_eq_true', Bool.not_eq_false', Int.ofNat_lt, Int.ofNat_le, Int.ofNat_inj, List.length_map, List.length_nil, List.length_cons] at hb) <;> conv => whnf)
  (refine rq_s (by (rfl)) ?_; conv => whnf)
  (focus (refine sh_s ?_; (first | (simp_all [heldData, szC]; done) | (simp_all [heldData, szC]; omega))))
  iterate 3 (refine rq_s (by (rfl)) ?_; conv => whnf)
  (refine lend_s ?_; conv => whnf)
  (refine rows_s (by (rfl)) ?_; conv => whnf)
  (refine call_s (c24 _ _ (by omega) (by omega)) ?_; conv => whnf)
  (refine fac_s (fun hf => ?_); conv => whnf)
  (refine br_s (fun hb => ?_) (fun hb => ?_) <;> (try simp only [beq_iff_eq, bne_iff_ne, ne_eq, decide_eq_true_eq, decide_eq_false_iff_not, Int.not_lt, Int.not_le, Bool.false_eq_true, if_false, if_true, beq_eq_false_iff_ne, bne_eq_false_iff_eq, Bool.not_eq_true', Bool.not_eq_false', Int.ofNat_lt, Int.ofNat_le, Int.ofNat_inj, List.length_map, List.length_nil, List.length_cons] at hb) <;> conv => whnf)
  (refine rq_s (by (rfl)) ?_; conv => whnf)
  (focus (refine sh_s ?_; (first | (simp_all [heldData, szC]; done) | (simp_all [heldData, szC]; omega))))
  (refine rq_s (by (rfl)) ?_; conv => whnf)
  (focus (refine sh_s ?_; (first | (simp_all [heldData, szC]; done) | (simp_all [heldData, szC]; omega))))
theorem heldData_mk (d : Dat) (k : Int) (h1 : 0 ≤ k) : heldData (mkData d k) k = k + lenData d := by
  simp only [heldData, mkData, heldS_mk, szC, id]
  rw [if_neg (by omega), if_neg (by omega), if_neg (by omega)]
  unfold lenData
  omega
theorem lenData_mk (d : Dat) (k : Int) : lenData (mkData d k) = lenData d := by simp [lenData, mkData, mkS_len]
theorem lenData_le {d : Dat} (hs : smallData d) : 0 ≤ lenData d ∧ lenData d ≤ 12000000 := by
  unfold smallData at hs
  unfold lenData
  omega
def smallHost (h : Hst) : Prop := h.gr.length ≤ 1048576 ∧ h.st.length ≤ 1048576 ∧ h.q.length ≤ 1048576 ∧ h.ds.length ≤ 1048576
def szHost (h : Hst) (l : Int) : Int := szC (szN h.gr.length l) (fun l => szC (szN h.st.length l) (fun l => szC (szN h.q.length l) (fun l => szC (szN h.ds.length l) id)))
theorem c25 (h : Hst) (left : Int) : Con Try.prog 25 [hstV h, .int .i64 left] (undefs [hstV h, .int .i64 left]) (.int .i64 (szHost h left)) := by
  refine Con.ev 30 T_ok mix Try.func25 rfl rfl rfl rfl [.tmp 4] rfl ?_
  conv => whnf
  iterate 4 (refine rq_s (by (rfl)) ?_; conv => whnf)
  (refine lend_s ?_; conv => whnf)
  (refine rows_s (by (rfl)) ?_; conv => whnf)
  (refine call_s (c72 ..) ?_; conv => whnf)
  (refine fac_s (fun hf => ?_); conv => whnf)
  (refine br_s (fun hb => ?_) (fun hb => ?_) <;> (try simp only [beq_iff_eq, bne_iff_ne, ne_eq, decide_eq_true_eq, decide_eq_false_iff_not, Int.not_lt, Int.not_le, Bool.false_eq_true, if_false, if_true, beq_eq_false_iff_ne, bne_eq_false_iff_eq, Bool.not_eq_true', Bool.not_eq_false', Int.ofNat_lt, Int.ofNat_le, Int.ofNat_inj, List.length_map, List.length_nil, List.length_cons] at hb) <;> conv => whnf)
  (refine rq_s (by (rfl)) ?_; conv => whnf)
  (focus (refine sh_s ?_; (first | (simp_all [szHost, szC, szN]; done) | (simp_all [szHost, szC, szN]; omega))))
  iterate 3 (refine rq_s (by (rfl)) ?_; conv => whnf)
  (refine lend_s ?_; conv => whnf)
  (refine rows_s (by (rfl)) ?_; conv => whnf)
  (refine call_s (c73 ..) ?_; conv => whnf)
  (refine fac_s (fun hf => ?_); conv => whnf)
  (refine br_s (fun hb => ?_) (fun hb => ?_) <;> (try simp only [beq_iff_eq, bne_iff_ne, ne_eq, decide_eq_true_eq, decide_eq_false_iff_not, Int.not_lt, Int.not_le, Bool.false_eq_true, if_false, if_true, beq_eq_false_iff_ne, bne_eq_false_iff_eq, Bool.not_eq_true', Bool.not_eq_false', Int.ofNat_lt, Int.ofNat_le, Int.ofNat_inj, List.length_map, List.length_nil, List.length_cons] at hb) <;> conv => whnf)
  (refine rq_s (by (rfl)) ?_; conv => whnf)
  (focus (refine sh_s ?_; (first | (simp_all [szHost, szC, szN]; done) | (simp_all [szHost, szC, szN]; omega))))
  iterate 3 (refine rq_s (by (rfl)) ?_; conv => whnf)
  (refine lend_s ?_; conv => whnf)
  (refine rows_s (by (rfl)) ?_; conv => whnf)
  (refine call_s (c73 ..) ?_; conv => whnf)
  (refine fac_s (fun hf => ?_); conv => whnf)
  (refine br_s (fun hb => ?_) (fun hb => ?_) <;> (try simp only [beq_iff_eq, bne_iff_ne, ne_eq, decide_eq_true_eq, decide_eq_false_iff_not, Int.not_lt, Int.not_le, Bool.false_eq_true, if_false, if_true, beq_eq_false_iff_ne, bne_eq_false_iff_eq, Bool.not_eq_true', Bool.not_eq_false', Int.ofNat_lt, Int.ofNat_le, Int.ofNat_inj, List.length_map, List.length_nil, List.length_cons] at hb) <;> conv => whnf)
  (refine rq_s (by (rfl)) ?_; conv => whnf)
  (focus (refine sh_s ?_; (first | (simp_all [szHost, szC, szN]; done) | (simp_all [szHost, szC, szN]; omega))))
  iterate 3 (refine rq_s (by (rfl)) ?_; conv => whnf)
  (refine lend_s ?_; conv => whnf)
  (refine rows_s (by (rfl)) ?_; conv => whnf)
  (refine call_s (c74 ..) ?_; conv => whnf)
  (refine fac_s (fun hf => ?_); conv => whnf)
  (refine br_s (fun hb => ?_) (fun hb => ?_) <;> (try simp only [beq_iff_eq, bne_iff_ne, ne_eq, decide_eq_true_eq, decide_eq_false_iff_not, Int.not_lt, Int.not_le, Bool.false_eq_true, if_false, if_true, beq_eq_false_iff_ne, bne_eq_false_iff_eq, Bool.not_eq_true', Bool.not_eq_false', Int.ofNat_lt, Int.ofNat_le, Int.ofNat_inj, List.length_map, List.length_nil, List.length_cons] at hb) <;> conv => whnf)
  (refine rq_s (by (rfl)) ?_; conv => whnf)
  (focus (refine sh_s ?_; (first | (simp_all [szHost, szC, szN]; done) | (simp_all [szHost, szC, szN]; omega))))
  (refine rq_s (by (rfl)) ?_; conv => whnf)
  (focus (refine sh_s ?_; (first | (simp_all [szHost, szC, szN]; done) | (simp_all [szHost, szC, szN]; omega))))
theorem smallHost_of {h : Hst} {l : Int} (h1 : 0 ≤ l) (h2 : l ≤ 1048576) (hl0 : h.gr.length ≤ 9223372036854775807) (hl1 : h.st.length ≤ 9223372036854775807) (hl2 : h.q.length ≤ 9223372036854775807) (hl4 : h.ds.length ≤ 9223372036854775807) (e : 0 ≤ szHost h l) : szHost h l ≤ l ∧ smallHost h := by
  unfold szHost at e ⊢
  obtain ⟨a0, e, q0⟩ := szC_step e
  have k0 := szN_le (h1) (h2) hl0 a0
  obtain ⟨a1, e, q1⟩ := szC_step e
  have k1 := szN_le (by omega) (by omega) hl1 a1
  obtain ⟨a2, e, q2⟩ := szC_step e
  have k2 := szN_le (by omega) (by omega) hl2 a2
  obtain ⟨a4, e, q4⟩ := szC_step e
  have k4 := szN_le (by omega) (by omega) hl4 a4
  try simp only [id] at *
  refine ⟨by rw [q0, q1, q2, q4]; (try simp only [id]); omega, k0.2, k1.2, k2.2, k4.2⟩
theorem c27 (h : Hst) (hs : smallHost h) : Con Try.prog 27 [hstV h] (undefs [hstV h]) (hstO h) := by
  refine Con.ev 24 T_ok mix Try.func27 rfl rfl rfl rfl [.cell 2 27] rfl ?_
  conv => whnf
  iterate 3 (refine rq_s (by (rfl)) ?_; conv => whnf)
  (refine lend_s ?_; conv => whnf)
  (refine rows_s (by (rfl)) ?_; conv => whnf)
  (refine call_s (c75 _ hs.1) ?_; conv => whnf)
  (refine rq_s (by (rfl)) ?_; conv => whnf)
  (refine fac_s (fun hf => ?_); conv => whnf)
  iterate 2 (refine rq_s (by (rfl)) ?_; conv => whnf)
  (refine lend_s ?_; conv => whnf)
  (refine rows_s (by (rfl)) ?_; conv => whnf)
  (refine call_s (c76 _ hs.2.1) ?_; conv => whnf)
  (refine rq_s (by (rfl)) ?_; conv => whnf)
  (refine fac_s (fun hf => ?_); conv => whnf)
  iterate 2 (refine rq_s (by (rfl)) ?_; conv => whnf)
  (refine lend_s ?_; conv => whnf)
  (refine rows_s (by (rfl)) ?_; conv => whnf)
  (refine call_s (c76 _ hs.2.2.1) ?_; conv => whnf)
  (refine rq_s (by (rfl)) ?_; conv => whnf)
  (refine fac_s (fun hf => ?_); conv => whnf)
  iterate 4 (refine rq_s (by (rfl)) ?_; conv => whnf)
  (refine lend_s ?_; conv => whnf)
  (refine rows_s (by (rfl)) ?_; conv => whnf)
  (refine call_s (c77 _ hs.2.2.2) ?_; conv => whnf)
  (refine rq_s (by (rfl)) ?_; conv => whnf)
  (refine fac_s (fun hf => ?_); conv => whnf)
  (refine rq_s (by (rfl)) ?_; conv => whnf)
  (refine rq_s (by ((simp only [decide_eq_true_eq, List.length_map, mkS_len, ownI, ownB, ownD, ownW, ownT, ownC, ownS]; done))) ?_; conv => whnf)
  (refine rq_s (by (rfl)) ?_; conv => whnf)
  (refine rq_s (by ((simp only [decide_eq_true_eq, List.length_map, mkS_len, ownI, ownB, ownD, ownW, ownT, ownC, ownS]; done))) ?_; conv => whnf)
  (refine rq_s (by (rfl)) ?_; conv => whnf)
  (refine rq_s (by ((simp only [decide_eq_true_eq, List.length_map, mkS_len, ownI, ownB, ownD, ownW, ownT, ownC, ownS]; done))) ?_; conv => whnf)
  iterate 2 (refine rq_s (by (rfl)) ?_; conv => whnf)
  (refine rq_s (by ((simp only [decide_eq_true_eq, List.length_map, mkS_len, ownI, ownB, ownD, ownW, ownT, ownC, ownS]; done))) ?_; conv => whnf)
  (refine rq_s (by (rfl)) ?_; conv => whnf)
  iterate 4 (refine rows_s (by ((refine sub_all ?_; simp [List.length_map, mkS_len, ownI, ownB, ownD, ownW, ownT, ownC, ownS]; done))) ?_; conv => whnf)
  (refine sh_s ?_; (rfl))
theorem c29 (a b : Hst) : Con Try.prog 29 [hstV a, hstV b] (undefs [hstV a, hstV b]) (.bool (decide (a = b))) := by
  refine Con.ev 34 T_ok mix Try.func29 rfl rfl rfl rfl [.tmp 4] rfl ?_
  conv => whnf
  iterate 6 (refine rq_s (by (rfl)) ?_; conv => whnf)
  (refine lend_s ?_; conv => whnf)
  iterate 2 (refine rows_s (by (rfl)) ?_; conv => whnf)
  (refine call_s (c78 ..) ?_; conv => whnf)
  (refine br_s (fun hb => ?_) (fun hb => ?_) <;> (try simp only [beq_iff_eq, bne_iff_ne, ne_eq, decide_eq_true_eq, decide_eq_false_iff_not, Int.not_lt, Int.not_le, Bool.false_eq_true, if_false, if_true, beq_eq_false_iff_ne, bne_eq_false_iff_eq, Bool.not_eq_true', Bool.not_eq_false', Int.ofNat_lt, Int.ofNat_le, Int.ofNat_inj, List.length_map, List.length_nil, List.length_cons] at hb) <;> conv => whnf)
  (refine rq_s (by (rfl)) ?_; conv => whnf)
  (refine sh_s ?_; ((cases a; cases b; simp_all)))
  iterate 4 (refine rq_s (by (rfl)) ?_; conv => whnf)
  (refine lend_s ?_; conv => whnf)
  iterate 2 (refine rows_s (by (rfl)) ?_; conv => whnf)
  (refine call_s (c20 ..) ?_; conv => whnf)
  (refine br_s (fun hb => ?_) (fun hb => ?_) <;> (try simp only [beq_iff_eq, bne_iff_ne, ne_eq, decide_eq_true_eq, decide_eq_false_iff_not, Int.not_lt, Int.not_le, Bool.false_eq_true, if_false, if_true, beq_eq_false_iff_ne, bne_eq_false_iff_eq, Bool.not_eq_true', Bool.not_eq_false', Int.ofNat_lt, Int.ofNat_le, Int.ofNat_inj, List.length_map, List.length_nil, List.length_cons] at hb) <;> conv => whnf)
  (refine rq_s (by (rfl)) ?_; conv => whnf)
  (refine sh_s ?_; ((cases a; cases b; simp_all)))
  iterate 4 (refine rq_s (by (rfl)) ?_; conv => whnf)
  (refine lend_s ?_; conv => whnf)
  iterate 2 (refine rows_s (by (rfl)) ?_; conv => whnf)
  (refine call_s (c20 ..) ?_; conv => whnf)
  (refine br_s (fun hb => ?_) (fun hb => ?_) <;> (try simp only [beq_iff_eq, bne_iff_ne, ne_eq, decide_eq_true_eq, decide_eq_false_iff_not, Int.not_lt, Int.not_le, Bool.false_eq_true, if_false, if_true, beq_eq_false_iff_ne, bne_eq_false_iff_eq, Bool.not_eq_true', Bool.not_eq_false', Int.ofNat_lt, Int.ofNat_le, Int.ofNat_inj, List.length_map, List.length_nil, List.length_cons] at hb) <;> conv => whnf)
  (refine rq_s (by (rfl)) ?_; conv => whnf)
  (refine sh_s ?_; ((cases a; cases b; simp_all)))
  iterate 2 (refine rq_s (by (rfl)) ?_; conv => whnf)
  (refine br_s (fun hb => ?_) (fun hb => ?_) <;> (try simp only [beq_iff_eq, bne_iff_ne, ne_eq, decide_eq_true_eq, decide_eq_false_iff_not, Int.not_lt, Int.not_le, Bool.false_eq_true, if_false, if_true, beq_eq_false_iff_ne, bne_eq_false_iff_eq, Bool.not_eq_true', Bool.not_eq_false', Int.ofNat_lt, Int.ofNat_le, Int.ofNat_inj, List.length_map, List.length_nil, List.length_cons] at hb) <;> conv => whnf)
  (refine rq_s (by (rfl)) ?_; conv => whnf)
  (refine sh_s ?_; ((cases a; cases b; simp_all)))
  iterate 4 (refine rq_s (by (rfl)) ?_; conv => whnf)
  (refine lend_s ?_; conv => whnf)
  iterate 2 (refine rows_s (by (rfl)) ?_; conv => whnf)
  (refine call_s (c79 ..) ?_; conv => whnf)
  (refine br_s (fun hb => ?_) (fun hb => ?_) <;> (try simp only [beq_iff_eq, bne_iff_ne, ne_eq, decide_eq_true_eq, decide_eq_false_iff_not, Int.not_lt, Int.not_le, Bool.false_eq_true, if_false, if_true, beq_eq_false_iff_ne, bne_eq_false_iff_eq, Bool.not_eq_true', Bool.not_eq_false', Int.ofNat_lt, Int.ofNat_le, Int.ofNat_inj, List.length_map, List.length_nil, List.length_cons] at hb) <;> conv => whnf)
  (refine rq_s (by (rfl)) ?_; conv => whnf)
  (refine sh_s ?_; ((cases a; cases b; simp_all)))
  (refine rq_s (by (rfl)) ?_; conv => whnf)
  (refine sh_s ?_; ((cases a; cases b; simp_all)))
def lenHost (h : Hst) : Int := 1 * (h.gr.length : Int) + 1 * (h.st.length : Int) + 1 * (h.q.length : Int) + 4 * (h.ds.length : Int)
def mkHost (h : Hst) (k : Int) : Hst := ⟨mkS mksB 1 h.gr.length (k), mkS mksI 1 h.st.length (k + 1 * (h.gr.length : Int)), mkS mksI 1 h.q.length (k + 1 * (h.gr.length : Int) + 1 * (h.st.length : Int)), h.tk, mkS mksD 4 h.ds.length (k + 1 * (h.gr.length : Int) + 1 * (h.st.length : Int) + 1 * (h.q.length : Int))⟩
theorem c31 (h : Hst) (k : Int) (h1 : 0 ≤ k) (h2 : k + lenHost h ≤ 100000000) : Con Try.prog 31 [hstO h, .int .i64 k] [.agg [ownB (mkHost h k).gr, ownI (mkHost h k).st, ownI (mkHost h k).q, .undef, ownD (mkHost h k).ds], .undef] (.int .i64 (k + lenHost h)) := by
  unfold lenHost at h2
  refine Con.evH 22 [some 500000, some 500001, some 500002, none, some 500004] [500000, 500001, 500002, 500004] rfl rfl T_ok mix Try.func31 rfl rfl rfl rfl [.tmp 4] rfl ?_
  conv => whnf
  iterate 2 (refine rq_s (by (rfl)) ?_; conv => whnf)
  (refine rq_s (by ((simp only [decide_eq_true_eq, List.length_map, mkS_len, ownI, ownB, ownD, ownW, ownT, ownC, ownS]; done))) ?_; conv => whnf)
  iterate 2 (refine rq_s (by (rfl)) ?_; conv => whnf)
  (refine hand_s 80 0 ?_; conv => whnf)
  (refine rq_s (by ((simp only [decide_eq_true_eq, List.length_map, mkS_len, ownI, ownB, ownD, ownW, ownT, ownC, ownS]; done))) ?_; conv => whnf)
  iterate 2 (refine rq_s (by (rfl)) ?_; conv => whnf)
  (refine rows_s (by (rfl)) ?_; conv => whnf)
  (refine handc_s (f := 80) (j := 0) (c80 _ _ (by omega) (by omega)) (by simp [List.length_map, mkS_len, ownI, ownB, ownD, ownW, ownT, ownC, ownS]) (by rfl) (by rfl) ?_; conv => whnf)
  (refine fac_s (fun hf => ?_); conv => whnf)
  (refine rq_s (by (rfl)) ?_; conv => whnf)
  (refine rq_s (by ((simp only [decide_eq_true_eq, List.length_map, mkS_len, ownI, ownB, ownD, ownW, ownT, ownC, ownS]; done))) ?_; conv => whnf)
  iterate 2 (refine rq_s (by (rfl)) ?_; conv => whnf)
  (refine hand_s 23 0 ?_; conv => whnf)
  (refine rq_s (by ((simp only [decide_eq_true_eq, List.length_map, mkS_len, ownI, ownB, ownD, ownW, ownT, ownC, ownS]; done))) ?_; conv => whnf)
  iterate 2 (refine rq_s (by (rfl)) ?_; conv => whnf)
  (refine rows_s (by (rfl)) ?_; conv => whnf)
  (refine handc_s (f := 23) (j := 0) (c23 _ _ (by omega) (by omega)) (by simp [List.length_map, mkS_len, ownI, ownB, ownD, ownW, ownT, ownC, ownS]) (by rfl) (by rfl) ?_; conv => whnf)
  (refine fac_s (fun hf => ?_); conv => whnf)
  (refine rq_s (by (rfl)) ?_; conv => whnf)
  (refine rq_s (by ((simp only [decide_eq_true_eq, List.length_map, mkS_len, ownI, ownB, ownD, ownW, ownT, ownC, ownS]; done))) ?_; conv => whnf)
  iterate 2 (refine rq_s (by (rfl)) ?_; conv => whnf)
  (refine hand_s 23 0 ?_; conv => whnf)
  (refine rq_s (by ((simp only [decide_eq_true_eq, List.length_map, mkS_len, ownI, ownB, ownD, ownW, ownT, ownC, ownS]; done))) ?_; conv => whnf)
  iterate 2 (refine rq_s (by (rfl)) ?_; conv => whnf)
  (refine rows_s (by (rfl)) ?_; conv => whnf)
  (refine handc_s (f := 23) (j := 0) (c23 _ _ (by omega) (by omega)) (by simp [List.length_map, mkS_len, ownI, ownB, ownD, ownW, ownT, ownC, ownS]) (by rfl) (by rfl) ?_; conv => whnf)
  (refine fac_s (fun hf => ?_); conv => whnf)
  (refine rq_s (by (rfl)) ?_; conv => whnf)
  (refine rq_s (by ((simp only [decide_eq_true_eq, List.length_map, mkS_len, ownI, ownB, ownD, ownW, ownT, ownC, ownS]; done))) ?_; conv => whnf)
  iterate 2 (refine rq_s (by (rfl)) ?_; conv => whnf)
  (refine hand_s 81 0 ?_; conv => whnf)
  (refine rq_s (by ((simp only [decide_eq_true_eq, List.length_map, mkS_len, ownI, ownB, ownD, ownW, ownT, ownC, ownS]; done))) ?_; conv => whnf)
  iterate 2 (refine rq_s (by (rfl)) ?_; conv => whnf)
  (refine rows_s (by (rfl)) ?_; conv => whnf)
  (refine handc_s (f := 81) (j := 0) (c81 _ _ (by omega) (by omega)) (by simp [List.length_map, mkS_len, ownI, ownB, ownD, ownW, ownT, ownC, ownS]) (by rfl) (by rfl) ?_; conv => whnf)
  (refine fac_s (fun hf => ?_); conv => whnf)
  (refine rq_s (by (rfl)) ?_; conv => whnf)
  iterate 4 (focus (refine aft_s (by (simp [AV.rowsN, List.length_map, mkS_len, ownI, ownB, ownD, ownW, ownT, ownC, ownS]; done)) rfl ?_; conv => whnf))
  (refine sh_s ?_; ((simp only [lenHost]; congr 1; omega)))
def heldHost (h : Hst) (k : Int) : Int := szC (heldS mksB 1 h.gr k) (fun l => szC (heldS mksI 1 h.st l) (fun l => szC (heldS mksI 1 h.q l) (fun l => szC (heldS mksD 4 h.ds l) id)))
theorem c33 (h : Hst) (k : Int) (h1 : 0 ≤ k) (h2 : k + lenHost h ≤ 100000000) : Con Try.prog 33 [hstV h, .int .i64 k] (undefs [hstV h, .int .i64 k]) (.int .i64 (heldHost h k)) := by
  unfold lenHost at h2
  have g0 := heldS_le mksB 1 h.gr k
  have g1 := heldS_le mksI 1 h.st (heldS mksB 1 h.gr k)
  have g2 := heldS_le mksI 1 h.q (heldS mksI 1 h.st (heldS mksB 1 h.gr k))
  have g3 := heldS_le mksD 4 h.ds (heldS mksI 1 h.q (heldS mksI 1 h.st (heldS mksB 1 h.gr k)))
  refine Con.ev 30 T_ok mix Try.func33 rfl rfl rfl rfl [.tmp 4] rfl ?_
  conv => whnf
  iterate 4 (refine rq_s (by (rfl)) ?_; conv => whnf)
  (refine lend_s ?_; conv => whnf)
  (refine rows_s (by (rfl)) ?_; conv => whnf)
  (refine call_s (c82 _ _ (by omega) (by omega)) ?_; conv => whnf)
  (refine fac_s (fun hf => ?_); conv => whnf)
  (refine br_s (fun hb => ?_) (fun hb => ?_) <;> (try simp only [beq_iff_eq, bne_iff_ne, ne_eq, decide_eq_true_eq, decide_eq_false_iff_not, Int.not_lt, Int.not_le, Bool.false_eq_true, if_false, if_true, beq_eq_false_iff_ne, bne_eq_false_iff_eq, Bool.not_eq_true', Bool.not_eq_false', Int.ofNat_lt, Int.ofNat_le, Int.ofNat_inj, List.length_map, List.length_nil, List.length_cons] at hb) <;> conv => whnf)
  (refine rq_s (by (rfl)) ?_; conv => whnf)
  (focus (refine sh_s ?_; (first | (simp_all [heldHost, szC]; done) | (simp_all [heldHost, szC]; omega))))
  iterate 3 (refine rq_s (by (rfl)) ?_; conv => whnf)
  (refine lend_s ?_; conv => whnf)
  (refine rows_s (by (rfl)) ?_; conv => whnf)
  (refine call_s (c24 _ _ (by omega) (by omega)) ?_; conv => whnf)
  (refine fac_s (fun hf => ?_); conv => whnf)
  (refine br_s (fun hb => ?_) (fun hb => ?_) <;> (try simp only [beq_iff_eq, bne_iff_ne, ne_eq, decide_eq_true_eq, decide_eq_false_iff_not, Int.not_lt, Int.not_le, Bool.false_eq_true, if_false, if_true, beq_eq_false_iff_ne, bne_eq_false_iff_eq, Bool.not_eq_true', Bool.not_eq_false', Int.ofNat_lt, Int.ofNat_le, Int.ofNat_inj, List.length_map, List.length_nil, List.length_cons] at hb) <;> conv => whnf)
  (refine rq_s (by (rfl)) ?_; conv => whnf)
  (focus (refine sh_s ?_; (first | (simp_all [heldHost, szC]; done) | (simp_all [heldHost, szC]; omega))))
  iterate 3 (refine rq_s (by (rfl)) ?_; conv => whnf)
  (refine lend_s ?_; conv => whnf)
  (refine rows_s (by (rfl)) ?_; conv => whnf)
  (refine call_s (c24 _ _ (by omega) (by omega)) ?_; conv => whnf)
  (refine fac_s (fun hf => ?_); conv => whnf)
  (refine br_s (fun hb => ?_) (fun hb => ?_) <;> (try simp only [beq_iff_eq, bne_iff_ne, ne_eq, decide_eq_true_eq, decide_eq_false_iff_not, Int.not_lt, Int.not_le, Bool.false_eq_true, if_false, if_true, beq_eq_false_iff_ne, bne_eq_false_iff_eq, Bool.not_eq_true', Bool.not_eq_false', Int.ofNat_lt, Int.ofNat_le, Int.ofNat_inj, List.length_map, List.length_nil, List.length_cons] at hb) <;> conv => whnf)
  (refine rq_s (by (rfl)) ?_; conv => whnf)
  (focus (refine sh_s ?_; (first | (simp_all [heldHost, szC]; done) | (simp_all [heldHost, szC]; omega))))
  iterate 3 (refine rq_s (by (rfl)) ?_; conv => whnf)
  (refine lend_s ?_; conv => whnf)
  (refine rows_s (by (rfl)) ?_; conv => whnf)
  (refine call_s (c83 _ _ (by omega) (by omega)) ?_; conv => whnf)
  (refine fac_s (fun hf => ?_); conv => whnf)
  (refine br_s (fun hb => ?_) (fun hb => ?_) <;> (try simp only [beq_iff_eq, bne_iff_ne, ne_eq, decide_eq_true_eq, decide_eq_false_iff_not, Int.not_lt, Int.not_le, Bool.false_eq_true, if_false, if_true, beq_eq_false_iff_ne, bne_eq_false_iff_eq, Bool.not_eq_true', Bool.not_eq_false', Int.ofNat_lt, Int.ofNat_le, Int.ofNat_inj, List.length_map, List.length_nil, List.length_cons] at hb) <;> conv => whnf)
  (refine rq_s (by (rfl)) ?_; conv => whnf)
  (focus (refine sh_s ?_; (first | (simp_all [heldHost, szC]; done) | (simp_all [heldHost, szC]; omega))))
  (refine rq_s (by (rfl)) ?_; conv => whnf)
  (focus (refine sh_s ?_; (first | (simp_all [heldHost, szC]; done) | (simp_all [heldHost, szC]; omega))))
theorem heldHost_mk (h : Hst) (k : Int) (h1 : 0 ≤ k) : heldHost (mkHost h k) k = k + lenHost h := by
  simp only [heldHost, mkHost, heldS_mk, szC, id]
  rw [if_neg (by omega), if_neg (by omega), if_neg (by omega), if_neg (by omega)]
  unfold lenHost
  omega
theorem lenHost_mk (h : Hst) (k : Int) : lenHost (mkHost h k) = lenHost h := by simp [lenHost, mkHost, mkS_len]
theorem lenHost_le {h : Hst} (hs : smallHost h) : 0 ≤ lenHost h ∧ lenHost h ≤ 12000000 := by
  unfold smallHost at hs
  unfold lenHost
  omega
end V1
