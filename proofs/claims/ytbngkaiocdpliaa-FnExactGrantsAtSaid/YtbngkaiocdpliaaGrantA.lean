/- The functions that the law FnExactGrantsAt reaches, each with its contract; the law returns true. -/
import Derived.Test.YtbngkaiocdpliaaProg
import Derived.KernelRfl
import Derived.Test.YtbngkaiocdpliaaAbs6
set_option linter.unusedVariables false
set_option linter.unusedSimpArgs false
set_option maxRecDepth 100000
open Go Go.Abs Go.Proofs
namespace U8
def T : TT := [(3, TI.mk (UT.int IntKind.i64) 1 8 [AV.int IntKind.i64 0] false),
  (4, TI.mk UT.bool 1 1 [AV.bool false] false),
  (5, TI.mk (UT.int IntKind.u8) 1 1 [AV.int IntKind.u8 0] false),
  (9, TI.mk UT.str 1 16 [AV.str []] false),
  (21, TI.mk (UT.int IntKind.i32) 1 4 [AV.int IntKind.i32 0] false),
  (23, TI.mk (UT.struct [(0, 3), (1, 3), (2, 9)]) 3 32 [AV.int IntKind.i64 0, AV.int IntKind.i64 0, AV.str []] true),
  (26, TI.mk (UT.struct [(0, 3), (1, 3), (2, 9)]) 3 32 [AV.int IntKind.i64 0, AV.int IntKind.i64 0, AV.str []] true),
  (45, TI.mk (UT.slice 23) 1 24 [AV.emp] false),
  (47, TI.mk (UT.slice 4) 1 24 [AV.emp] false),
  (50, TI.mk (UT.slice 26) 1 24 [AV.emp] false),
  (94, TI.mk (UT.slice 5) 1 24 [AV.emp] false),
  (107, TI.mk (UT.slice 50) 1 24 [AV.emp] false)]
theorem T_ok : T.ok Try.prog := TT.ok_cons (by kernel_rfl) <| TT.ok_cons (by kernel_rfl) <| TT.ok_cons (by kernel_rfl) <| TT.ok_cons (by kernel_rfl) <| TT.ok_cons (by kernel_rfl) <| TT.ok_cons (by kernel_rfl) <| TT.ok_cons (by kernel_rfl) <| TT.ok_cons (by kernel_rfl) <| TT.ok_cons (by kernel_rfl) <| TT.ok_cons (by kernel_rfl) <| TT.ok_cons (by kernel_rfl) <| TT.ok_cons (by kernel_rfl) <| TT.ok_nil

theorem mix : Try.prog.follows .mixedOrders = true := by kernel_rfl

structure Doing where
  k : Int
  n : Int
  l : List UInt8
  deriving DecidableEq, Inhabited
def actR (a : Doing) : List AV := [.int .i64 a.k, .int .i64 a.n, .str a.l]
def actV (a : Doing) : AV := .agg (actR a)
abbrev zAct : List AV := [.int .i64 0, .int .i64 0, .str []]
def roA (rs : List Doing) : AV := .ro zAct (rs.map actR)
def boolR (b : Bool) : List AV := [.bool b]
def roB (bs : List Bool) : AV := .ro [.bool false] (bs.map boolR)
def ownB (bs : List Bool) : AV := .own 0 [.bool false] (bs.map boolR)
def szAct (a : Doing) (left : Int) : Int := if IntKind.i64.wrap (left - a.l.length) < 0 then -1 else IntKind.i64.wrap (left - a.l.length)
theorem c8 (a : Doing) (left : Int) : Con Try.prog 8 [actV a, .int .i64 left] (undefs [actV a, .int .i64 left]) (.int .i64 (szAct a left)) := by
  refine Con.ev 13 T_ok mix Try.func8 rfl rfl rfl rfl [.tmp 4] rfl ?_
  conv => whnf
  repeat' (first
    | (refine rq_s (by first | rfl | (refine and_s rfl ?_; simp only [decide_eq_true_eq, List.length_map]; omega) | (simp only [Bool.and_eq_true, decide_eq_true_eq, List.length_map]; omega) | (simp; done) | (simp; omega) ) ?_; conv => whnf)
    | (refine aft_s rfl rfl ?_; conv => whnf)
    | (refine row_s (by first | rfl) ?_; conv => whnf)
    | (refine rows_s (by first | (refine sub_all ?_; simp [List.length_map]; done) | exact sub_map _ _ _ _ | rfl) ?_; conv => whnf)
    | (refine fac_s (fun hf => ?_); conv => whnf)
    | (refine ChkS.mk (by kernel_rfl) ?_; conv => whnf)
    | (refine br_t rfl ?_; conv => whnf)
    | (refine br_f rfl ?_; conv => whnf)
    | (refine br_t (by assumption) ?_; conv => whnf)
    | (refine br_f (by assumption) ?_; conv => whnf)
    | (refine br_s (fun hb => ?_) (fun hb => ?_) <;> (try simp only [beq_iff_eq, bne_iff_ne, ne_eq, decide_eq_true_eq, decide_eq_false_iff_not, Int.not_lt, Int.not_le, Bool.false_eq_true, if_false, if_true, beq_eq_false_iff_ne, bne_eq_false_iff_eq, Bool.not_eq_true', Bool.not_eq_false', Int.ofNat_lt, Int.ofNat_le, Int.ofNat_inj, List.length_map, List.length_nil, List.length_cons] at hb) <;> conv => whnf)
    | (refine lend_s ?_; conv => whnf)
    
    | (refine sh_s ?_; first | (simp_all [szAct]; done) | (simp_all [szAct]; omega)))
theorem c10 (a : Doing) : Con Try.prog 10 [actV a] (undefs [actV a]) (actV a) := by
  refine Con.ev 14 T_ok mix Try.func10 rfl rfl rfl rfl [.cell 2 26] rfl ?_
  conv => whnf
  repeat' (first
    | (refine rq_s (by first | rfl | (refine and_s rfl ?_; simp only [decide_eq_true_eq, List.length_map]; omega) | (simp only [Bool.and_eq_true, decide_eq_true_eq, List.length_map]; omega) | (simp; done) | (simp; omega) ) ?_; conv => whnf)
    | (refine aft_s rfl rfl ?_; conv => whnf)
    | (refine row_s (by first | rfl) ?_; conv => whnf)
    | (refine rows_s (by first | (refine sub_all ?_; simp [List.length_map]; done) | exact sub_map _ _ _ _ | rfl) ?_; conv => whnf)
    | (refine fac_s (fun hf => ?_); conv => whnf)
    | (refine ChkS.mk (by kernel_rfl) ?_; conv => whnf)
    | (refine br_t rfl ?_; conv => whnf)
    | (refine br_f rfl ?_; conv => whnf)
    | (refine br_t (by assumption) ?_; conv => whnf)
    | (refine br_f (by assumption) ?_; conv => whnf)
    | (refine br_s (fun hb => ?_) (fun hb => ?_) <;> (try simp only [beq_iff_eq, bne_iff_ne, ne_eq, decide_eq_true_eq, decide_eq_false_iff_not, Int.not_lt, Int.not_le, Bool.false_eq_true, if_false, if_true, beq_eq_false_iff_ne, bne_eq_false_iff_eq, Bool.not_eq_true', Bool.not_eq_false', Int.ofNat_lt, Int.ofNat_le, Int.ofNat_inj, List.length_map, List.length_nil, List.length_cons] at hb) <;> conv => whnf)
    | (refine lend_s ?_; conv => whnf)
    
    | (refine sh_s ?_; rfl))
theorem c52 (a b : Doing) : Con Try.prog 52 [actV a, actV b] (undefs [actV a, actV b]) (.bool (decide (a = b))) := by
  refine Con.ev 20 T_ok mix Try.func52 rfl rfl rfl rfl [.tmp 4] rfl ?_
  conv => whnf
  repeat' (first
    | (refine rq_s (by first | rfl | (refine and_s rfl ?_; simp only [decide_eq_true_eq, List.length_map]; omega) | (simp only [Bool.and_eq_true, decide_eq_true_eq, List.length_map]; omega) | (simp; done) | (simp; omega) ) ?_; conv => whnf)
    | (refine aft_s rfl rfl ?_; conv => whnf)
    | (refine row_s (by first | rfl) ?_; conv => whnf)
    | (refine rows_s (by first | (refine sub_all ?_; simp [List.length_map]; done) | exact sub_map _ _ _ _ | rfl) ?_; conv => whnf)
    | (refine fac_s (fun hf => ?_); conv => whnf)
    | (refine ChkS.mk (by kernel_rfl) ?_; conv => whnf)
    | (refine br_t rfl ?_; conv => whnf)
    | (refine br_f rfl ?_; conv => whnf)
    | (refine br_t (by assumption) ?_; conv => whnf)
    | (refine br_f (by assumption) ?_; conv => whnf)
    | (refine br_s (fun hb => ?_) (fun hb => ?_) <;> (try simp only [beq_iff_eq, bne_iff_ne, ne_eq, decide_eq_true_eq, decide_eq_false_iff_not, Int.not_lt, Int.not_le, Bool.false_eq_true, if_false, if_true, beq_eq_false_iff_ne, bne_eq_false_iff_eq, Bool.not_eq_true', Bool.not_eq_false', Int.ofNat_lt, Int.ofNat_le, Int.ofNat_inj, List.length_map, List.length_nil, List.length_cons] at hb) <;> conv => whnf)
    | (refine lend_s ?_; conv => whnf)
    
    | (refine sh_s ?_; (cases a; cases b; simp_all)))

theorem c22 (rs : List Doing) (left : Int) : Con Try.prog 22 [roA rs, .int .i64 left] (undefs [roA rs, .int .i64 left]) (.int .i64 (szS szAct rs left)) := by
  refine Con.evF 27 T_ok mix Try.func22 rfl rfl rfl rfl [.tmp 4] rfl fun ⟨hx, _⟩ => ?_
  have hx := facts_len hx
  conv => whnf
  repeat' (first
    | (refine rq_s (by first | rfl | (refine and_s rfl ?_; simp only [decide_eq_true_eq, List.length_map]; omega) | (simp only [Bool.and_eq_true, decide_eq_true_eq, List.length_map]; omega) | (simp; done) | (simp; omega) ) ?_; conv => whnf)
    | (refine aft_s rfl rfl ?_; conv => whnf)
    | (refine row_s (by first | (try simp only [Int.toNat_natCast]); exact row_map actR _ _ _ default (by first | omega | (simp; omega))) ?_; conv => whnf)
    | (refine rows_s (by first | (refine sub_all ?_; simp [List.length_map]; done) | exact sub_map _ _ _ _ | rfl) ?_; conv => whnf)
    | (refine fac_s (fun hf => ?_); conv => whnf)
    | (refine ChkS.mk (by kernel_rfl) ?_; conv => whnf)
    | (refine br_t rfl ?_; conv => whnf)
    | (refine br_f rfl ?_; conv => whnf)
    | (refine br_t (by assumption) ?_; conv => whnf)
    | (refine br_f (by assumption) ?_; conv => whnf)
    | (refine br_s (fun hb => ?_) (fun hb => ?_) <;> (try simp only [beq_iff_eq, bne_iff_ne, ne_eq, decide_eq_true_eq, decide_eq_false_iff_not, Int.not_lt, Int.not_le, Bool.false_eq_true, if_false, if_true, beq_eq_false_iff_ne, bne_eq_false_iff_eq, Bool.not_eq_true', Bool.not_eq_false', Int.ofNat_lt, Int.ofNat_le, Int.ofNat_inj, List.length_map, List.length_nil, List.length_cons] at hb) <;> conv => whnf)
    | (refine lend_s ?_; conv => whnf)
    
    | (refine sh_s ?_; simp_all [szS]))
  refine LoopG.rounds (α := Nat × Int) T_ok mix [0, 1, 5] [] (fun a => [(0, roA rs), (1, .int .i64 a.2), (5, .int .i64 a.1)]) (fun _ => []) (fun a => a.1 ≤ rs.length ∧ szL szAct (rs.drop a.1) a.2 = szS szAct rs left) (fun a => rs.length - a.1) ?_ ?_
  · conv => whnf
    exact head_s (0, IntKind.i64.wrap (left - rs.length)) ⟨by simp, by rw [szS, if_neg (by omega)]; rfl⟩ (by simp [roA]) rfl
  · rintro ⟨i, l⟩ ⟨h1, h2⟩ - -
    simp only at h1 h2 ⊢
    conv => whnf
    repeat' (first
    | (refine rq_s (by first | rfl | (refine and_s rfl ?_; simp only [decide_eq_true_eq, List.length_map]; omega) | (simp only [Bool.and_eq_true, decide_eq_true_eq, List.length_map]; omega) | (simp; done) | (simp; omega) ) ?_; conv => whnf)
    | (refine aft_s rfl rfl ?_; conv => whnf)
    | (refine row_s (by first | (try simp only [Int.toNat_natCast]); exact row_map actR _ _ _ default (by first | omega | (simp; omega))) ?_; conv => whnf)
    | (refine rows_s (by first | (refine sub_all ?_; simp [List.length_map]; done) | exact sub_map _ _ _ _ | rfl) ?_; conv => whnf)
    | (refine fac_s (fun hf => ?_); conv => whnf)
    | (refine ChkS.mk (by kernel_rfl) ?_; conv => whnf)
    | (refine br_t rfl ?_; conv => whnf)
    | (refine br_f rfl ?_; conv => whnf)
    | (refine br_t (by assumption) ?_; conv => whnf)
    | (refine br_f (by assumption) ?_; conv => whnf)
    | (refine br_s (fun hb => ?_) (fun hb => ?_) <;> (try simp only [beq_iff_eq, bne_iff_ne, ne_eq, decide_eq_true_eq, decide_eq_false_iff_not, Int.not_lt, Int.not_le, Bool.false_eq_true, if_false, if_true, beq_eq_false_iff_ne, bne_eq_false_iff_eq, Bool.not_eq_true', Bool.not_eq_false', Int.ofNat_lt, Int.ofNat_le, Int.ofNat_inj, List.length_map, List.length_nil, List.length_cons] at hb) <;> conv => whnf)
    | (refine lend_s ?_; conv => whnf)
    | ((first | refine call_s (c8 ..) ?_); conv => whnf)
    )
    · refine sh_s ?_
      rw [szL_next default (by assumption), if_pos hb] at h2
      rw [← h2]
    · rw [szL_next default (by assumption), if_neg (by omega)] at h2
      exact head_s (i + 1, _) ⟨⟨by simp only; omega, h2⟩, by simp only; omega⟩ (by rw [wrap64 (by omega) (by omega)]; rfl) rfl
    · obtain rfl : i = rs.length := by omega
      refine sh_s ?_
      rw [szL_end] at h2
      rw [h2]
theorem c24 (rs : List Doing) (h : rs.length ≤ 1048576) : Con Try.prog 24 [roA rs] (undefs [roA rs]) (.own 0 zAct (rs.map actR)) := by
  refine Con.ev 23 T_ok mix Try.func24 rfl rfl rfl rfl [.tmp 2] rfl ?_
  conv => whnf
  repeat' (first
    | (refine rq_s (by first | rfl | (refine and_s rfl ?_; simp only [decide_eq_true_eq, List.length_map]; omega) | (simp only [Bool.and_eq_true, decide_eq_true_eq, List.length_map]; omega) | (simp; done) | (simp; omega) | ((simp [maxBytes, AV.plain]; omega))) ?_; conv => whnf)
    | (refine aft_s rfl rfl ?_; conv => whnf)
    | (refine row_s (by first | (try simp only [Int.toNat_natCast]); exact row_map actR _ _ _ default (by first | omega | (simp; omega))) ?_; conv => whnf)
    | (refine rows_s (by first | (refine sub_all ?_; simp [List.length_map]; done) | exact sub_map _ _ _ _ | rfl) ?_; conv => whnf)
    | (refine fac_s (fun hf => ?_); conv => whnf)
    | (refine ChkS.mk (by kernel_rfl) ?_; conv => whnf)
    | (refine br_t rfl ?_; conv => whnf)
    | (refine br_f rfl ?_; conv => whnf)
    | (refine br_t (by assumption) ?_; conv => whnf)
    | (refine br_f (by assumption) ?_; conv => whnf)
    | (refine br_s (fun hb => ?_) (fun hb => ?_) <;> (try simp only [beq_iff_eq, bne_iff_ne, ne_eq, decide_eq_true_eq, decide_eq_false_iff_not, Int.not_lt, Int.not_le, Bool.false_eq_true, if_false, if_true, beq_eq_false_iff_ne, bne_eq_false_iff_eq, Bool.not_eq_true', Bool.not_eq_false', Int.ofNat_lt, Int.ofNat_le, Int.ofNat_inj, List.length_map, List.length_nil, List.length_cons] at hb) <;> conv => whnf)
    | (refine lend_s ?_; conv => whnf)
    
    )
  refine LoopG.rounds (α := Nat) T_ok mix [0, 3, 4] [(7, 7)] (fun i => [(0, roA rs), (3, .ref 7 0 rs.length), (4, .int .i64 i)]) (fun i => [(7, .live ⟨true, 0, zAct, cpyR actR zAct rs i⟩)]) (fun i => i ≤ rs.length) (fun i => rs.length - i) ?_ ?_
  · conv => whnf
    exact head_s 0 (by simp) (by simp [roA]) (by simp [cpyR_zero, zAct])
  · intro i h1 _ _
    conv => whnf
    repeat' (first
    | (refine rq_s (by first | rfl | (refine and_s rfl ?_; simp only [decide_eq_true_eq, List.length_map]; omega) | (simp only [Bool.and_eq_true, decide_eq_true_eq, List.length_map]; omega) | (simp; done) | (simp; omega) | ((simp [maxBytes, AV.plain]; omega))) ?_; conv => whnf)
    | (refine aft_s rfl rfl ?_; conv => whnf)
    | (refine row_s (by first | (try simp only [Int.toNat_natCast]); exact row_map actR _ _ _ default (by first | omega | (simp; omega))) ?_; conv => whnf)
    | (refine rows_s (by first | (refine sub_all ?_; simp [List.length_map]; done) | exact sub_map _ _ _ _ | rfl) ?_; conv => whnf)
    | (refine fac_s (fun hf => ?_); conv => whnf)
    | (refine ChkS.mk (by kernel_rfl) ?_; conv => whnf)
    | (refine br_t rfl ?_; conv => whnf)
    | (refine br_f rfl ?_; conv => whnf)
    | (refine br_t (by assumption) ?_; conv => whnf)
    | (refine br_f (by assumption) ?_; conv => whnf)
    | (refine br_s (fun hb => ?_) (fun hb => ?_) <;> (try simp only [beq_iff_eq, bne_iff_ne, ne_eq, decide_eq_true_eq, decide_eq_false_iff_not, Int.not_lt, Int.not_le, Bool.false_eq_true, if_false, if_true, beq_eq_false_iff_ne, bne_eq_false_iff_eq, Bool.not_eq_true', Bool.not_eq_false', Int.ofNat_lt, Int.ofNat_le, Int.ofNat_inj, List.length_map, List.length_nil, List.length_cons] at hb) <;> conv => whnf)
    | (refine lend_s ?_; conv => whnf)
    
    )
    · have hi : i < rs.length := hb
      repeat' (first
    | (refine rq_s (by first | rfl | (refine and_s rfl ?_; simp only [decide_eq_true_eq, List.length_map]; omega) | (simp only [Bool.and_eq_true, decide_eq_true_eq, List.length_map]; omega) | (simp; done) | (simp; omega) | ((simp [maxBytes, AV.plain]; omega))) ?_; conv => whnf)
    | (refine aft_s rfl rfl ?_; conv => whnf)
    | (refine row_s (by first | (try simp only [Int.toNat_natCast]); exact row_map actR _ _ _ default (by first | omega | (simp; omega))) ?_; conv => whnf)
    | (refine rows_s (by first | (refine sub_all ?_; simp [List.length_map]; done) | exact sub_map _ _ _ _ | rfl) ?_; conv => whnf)
    | (refine fac_s (fun hf => ?_); conv => whnf)
    | (refine ChkS.mk (by kernel_rfl) ?_; conv => whnf)
    | (refine br_t rfl ?_; conv => whnf)
    | (refine br_f rfl ?_; conv => whnf)
    | (refine br_t (by assumption) ?_; conv => whnf)
    | (refine br_f (by assumption) ?_; conv => whnf)
    | (refine br_s (fun hb => ?_) (fun hb => ?_) <;> (try simp only [beq_iff_eq, bne_iff_ne, ne_eq, decide_eq_true_eq, decide_eq_false_iff_not, Int.not_lt, Int.not_le, Bool.false_eq_true, if_false, if_true, beq_eq_false_iff_ne, bne_eq_false_iff_eq, Bool.not_eq_true', Bool.not_eq_false', Int.ofNat_lt, Int.ofNat_le, Int.ofNat_inj, List.length_map, List.length_nil, List.length_cons] at hb) <;> conv => whnf)
    | (refine lend_s ?_; conv => whnf)
    | ((first | refine call_s (c10 ..) ?_); conv => whnf)
    )
      refine head_s (i + 1) ⟨by omega, by omega⟩ (by rw [wrap64 (by omega) (by omega)]; rfl) (congrArg (fun r => [(7, MB.live ⟨true, 0, zAct, r⟩)]) ?_)
      simp only [Nat.zero_add, Int.toNat_natCast]
      exact cpyR_next default hi rfl rfl
    · obtain rfl : i = rs.length := by omega
      repeat' (first
    | (refine rq_s (by first | rfl | (refine and_s rfl ?_; simp only [decide_eq_true_eq, List.length_map]; omega) | (simp only [Bool.and_eq_true, decide_eq_true_eq, List.length_map]; omega) | (simp; done) | (simp; omega) ) ?_; conv => whnf)
    | (refine aft_s rfl rfl ?_; conv => whnf)
    | (refine row_s (by first | (try simp only [Int.toNat_natCast]); exact row_map actR _ _ _ default (by first | omega | (simp; omega))) ?_; conv => whnf)
    | (refine rows_s (by first | (refine sub_all ?_; simp [List.length_map]; done) | exact sub_map _ _ _ _ | rfl) ?_; conv => whnf)
    | (refine fac_s (fun hf => ?_); conv => whnf)
    | (refine ChkS.mk (by kernel_rfl) ?_; conv => whnf)
    | (refine br_t rfl ?_; conv => whnf)
    | (refine br_f rfl ?_; conv => whnf)
    | (refine br_t (by assumption) ?_; conv => whnf)
    | (refine br_f (by assumption) ?_; conv => whnf)
    | (refine br_s (fun hb => ?_) (fun hb => ?_) <;> (try simp only [beq_iff_eq, bne_iff_ne, ne_eq, decide_eq_true_eq, decide_eq_false_iff_not, Int.not_lt, Int.not_le, Bool.false_eq_true, if_false, if_true, beq_eq_false_iff_ne, bne_eq_false_iff_eq, Bool.not_eq_true', Bool.not_eq_false', Int.ofNat_lt, Int.ofNat_le, Int.ofNat_inj, List.length_map, List.length_nil, List.length_cons] at hb) <;> conv => whnf)
    | (refine lend_s ?_; conv => whnf)
    
    | (refine sh_s ?_; simp [subA, cpyR_all, List.take_of_length_le, zAct]))
theorem c27 (xs ys : List Doing) : Con Try.prog 27 [roA xs, roA ys] (undefs [roA xs, roA ys]) (.bool (decide (xs = ys))) := by
  refine Con.evF 27 T_ok mix Try.func27 rfl rfl rfl rfl [.tmp 4] rfl fun ⟨hx, _⟩ => ?_
  have hx := facts_len hx
  conv => whnf
  repeat' (first
    | (refine rq_s (by first | rfl | (refine and_s rfl ?_; simp only [decide_eq_true_eq, List.length_map]; omega) | (simp only [Bool.and_eq_true, decide_eq_true_eq, List.length_map]; omega) | (simp; done) | (simp; omega) ) ?_; conv => whnf)
    | (refine aft_s rfl rfl ?_; conv => whnf)
    | (refine row_s (by first | (try simp only [Int.toNat_natCast]); exact row_map actR _ _ _ default (by first | omega | (simp; omega))) ?_; conv => whnf)
    | (refine rows_s (by first | (refine sub_all ?_; simp [List.length_map]; done) | exact sub_map _ _ _ _ | rfl) ?_; conv => whnf)
    | (refine fac_s (fun hf => ?_); conv => whnf)
    | (refine ChkS.mk (by kernel_rfl) ?_; conv => whnf)
    | (refine br_t rfl ?_; conv => whnf)
    | (refine br_f rfl ?_; conv => whnf)
    | (refine br_t (by assumption) ?_; conv => whnf)
    | (refine br_f (by assumption) ?_; conv => whnf)
    | (refine br_s (fun hb => ?_) (fun hb => ?_) <;> (try simp only [beq_iff_eq, bne_iff_ne, ne_eq, decide_eq_true_eq, decide_eq_false_iff_not, Int.not_lt, Int.not_le, Bool.false_eq_true, if_false, if_true, beq_eq_false_iff_ne, bne_eq_false_iff_eq, Bool.not_eq_true', Bool.not_eq_false', Int.ofNat_lt, Int.ofNat_le, Int.ofNat_inj, List.length_map, List.length_nil, List.length_cons] at hb) <;> conv => whnf)
    | (refine lend_s ?_; conv => whnf)
    
    )
  · refine sh_s ?_
    have : xs ≠ ys := fun e => hb (by rw [e])
    simp [this]
  · refine LoopG.rounds (α := Nat) T_ok mix [0, 1, 5] [] (fun i => [(0, roA xs), (1, roA ys), (5, .int .i64 i)]) (fun _ => []) (fun i => i ≤ xs.length ∧ xs.take i = ys.take i) (fun i => xs.length - i) ?_ ?_
    · conv => whnf
      exact head_s 0 ⟨by simp, by simp⟩ rfl rfl
    · rintro i ⟨h1, h2⟩ - -
      conv => whnf
      repeat' (first
    | (refine rq_s (by first | rfl | (refine and_s rfl ?_; simp only [decide_eq_true_eq, List.length_map]; omega) | (simp only [Bool.and_eq_true, decide_eq_true_eq, List.length_map]; omega) | (simp; done) | (simp; omega) ) ?_; conv => whnf)
    | (refine aft_s rfl rfl ?_; conv => whnf)
    | (refine row_s (by first | (try simp only [Int.toNat_natCast]); exact row_map actR _ _ _ default (by first | omega | (simp; omega))) ?_; conv => whnf)
    | (refine rows_s (by first | (refine sub_all ?_; simp [List.length_map]; done) | exact sub_map _ _ _ _ | rfl) ?_; conv => whnf)
    | (refine fac_s (fun hf => ?_); conv => whnf)
    | (refine ChkS.mk (by kernel_rfl) ?_; conv => whnf)
    | (refine br_t rfl ?_; conv => whnf)
    | (refine br_f rfl ?_; conv => whnf)
    | (refine br_t (by assumption) ?_; conv => whnf)
    | (refine br_f (by assumption) ?_; conv => whnf)
    | (refine br_s (fun hb => ?_) (fun hb => ?_) <;> (try simp only [beq_iff_eq, bne_iff_ne, ne_eq, decide_eq_true_eq, decide_eq_false_iff_not, Int.not_lt, Int.not_le, Bool.false_eq_true, if_false, if_true, beq_eq_false_iff_ne, bne_eq_false_iff_eq, Bool.not_eq_true', Bool.not_eq_false', Int.ofNat_lt, Int.ofNat_le, Int.ofNat_inj, List.length_map, List.length_nil, List.length_cons] at hb) <;> conv => whnf)
    | (refine lend_s ?_; conv => whnf)
    | ((first | refine call_s (c52 ..) ?_); conv => whnf)
    )
      · refine sh_s ?_
        have : xs ≠ ys := fun e => hb (by rw [e])
        simp [this]
      · exact head_s (i + 1) ⟨⟨by omega, take_next default h2 (by omega) (by omega) hb⟩, by omega⟩ (by rw [wrap64 (by omega) (by omega)]; rfl) rfl
      · refine sh_s ?_
        simp [take_done h2 (by omega) (by omega)]

theorem c26 (xs ys : List Bool) : Con Try.prog 26 [roB xs, roB ys] (undefs [roB xs, roB ys]) (.bool (decide (xs = ys))) := by
  refine Con.evF 26 T_ok mix Try.func26 rfl rfl rfl rfl [.tmp 4] rfl fun ⟨hx, _⟩ => ?_
  have hx := facts_len hx
  conv => whnf
  repeat' (first
    | (refine rq_s (by first | rfl | (refine and_s rfl ?_; simp only [decide_eq_true_eq, List.length_map]; omega) | (simp only [Bool.and_eq_true, decide_eq_true_eq, List.length_map]; omega) | (simp; done) | (simp; omega) ) ?_; conv => whnf)
    | (refine aft_s rfl rfl ?_; conv => whnf)
    | (refine row_s (by first | (try simp only [Int.toNat_natCast]); exact row_map boolR _ _ _ default (by first | omega | (simp; omega))) ?_; conv => whnf)
    | (refine rows_s (by first | (refine sub_all ?_; simp [List.length_map]; done) | exact sub_map _ _ _ _ | rfl) ?_; conv => whnf)
    | (refine fac_s (fun hf => ?_); conv => whnf)
    | (refine ChkS.mk (by kernel_rfl) ?_; conv => whnf)
    | (refine br_t rfl ?_; conv => whnf)
    | (refine br_f rfl ?_; conv => whnf)
    | (refine br_t (by assumption) ?_; conv => whnf)
    | (refine br_f (by assumption) ?_; conv => whnf)
    | (refine br_s (fun hb => ?_) (fun hb => ?_) <;> (try simp only [beq_iff_eq, bne_iff_ne, ne_eq, decide_eq_true_eq, decide_eq_false_iff_not, Int.not_lt, Int.not_le, Bool.false_eq_true, if_false, if_true, beq_eq_false_iff_ne, bne_eq_false_iff_eq, Bool.not_eq_true', Bool.not_eq_false', Int.ofNat_lt, Int.ofNat_le, Int.ofNat_inj, List.length_map, List.length_nil, List.length_cons] at hb) <;> conv => whnf)
    | (refine lend_s ?_; conv => whnf)
    
    )
  · refine sh_s ?_
    have : xs ≠ ys := fun e => hb (by rw [e])
    simp [this]
  · refine LoopG.rounds (α := Nat) T_ok mix [0, 1, 5] [] (fun i => [(0, roB xs), (1, roB ys), (5, .int .i64 i)]) (fun _ => []) (fun i => i ≤ xs.length ∧ xs.take i = ys.take i) (fun i => xs.length - i) ?_ ?_
    · conv => whnf
      exact head_s 0 ⟨by simp, by simp⟩ rfl rfl
    · rintro i ⟨h1, h2⟩ - -
      conv => whnf
      repeat' (first
    | (refine rq_s (by first | rfl | (refine and_s rfl ?_; simp only [decide_eq_true_eq, List.length_map]; omega) | (simp only [Bool.and_eq_true, decide_eq_true_eq, List.length_map]; omega) | (simp; done) | (simp; omega) ) ?_; conv => whnf)
    | (refine aft_s rfl rfl ?_; conv => whnf)
    | (refine row_s (by first | (try simp only [Int.toNat_natCast]); exact row_map boolR _ _ _ default (by first | omega | (simp; omega))) ?_; conv => whnf)
    | (refine rows_s (by first | (refine sub_all ?_; simp [List.length_map]; done) | exact sub_map _ _ _ _ | rfl) ?_; conv => whnf)
    | (refine fac_s (fun hf => ?_); conv => whnf)
    | (refine ChkS.mk (by kernel_rfl) ?_; conv => whnf)
    | (refine br_t rfl ?_; conv => whnf)
    | (refine br_f rfl ?_; conv => whnf)
    | (refine br_t (by assumption) ?_; conv => whnf)
    | (refine br_f (by assumption) ?_; conv => whnf)
    | (refine br_s (fun hb => ?_) (fun hb => ?_) <;> (try simp only [beq_iff_eq, bne_iff_ne, ne_eq, decide_eq_true_eq, decide_eq_false_iff_not, Int.not_lt, Int.not_le, Bool.false_eq_true, if_false, if_true, beq_eq_false_iff_ne, bne_eq_false_iff_eq, Bool.not_eq_true', Bool.not_eq_false', Int.ofNat_lt, Int.ofNat_le, Int.ofNat_inj, List.length_map, List.length_nil, List.length_cons] at hb) <;> conv => whnf)
    | (refine lend_s ?_; conv => whnf)
    
    )
      · refine sh_s ?_
        have : xs ≠ ys := fun e => hb (by rw [e])
        simp [this]
      · exact head_s (i + 1) ⟨⟨by omega, take_next default h2 (by omega) (by omega) hb⟩, by omega⟩ (by rw [wrap64 (by omega) (by omega)]; rfl) rfl
      · refine sh_s ?_
        simp [take_done h2 (by omega) (by omega)]
def inR (n lo hi : Int) : Bool := decide (lo ≤ n) && decide (n ≤ hi)
theorem c41 (n lo hi : Int) : Con Try.prog 41 [.int .i64 n, .int .i64 lo, .int .i64 hi] (undefs [.int .i64 n, .int .i64 lo, .int .i64 hi]) (.bool (inR n lo hi)) := by
  refine Con.ev 15 T_ok mix Try.func41 rfl rfl rfl rfl [.tmp 6] rfl ?_
  conv => whnf
  repeat' (first
    | (refine rq_s (by first | rfl | (refine and_s rfl ?_; simp only [decide_eq_true_eq, List.length_map]; omega) | (simp only [Bool.and_eq_true, decide_eq_true_eq, List.length_map]; omega) | (simp; done) | (simp; omega) ) ?_; conv => whnf)
    | (refine aft_s rfl rfl ?_; conv => whnf)
    | (refine row_s (by first | (try simp only [Int.toNat_natCast]); exact row_map boolR _ _ _ default (by first | omega | (simp; omega))) ?_; conv => whnf)
    | (refine rows_s (by first | (refine sub_all ?_; simp [List.length_map]; done) | exact sub_map _ _ _ _ | rfl) ?_; conv => whnf)
    | (refine fac_s (fun hf => ?_); conv => whnf)
    | (refine ChkS.mk (by kernel_rfl) ?_; conv => whnf)
    | (refine br_t rfl ?_; conv => whnf)
    | (refine br_f rfl ?_; conv => whnf)
    | (refine br_t (by assumption) ?_; conv => whnf)
    | (refine br_f (by assumption) ?_; conv => whnf)
    | (refine br_s (fun hb => ?_) (fun hb => ?_) <;> (try simp only [beq_iff_eq, bne_iff_ne, ne_eq, decide_eq_true_eq, decide_eq_false_iff_not, Int.not_lt, Int.not_le, Bool.false_eq_true, if_false, if_true, beq_eq_false_iff_ne, bne_eq_false_iff_eq, Bool.not_eq_true', Bool.not_eq_false', Int.ofNat_lt, Int.ofNat_le, Int.ofNat_inj, List.length_map, List.length_nil, List.length_cons] at hb) <;> conv => whnf)
    | (refine lend_s ?_; conv => whnf)
    
    | (refine sh_s ?_; first | (simp_all [inR]; done) | (simp_all [inR]; omega)))
theorem c38 (n lo hi : Int) : Con Try.prog 38 [.int .i64 n, .int .i64 lo, .int .i64 hi] (undefs [.int .i64 n, .int .i64 lo, .int .i64 hi]) (.bool (inR n lo hi)) := by
  refine Con.ev 15 T_ok mix Try.func38 rfl rfl rfl rfl [.tmp 6] rfl ?_
  conv => whnf
  repeat' (first
    | (refine rq_s (by first | rfl | (refine and_s rfl ?_; simp only [decide_eq_true_eq, List.length_map]; omega) | (simp only [Bool.and_eq_true, decide_eq_true_eq, List.length_map]; omega) | (simp; done) | (simp; omega) ) ?_; conv => whnf)
    | (refine aft_s rfl rfl ?_; conv => whnf)
    | (refine row_s (by first | (try simp only [Int.toNat_natCast]); exact row_map boolR _ _ _ default (by first | omega | (simp; omega))) ?_; conv => whnf)
    | (refine rows_s (by first | (refine sub_all ?_; simp [List.length_map]; done) | exact sub_map _ _ _ _ | rfl) ?_; conv => whnf)
    | (refine fac_s (fun hf => ?_); conv => whnf)
    | (refine ChkS.mk (by kernel_rfl) ?_; conv => whnf)
    | (refine br_t rfl ?_; conv => whnf)
    | (refine br_f rfl ?_; conv => whnf)
    | (refine br_t (by assumption) ?_; conv => whnf)
    | (refine br_f (by assumption) ?_; conv => whnf)
    | (refine br_s (fun hb => ?_) (fun hb => ?_) <;> (try simp only [beq_iff_eq, bne_iff_ne, ne_eq, decide_eq_true_eq, decide_eq_false_iff_not, Int.not_lt, Int.not_le, Bool.false_eq_true, if_false, if_true, beq_eq_false_iff_ne, bne_eq_false_iff_eq, Bool.not_eq_true', Bool.not_eq_false', Int.ofNat_lt, Int.ofNat_le, Int.ofNat_inj, List.length_map, List.length_nil, List.length_cons] at hb) <;> conv => whnf)
    | (refine lend_s ?_; conv => whnf)
    
    | (refine sh_s ?_; first | (simp_all [inR]; done) | (simp_all [inR]; omega)))
theorem c40 (n : Int) : Con Try.prog 40 [.int .i64 n] (undefs [.int .i64 n]) (.bool (inR n 0 3)) := by
  refine Con.ev 5 T_ok mix Try.func40 rfl rfl rfl rfl [.tmp 2] rfl ?_
  conv => whnf
  repeat' (first
    | (refine rq_s (by first | rfl | (refine and_s rfl ?_; simp only [decide_eq_true_eq, List.length_map]; omega) | (simp only [Bool.and_eq_true, decide_eq_true_eq, List.length_map]; omega) | (simp; done) | (simp; omega) ) ?_; conv => whnf)
    | (refine aft_s rfl rfl ?_; conv => whnf)
    | (refine row_s (by first | (try simp only [Int.toNat_natCast]); exact row_map boolR _ _ _ default (by first | omega | (simp; omega))) ?_; conv => whnf)
    | (refine rows_s (by first | (refine sub_all ?_; simp [List.length_map]; done) | exact sub_map _ _ _ _ | rfl) ?_; conv => whnf)
    | (refine fac_s (fun hf => ?_); conv => whnf)
    | (refine ChkS.mk (by kernel_rfl) ?_; conv => whnf)
    | (refine br_t rfl ?_; conv => whnf)
    | (refine br_f rfl ?_; conv => whnf)
    | (refine br_t (by assumption) ?_; conv => whnf)
    | (refine br_f (by assumption) ?_; conv => whnf)
    | (refine br_s (fun hb => ?_) (fun hb => ?_) <;> (try simp only [beq_iff_eq, bne_iff_ne, ne_eq, decide_eq_true_eq, decide_eq_false_iff_not, Int.not_lt, Int.not_le, Bool.false_eq_true, if_false, if_true, beq_eq_false_iff_ne, bne_eq_false_iff_eq, Bool.not_eq_true', Bool.not_eq_false', Int.ofNat_lt, Int.ofNat_le, Int.ofNat_inj, List.length_map, List.length_nil, List.length_cons] at hb) <;> conv => whnf)
    | (refine lend_s ?_; conv => whnf)
    | ((first | refine call_s (c41 ..) ?_); conv => whnf)
    | (refine sh_s ?_; rfl))
theorem c39 (n : Int) : Con Try.prog 39 [.int .i64 n] (undefs [.int .i64 n]) (.bool (inR n (-2147483648) 2147483647)) := by
  refine Con.ev 5 T_ok mix Try.func39 rfl rfl rfl rfl [.tmp 2] rfl ?_
  conv => whnf
  repeat' (first
    | (refine rq_s (by first | rfl | (refine and_s rfl ?_; simp only [decide_eq_true_eq, List.length_map]; omega) | (simp only [Bool.and_eq_true, decide_eq_true_eq, List.length_map]; omega) | (simp; done) | (simp; omega) ) ?_; conv => whnf)
    | (refine aft_s rfl rfl ?_; conv => whnf)
    | (refine row_s (by first | (try simp only [Int.toNat_natCast]); exact row_map boolR _ _ _ default (by first | omega | (simp; omega))) ?_; conv => whnf)
    | (refine rows_s (by first | (refine sub_all ?_; simp [List.length_map]; done) | exact sub_map _ _ _ _ | rfl) ?_; conv => whnf)
    | (refine fac_s (fun hf => ?_); conv => whnf)
    | (refine ChkS.mk (by kernel_rfl) ?_; conv => whnf)
    | (refine br_t rfl ?_; conv => whnf)
    | (refine br_f rfl ?_; conv => whnf)
    | (refine br_t (by assumption) ?_; conv => whnf)
    | (refine br_f (by assumption) ?_; conv => whnf)
    | (refine br_s (fun hb => ?_) (fun hb => ?_) <;> (try simp only [beq_iff_eq, bne_iff_ne, ne_eq, decide_eq_true_eq, decide_eq_false_iff_not, Int.not_lt, Int.not_le, Bool.false_eq_true, if_false, if_true, beq_eq_false_iff_ne, bne_eq_false_iff_eq, Bool.not_eq_true', Bool.not_eq_false', Int.ofNat_lt, Int.ofNat_le, Int.ofNat_inj, List.length_map, List.length_nil, List.length_cons] at hb) <;> conv => whnf)
    | (refine lend_s ?_; conv => whnf)
    | ((first | refine call_s (c38 ..) ?_); conv => whnf)
    | (refine sh_s ?_; rfl))
theorem c67 (n : Int) : Con Try.prog 67 [.int .i64 n] (undefs [.int .i64 n]) (.int .i64 (IntKind.i64.wrap (IntKind.i32.wrap n))) := by
  refine Con.ev 6 T_ok mix Try.func67 rfl rfl rfl rfl [.tmp 2] rfl ?_
  conv => whnf
  repeat' (first
    | (refine rq_s (by first | rfl | (refine and_s rfl ?_; simp only [decide_eq_true_eq, List.length_map]; omega) | (simp only [Bool.and_eq_true, decide_eq_true_eq, List.length_map]; omega) | (simp; done) | (simp; omega) ) ?_; conv => whnf)
    | (refine aft_s rfl rfl ?_; conv => whnf)
    | (refine row_s (by first | (try simp only [Int.toNat_natCast]); exact row_map boolR _ _ _ default (by first | omega | (simp; omega))) ?_; conv => whnf)
    | (refine rows_s (by first | (refine sub_all ?_; simp [List.length_map]; done) | exact sub_map _ _ _ _ | rfl) ?_; conv => whnf)
    | (refine fac_s (fun hf => ?_); conv => whnf)
    | (refine ChkS.mk (by kernel_rfl) ?_; conv => whnf)
    | (refine br_t rfl ?_; conv => whnf)
    | (refine br_f rfl ?_; conv => whnf)
    | (refine br_t (by assumption) ?_; conv => whnf)
    | (refine br_f (by assumption) ?_; conv => whnf)
    | (refine br_s (fun hb => ?_) (fun hb => ?_) <;> (try simp only [beq_iff_eq, bne_iff_ne, ne_eq, decide_eq_true_eq, decide_eq_false_iff_not, Int.not_lt, Int.not_le, Bool.false_eq_true, if_false, if_true, beq_eq_false_iff_ne, bne_eq_false_iff_eq, Bool.not_eq_true', Bool.not_eq_false', Int.ofNat_lt, Int.ofNat_le, Int.ofNat_inj, List.length_map, List.length_nil, List.length_cons] at hb) <;> conv => whnf)
    | (refine lend_s ?_; conv => whnf)
    
    | (refine sh_s ?_; rfl))
theorem wrap_cell {n : Int} (h1 : -9223372036854775808 ≤ n) (h2 : n ≤ 9223372036854775807) : (IntKind.i64.wrap (IntKind.i32.wrap n) == n) = inR n (-2147483648) 2147483647 := by
  have h3 : -2147483648 ≤ IntKind.i32.wrap n ∧ IntKind.i32.wrap n ≤ 2147483647 := by
    simp [IntKind.wrap, IntKind.signed, IntKind.bits]
    omega
  rw [wrap64 (by omega) (by omega)]
  by_cases h : -2147483648 ≤ n ∧ n ≤ 2147483647
  · rw [wrap32 h.1 h.2]
    simp [inR, h.1, h.2]
  · have : IntKind.i32.wrap n ≠ n := fun e => by rw [e] at h3; exact h h3
    have h5 : inR n (-2147483648) 2147483647 = false := by simp [inR]; omega
    rw [h5]
    simpa using this
theorem c42 (n : Int) : Con Try.prog 42 [.int .i64 n] (undefs [.int .i64 n]) (.bool (inR n (-2147483648) 2147483647)) := by
  refine Con.evF 7 T_ok mix Try.func42 rfl rfl rfl rfl [.tmp 2] rfl fun ⟨h, _⟩ => ?_
  have h := facts_int h
  conv => whnf
  repeat' (first
    | (refine rq_s (by first | rfl | (refine and_s rfl ?_; simp only [decide_eq_true_eq, List.length_map]; omega) | (simp only [Bool.and_eq_true, decide_eq_true_eq, List.length_map]; omega) | (simp; done) | (simp; omega) ) ?_; conv => whnf)
    | (refine aft_s rfl rfl ?_; conv => whnf)
    | (refine row_s (by first | (try simp only [Int.toNat_natCast]); exact row_map boolR _ _ _ default (by first | omega | (simp; omega))) ?_; conv => whnf)
    | (refine rows_s (by first | (refine sub_all ?_; simp [List.length_map]; done) | exact sub_map _ _ _ _ | rfl) ?_; conv => whnf)
    | (refine fac_s (fun hf => ?_); conv => whnf)
    | (refine ChkS.mk (by kernel_rfl) ?_; conv => whnf)
    | (refine br_t rfl ?_; conv => whnf)
    | (refine br_f rfl ?_; conv => whnf)
    | (refine br_t (by assumption) ?_; conv => whnf)
    | (refine br_f (by assumption) ?_; conv => whnf)
    | (refine br_s (fun hb => ?_) (fun hb => ?_) <;> (try simp only [beq_iff_eq, bne_iff_ne, ne_eq, decide_eq_true_eq, decide_eq_false_iff_not, Int.not_lt, Int.not_le, Bool.false_eq_true, if_false, if_true, beq_eq_false_iff_ne, bne_eq_false_iff_eq, Bool.not_eq_true', Bool.not_eq_false', Int.ofNat_lt, Int.ofNat_le, Int.ofNat_inj, List.length_map, List.length_nil, List.length_cons] at hb) <;> conv => whnf)
    | (refine lend_s ?_; conv => whnf)
    | ((first | refine call_s (c67 ..) ?_); conv => whnf)
    | (refine sh_s ?_; (rw [← wrap_cell h.1 h.2])))
/-- May the action stand? -/
def actOK (a : Doing) : Bool :=
  if a.k = 1 ∨ a.k = 2 then inR a.n 0 3 && decide (a.l = []) else if a.k = 3 then inR a.n 1 4000 && decide (a.l = []) else if a.k = 4 then inR a.n (-2147483648) 2147483647 && decide (a.l = [])
  else if a.k = 5 then inR a.n 1 1000 && decide (a.l = []) else decide (a.k = 6) && decide (a.n = 0) && decide (a.l.length ≤ 400)
set_option maxHeartbeats 4000000 in
theorem c9 (a : Doing) : Con Try.prog 9 [actV a] (undefs [actV a]) (.bool (actOK a)) := by
  refine Con.ev 48 T_ok mix Try.func9 rfl rfl rfl rfl [.tmp 2] rfl ?_
  conv => whnf
  repeat' (first
    | (refine rq_s (by first | rfl | (refine and_s rfl ?_; simp only [decide_eq_true_eq, List.length_map]; omega) | (simp only [Bool.and_eq_true, decide_eq_true_eq, List.length_map]; omega) | (simp; done) | (simp; omega) ) ?_; conv => whnf)
    | (refine aft_s rfl rfl ?_; conv => whnf)
    | (refine row_s (by first | (try simp only [Int.toNat_natCast]); exact row_map boolR _ _ _ default (by first | omega | (simp; omega))) ?_; conv => whnf)
    | (refine rows_s (by first | (refine sub_all ?_; simp [List.length_map]; done) | exact sub_map _ _ _ _ | rfl) ?_; conv => whnf)
    | (refine fac_s (fun hf => ?_); conv => whnf)
    | (refine ChkS.mk (by kernel_rfl) ?_; conv => whnf)
    | (refine br_t rfl ?_; conv => whnf)
    | (refine br_f rfl ?_; conv => whnf)
    | (refine br_t (by assumption) ?_; conv => whnf)
    | (refine br_f (by assumption) ?_; conv => whnf)
    | (refine br_s (fun hb => ?_) (fun hb => ?_) <;> (try simp only [beq_iff_eq, bne_iff_ne, ne_eq, decide_eq_true_eq, decide_eq_false_iff_not, Int.not_lt, Int.not_le, Bool.false_eq_true, if_false, if_true, beq_eq_false_iff_ne, bne_eq_false_iff_eq, Bool.not_eq_true', Bool.not_eq_false', Int.ofNat_lt, Int.ofNat_le, Int.ofNat_inj, List.length_map, List.length_nil, List.length_cons] at hb) <;> conv => whnf)
    | (refine lend_s ?_; conv => whnf)
    | ((first | refine call_s (c38 ..) ?_ | refine call_s (c39 ..) ?_); conv => whnf)
    | (refine sh_s ?_; first | (simp_all [actOK]; done) | (congr 1; rw [Bool.eq_iff_iff]; simp_all [actOK]; done) | (congr 1; rw [Bool.eq_iff_iff]; simp_all [actOK]; omega)))
set_option maxHeartbeats 4000000 in
theorem c11 (a : Doing) : Con Try.prog 11 [actV a] (undefs [actV a]) (.bool (actOK a)) := by
  refine Con.ev 60 T_ok mix Try.func11 rfl rfl rfl rfl [.tmp 2] rfl ?_
  conv => whnf
  repeat' (first
    | (refine rq_s (by first | rfl | (refine and_s rfl ?_; simp only [decide_eq_true_eq, List.length_map]; omega) | (simp only [Bool.and_eq_true, decide_eq_true_eq, List.length_map]; omega) | (simp; done) | (simp; omega) ) ?_; conv => whnf)
    | (refine aft_s rfl rfl ?_; conv => whnf)
    | (refine row_s (by first | (try simp only [Int.toNat_natCast]); exact row_map boolR _ _ _ default (by first | omega | (simp; omega))) ?_; conv => whnf)
    | (refine rows_s (by first | (refine sub_all ?_; simp [List.length_map]; done) | exact sub_map _ _ _ _ | rfl) ?_; conv => whnf)
    | (refine fac_s (fun hf => ?_); conv => whnf)
    | (refine ChkS.mk (by kernel_rfl) ?_; conv => whnf)
    | (refine br_t rfl ?_; conv => whnf)
    | (refine br_f rfl ?_; conv => whnf)
    | (refine br_t (by assumption) ?_; conv => whnf)
    | (refine br_f (by assumption) ?_; conv => whnf)
    | (refine br_s (fun hb => ?_) (fun hb => ?_) <;> (try simp only [beq_iff_eq, bne_iff_ne, ne_eq, decide_eq_true_eq, decide_eq_false_iff_not, Int.not_lt, Int.not_le, Bool.false_eq_true, if_false, if_true, beq_eq_false_iff_ne, bne_eq_false_iff_eq, Bool.not_eq_true', Bool.not_eq_false', Int.ofNat_lt, Int.ofNat_le, Int.ofNat_inj, List.length_map, List.length_nil, List.length_cons] at hb) <;> conv => whnf)
    | (refine lend_s ?_; conv => whnf)
    | ((first | refine call_s (c40 ..) ?_ | refine call_s (c41 ..) ?_ | refine call_s (c42 ..) ?_); conv => whnf)
    | (refine sh_s ?_; first | (simp_all [actOK]; done) | (congr 1; rw [Bool.eq_iff_iff]; simp_all [actOK]; done) | (congr 1; rw [Bool.eq_iff_iff]; simp_all [actOK]; omega)))
def long (rs : List Doing) : Bool := decide (4096 < rs.length)
theorem c87 (rs : List Doing) : Con Try.prog 87 [roA rs] (undefs [roA rs]) (.bool (long rs)) := by
  refine Con.ev 6 T_ok mix Try.func87 rfl rfl rfl rfl [.tmp 2] rfl ?_
  conv => whnf
  repeat' (first
    | (refine rq_s (by first | rfl | (refine and_s rfl ?_; simp only [decide_eq_true_eq, List.length_map]; omega) | (simp only [Bool.and_eq_true, decide_eq_true_eq, List.length_map]; omega) | (simp; done) | (simp; omega) ) ?_; conv => whnf)
    | (refine aft_s rfl rfl ?_; conv => whnf)
    | (refine row_s (by first | (try simp only [Int.toNat_natCast]); exact row_map boolR _ _ _ default (by first | omega | (simp; omega))) ?_; conv => whnf)
    | (refine rows_s (by first | (refine sub_all ?_; simp [List.length_map]; done) | exact sub_map _ _ _ _ | rfl) ?_; conv => whnf)
    | (refine fac_s (fun hf => ?_); conv => whnf)
    | (refine ChkS.mk (by kernel_rfl) ?_; conv => whnf)
    | (refine br_t rfl ?_; conv => whnf)
    | (refine br_f rfl ?_; conv => whnf)
    | (refine br_t (by assumption) ?_; conv => whnf)
    | (refine br_f (by assumption) ?_; conv => whnf)
    | (refine br_s (fun hb => ?_) (fun hb => ?_) <;> (try simp only [beq_iff_eq, bne_iff_ne, ne_eq, decide_eq_true_eq, decide_eq_false_iff_not, Int.not_lt, Int.not_le, Bool.false_eq_true, if_false, if_true, beq_eq_false_iff_ne, bne_eq_false_iff_eq, Bool.not_eq_true', Bool.not_eq_false', Int.ofNat_lt, Int.ofNat_le, Int.ofNat_inj, List.length_map, List.length_nil, List.length_cons] at hb) <;> conv => whnf)
    | (refine lend_s ?_; conv => whnf)
    
    | (refine sh_s ?_; (simp [long]; omega)))
def raR (rs : List Doing) : List AV := [roA rs]
def roAA (rss : List (List Doing)) : AV := .ro [.emp] (rss.map raR)

theorem c92 (rs : List (List Doing)) : Con Try.prog 92 [roAA rs, .fn 87 []] (undefs [roAA rs, .fn 87 []]) (.int .i64 (findI long rs)) := by
  refine Con.evF 19 T_ok mix Try.func92 rfl rfl rfl rfl [.tmp 4] rfl fun ⟨hx, _⟩ => ?_
  have hx := facts_len hx
  conv => whnf
  repeat' (first
    | (refine rq_s (by first | rfl | (refine and_s rfl ?_; simp only [decide_eq_true_eq, List.length_map]; omega) | (simp only [Bool.and_eq_true, decide_eq_true_eq, List.length_map]; omega) | (simp; done) | (simp; omega) ) ?_; conv => whnf)
    | (refine aft_s rfl rfl ?_; conv => whnf)
    | (refine row_s (by first | (try simp only [Int.toNat_natCast]); exact row_map raR _ _ _ default (by first | omega | (simp; omega))) ?_; conv => whnf)
    | (refine rows_s (by first | (refine sub_all ?_; simp [List.length_map]; done) | exact sub_map _ _ _ _ | rfl) ?_; conv => whnf)
    | (refine fac_s (fun hf => ?_); conv => whnf)
    | (refine ChkS.mk (by kernel_rfl) ?_; conv => whnf)
    | (refine br_t rfl ?_; conv => whnf)
    | (refine br_f rfl ?_; conv => whnf)
    | (refine br_t (by assumption) ?_; conv => whnf)
    | (refine br_f (by assumption) ?_; conv => whnf)
    | (refine br_s (fun hb => ?_) (fun hb => ?_) <;> (try simp only [beq_iff_eq, bne_iff_ne, ne_eq, decide_eq_true_eq, decide_eq_false_iff_not, Int.not_lt, Int.not_le, Bool.false_eq_true, if_false, if_true, beq_eq_false_iff_ne, bne_eq_false_iff_eq, Bool.not_eq_true', Bool.not_eq_false', Int.ofNat_lt, Int.ofNat_le, Int.ofNat_inj, List.length_map, List.length_nil, List.length_cons] at hb) <;> conv => whnf)
    | (refine lend_s ?_; conv => whnf)
    
    )
  refine LoopG.rounds (α := Nat) T_ok mix [0, 1, 7, 8] [] (fun i => [(0, roAA rs), (1, .fn 87 []), (7, .int .i64 rs.length), (8, .int .i64 i)]) (fun _ => []) (fun i => i ≤ rs.length ∧ ∀ j, j < i → long (rs.getD j default) = false) (fun i => rs.length - i) ?_ ?_
  · conv => whnf
    exact head_s 0 ⟨by simp, fun j hj => by omega⟩ (by simp [roAA]) rfl
  · rintro i ⟨h1, h2⟩ - -
    conv => whnf
    repeat' (first
    | (refine rq_s (by first | rfl | (refine and_s rfl ?_; simp only [decide_eq_true_eq, List.length_map]; omega) | (simp only [Bool.and_eq_true, decide_eq_true_eq, List.length_map]; omega) | (simp; done) | (simp; omega) ) ?_; conv => whnf)
    | (refine aft_s rfl rfl ?_; conv => whnf)
    | (refine row_s (by first | (try simp only [Int.toNat_natCast]); exact row_map raR _ _ _ default (by first | omega | (simp; omega))) ?_; conv => whnf)
    | (refine rows_s (by first | (refine sub_all ?_; simp [List.length_map]; done) | exact sub_map _ _ _ _ | rfl) ?_; conv => whnf)
    | (refine fac_s (fun hf => ?_); conv => whnf)
    | (refine ChkS.mk (by kernel_rfl) ?_; conv => whnf)
    | (refine br_t rfl ?_; conv => whnf)
    | (refine br_f rfl ?_; conv => whnf)
    | (refine br_t (by assumption) ?_; conv => whnf)
    | (refine br_f (by assumption) ?_; conv => whnf)
    | (refine br_s (fun hb => ?_) (fun hb => ?_) <;> (try simp only [beq_iff_eq, bne_iff_ne, ne_eq, decide_eq_true_eq, decide_eq_false_iff_not, Int.not_lt, Int.not_le, Bool.false_eq_true, if_false, if_true, beq_eq_false_iff_ne, bne_eq_false_iff_eq, Bool.not_eq_true', Bool.not_eq_false', Int.ofNat_lt, Int.ofNat_le, Int.ofNat_inj, List.length_map, List.length_nil, List.length_cons] at hb) <;> conv => whnf)
    | (refine lend_s ?_; conv => whnf)
    | ((first | refine call_s (c87 ..) ?_); conv => whnf)
    )
    · refine sh_s ?_
      rw [findI_hit default (by assumption) hb h2]
    · refine head_s (i + 1) ⟨⟨by omega, fun j hj => ?_⟩, by omega⟩ (by rw [wrap64 (by omega) (by omega)]; rfl) rfl
      by_cases hji : j = i
      · subst hji; exact hb
      · exact h2 j (by omega)
    · refine sh_s ?_
      rw [findI_none default fun j hj => h2 j (by omega)]
theorem c86 (rs : List (List Doing)) : Con Try.prog 86 [roAA rs, .fn 87 []] (undefs [roAA rs, .fn 87 []]) (.bool (rs.any long)) := by
  refine Con.ev 9 T_ok mix Try.func86 rfl rfl rfl rfl [.tmp 4] rfl ?_
  conv => whnf
  repeat' (first
    | (refine rq_s (by first | rfl | (refine and_s rfl ?_; simp only [decide_eq_true_eq, List.length_map]; omega) | (simp only [Bool.and_eq_true, decide_eq_true_eq, List.length_map]; omega) | (simp; done) | (simp; omega) ) ?_; conv => whnf)
    | (refine aft_s rfl rfl ?_; conv => whnf)
    | (refine row_s (by first | (try simp only [Int.toNat_natCast]); exact row_map raR _ _ _ default (by first | omega | (simp; omega))) ?_; conv => whnf)
    | (refine rows_s (by first | (refine sub_all ?_; simp [List.length_map]; done) | exact sub_map _ _ _ _ | rfl) ?_; conv => whnf)
    | (refine fac_s (fun hf => ?_); conv => whnf)
    | (refine ChkS.mk (by kernel_rfl) ?_; conv => whnf)
    | (refine br_t rfl ?_; conv => whnf)
    | (refine br_f rfl ?_; conv => whnf)
    | (refine br_t (by assumption) ?_; conv => whnf)
    | (refine br_f (by assumption) ?_; conv => whnf)
    | (refine br_s (fun hb => ?_) (fun hb => ?_) <;> (try simp only [beq_iff_eq, bne_iff_ne, ne_eq, decide_eq_true_eq, decide_eq_false_iff_not, Int.not_lt, Int.not_le, Bool.false_eq_true, if_false, if_true, beq_eq_false_iff_ne, bne_eq_false_iff_eq, Bool.not_eq_true', Bool.not_eq_false', Int.ofNat_lt, Int.ofNat_le, Int.ofNat_inj, List.length_map, List.length_nil, List.length_cons] at hb) <;> conv => whnf)
    | (refine lend_s ?_; conv => whnf)
    | ((first | refine call_s (c92 ..) ?_); conv => whnf)
    | (refine sh_s ?_; (rw [← findI_any])))
theorem c70 (rss : List (List Doing)) : Con Try.prog 70 [roAA rss] (undefs [roAA rss]) (.bool (rss.any long)) := by
  refine Con.ev 5 T_ok mix Try.func70 rfl rfl rfl rfl [.tmp 2] rfl ?_
  conv => whnf
  repeat' (first
    | (refine rq_s (by first | rfl | (refine and_s rfl ?_; simp only [decide_eq_true_eq, List.length_map]; omega) | (simp only [Bool.and_eq_true, decide_eq_true_eq, List.length_map]; omega) | (simp; done) | (simp; omega) ) ?_; conv => whnf)
    | (refine aft_s rfl rfl ?_; conv => whnf)
    | (refine row_s (by first | (try simp only [Int.toNat_natCast]); exact row_map raR _ _ _ default (by first | omega | (simp; omega))) ?_; conv => whnf)
    | (refine rows_s (by first | (refine sub_all ?_; simp [List.length_map]; done) | exact sub_map _ _ _ _ | rfl) ?_; conv => whnf)
    | (refine fac_s (fun hf => ?_); conv => whnf)
    | (refine ChkS.mk (by kernel_rfl) ?_; conv => whnf)
    | (refine br_t rfl ?_; conv => whnf)
    | (refine br_f rfl ?_; conv => whnf)
    | (refine br_t (by assumption) ?_; conv => whnf)
    | (refine br_f (by assumption) ?_; conv => whnf)
    | (refine br_s (fun hb => ?_) (fun hb => ?_) <;> (try simp only [beq_iff_eq, bne_iff_ne, ne_eq, decide_eq_true_eq, decide_eq_false_iff_not, Int.not_lt, Int.not_le, Bool.false_eq_true, if_false, if_true, beq_eq_false_iff_ne, bne_eq_false_iff_eq, Bool.not_eq_true', Bool.not_eq_false', Int.ofNat_lt, Int.ofNat_le, Int.ofNat_inj, List.length_map, List.length_nil, List.length_cons] at hb) <;> conv => whnf)
    | (refine lend_s ?_; conv => whnf)
    | ((first | refine call_s (c86 ..) ?_); conv => whnf)
    | (refine sh_s ?_; rfl))
def badAct (a : Doing) : Bool := !actOK a
theorem c72 (a : Doing) : Con Try.prog 72 [actV a] (undefs [actV a]) (.bool (badAct a)) := by
  refine Con.ev 6 T_ok mix Try.func72 rfl rfl rfl rfl [.tmp 2] rfl ?_
  conv => whnf
  repeat' (first
    | (refine rq_s (by first | rfl | (refine and_s rfl ?_; simp only [decide_eq_true_eq, List.length_map]; omega) | (simp only [Bool.and_eq_true, decide_eq_true_eq, List.length_map]; omega) | (simp; done) | (simp; omega) ) ?_; conv => whnf)
    | (refine aft_s rfl rfl ?_; conv => whnf)
    | (refine row_s (by first | (try simp only [Int.toNat_natCast]); exact row_map raR _ _ _ default (by first | omega | (simp; omega))) ?_; conv => whnf)
    | (refine rows_s (by first | (refine sub_all ?_; simp [List.length_map]; done) | exact sub_map _ _ _ _ | rfl) ?_; conv => whnf)
    | (refine fac_s (fun hf => ?_); conv => whnf)
    | (refine ChkS.mk (by kernel_rfl) ?_; conv => whnf)
    | (refine br_t rfl ?_; conv => whnf)
    | (refine br_f rfl ?_; conv => whnf)
    | (refine br_t (by assumption) ?_; conv => whnf)
    | (refine br_f (by assumption) ?_; conv => whnf)
    | (refine br_s (fun hb => ?_) (fun hb => ?_) <;> (try simp only [beq_iff_eq, bne_iff_ne, ne_eq, decide_eq_true_eq, decide_eq_false_iff_not, Int.not_lt, Int.not_le, Bool.false_eq_true, if_false, if_true, beq_eq_false_iff_ne, bne_eq_false_iff_eq, Bool.not_eq_true', Bool.not_eq_false', Int.ofNat_lt, Int.ofNat_le, Int.ofNat_inj, List.length_map, List.length_nil, List.length_cons] at hb) <;> conv => whnf)
    | (refine lend_s ?_; conv => whnf)
    | ((first | refine call_s (c11 ..) ?_); conv => whnf)
    | (refine sh_s ?_; rfl))

theorem c88 (rs : List (Doing)) : Con Try.prog 88 [roA rs, .fn 72 []] (undefs [roA rs, .fn 72 []]) (.int .i64 (findI badAct rs)) := by
  refine Con.evF 19 T_ok mix Try.func88 rfl rfl rfl rfl [.tmp 4] rfl fun ⟨hx, _⟩ => ?_
  have hx := facts_len hx
  conv => whnf
  repeat' (first
    | (refine rq_s (by first | rfl | (refine and_s rfl ?_; simp only [decide_eq_true_eq, List.length_map]; omega) | (simp only [Bool.and_eq_true, decide_eq_true_eq, List.length_map]; omega) | (simp; done) | (simp; omega) ) ?_; conv => whnf)
    | (refine aft_s rfl rfl ?_; conv => whnf)
    | (refine row_s (by first | (try simp only [Int.toNat_natCast]); exact row_map actR _ _ _ default (by first | omega | (simp; omega))) ?_; conv => whnf)
    | (refine rows_s (by first | (refine sub_all ?_; simp [List.length_map]; done) | exact sub_map _ _ _ _ | rfl) ?_; conv => whnf)
    | (refine fac_s (fun hf => ?_); conv => whnf)
    | (refine ChkS.mk (by kernel_rfl) ?_; conv => whnf)
    | (refine br_t rfl ?_; conv => whnf)
    | (refine br_f rfl ?_; conv => whnf)
    | (refine br_t (by assumption) ?_; conv => whnf)
    | (refine br_f (by assumption) ?_; conv => whnf)
    | (refine br_s (fun hb => ?_) (fun hb => ?_) <;> (try simp only [beq_iff_eq, bne_iff_ne, ne_eq, decide_eq_true_eq, decide_eq_false_iff_not, Int.not_lt, Int.not_le, Bool.false_eq_true, if_false, if_true, beq_eq_false_iff_ne, bne_eq_false_iff_eq, Bool.not_eq_true', Bool.not_eq_false', Int.ofNat_lt, Int.ofNat_le, Int.ofNat_inj, List.length_map, List.length_nil, List.length_cons] at hb) <;> conv => whnf)
    | (refine lend_s ?_; conv => whnf)
    
    )
  refine LoopG.rounds (α := Nat) T_ok mix [0, 1, 7, 8] [] (fun i => [(0, roA rs), (1, .fn 72 []), (7, .int .i64 rs.length), (8, .int .i64 i)]) (fun _ => []) (fun i => i ≤ rs.length ∧ ∀ j, j < i → badAct (rs.getD j default) = false) (fun i => rs.length - i) ?_ ?_
  · conv => whnf
    exact head_s 0 ⟨by simp, fun j hj => by omega⟩ (by simp [roA]) rfl
  · rintro i ⟨h1, h2⟩ - -
    conv => whnf
    repeat' (first
    | (refine rq_s (by first | rfl | (refine and_s rfl ?_; simp only [decide_eq_true_eq, List.length_map]; omega) | (simp only [Bool.and_eq_true, decide_eq_true_eq, List.length_map]; omega) | (simp; done) | (simp; omega) ) ?_; conv => whnf)
    | (refine aft_s rfl rfl ?_; conv => whnf)
    | (refine row_s (by first | (try simp only [Int.toNat_natCast]); exact row_map actR _ _ _ default (by first | omega | (simp; omega))) ?_; conv => whnf)
    | (refine rows_s (by first | (refine sub_all ?_; simp [List.length_map]; done) | exact sub_map _ _ _ _ | rfl) ?_; conv => whnf)
    | (refine fac_s (fun hf => ?_); conv => whnf)
    | (refine ChkS.mk (by kernel_rfl) ?_; conv => whnf)
    | (refine br_t rfl ?_; conv => whnf)
    | (refine br_f rfl ?_; conv => whnf)
    | (refine br_t (by assumption) ?_; conv => whnf)
    | (refine br_f (by assumption) ?_; conv => whnf)
    | (refine br_s (fun hb => ?_) (fun hb => ?_) <;> (try simp only [beq_iff_eq, bne_iff_ne, ne_eq, decide_eq_true_eq, decide_eq_false_iff_not, Int.not_lt, Int.not_le, Bool.false_eq_true, if_false, if_true, beq_eq_false_iff_ne, bne_eq_false_iff_eq, Bool.not_eq_true', Bool.not_eq_false', Int.ofNat_lt, Int.ofNat_le, Int.ofNat_inj, List.length_map, List.length_nil, List.length_cons] at hb) <;> conv => whnf)
    | (refine lend_s ?_; conv => whnf)
    | ((first | refine call_s (c72 ..) ?_); conv => whnf)
    )
    · refine sh_s ?_
      rw [findI_hit default (by assumption) hb h2]
    · refine head_s (i + 1) ⟨⟨by omega, fun j hj => ?_⟩, by omega⟩ (by rw [wrap64 (by omega) (by omega)]; rfl) rfl
      by_cases hji : j = i
      · subst hji; exact hb
      · exact h2 j (by omega)
    · refine sh_s ?_
      rw [findI_none default fun j hj => h2 j (by omega)]
theorem c71 (rs : List (Doing)) : Con Try.prog 71 [roA rs, .fn 72 []] (undefs [roA rs, .fn 72 []]) (.bool (rs.any badAct)) := by
  refine Con.ev 9 T_ok mix Try.func71 rfl rfl rfl rfl [.tmp 4] rfl ?_
  conv => whnf
  repeat' (first
    | (refine rq_s (by first | rfl | (refine and_s rfl ?_; simp only [decide_eq_true_eq, List.length_map]; omega) | (simp only [Bool.and_eq_true, decide_eq_true_eq, List.length_map]; omega) | (simp; done) | (simp; omega) ) ?_; conv => whnf)
    | (refine aft_s rfl rfl ?_; conv => whnf)
    | (refine row_s (by first | (try simp only [Int.toNat_natCast]); exact row_map actR _ _ _ default (by first | omega | (simp; omega))) ?_; conv => whnf)
    | (refine rows_s (by first | (refine sub_all ?_; simp [List.length_map]; done) | exact sub_map _ _ _ _ | rfl) ?_; conv => whnf)
    | (refine fac_s (fun hf => ?_); conv => whnf)
    | (refine ChkS.mk (by kernel_rfl) ?_; conv => whnf)
    | (refine br_t rfl ?_; conv => whnf)
    | (refine br_f rfl ?_; conv => whnf)
    | (refine br_t (by assumption) ?_; conv => whnf)
    | (refine br_f (by assumption) ?_; conv => whnf)
    | (refine br_s (fun hb => ?_) (fun hb => ?_) <;> (try simp only [beq_iff_eq, bne_iff_ne, ne_eq, decide_eq_true_eq, decide_eq_false_iff_not, Int.not_lt, Int.not_le, Bool.false_eq_true, if_false, if_true, beq_eq_false_iff_ne, bne_eq_false_iff_eq, Bool.not_eq_true', Bool.not_eq_false', Int.ofNat_lt, Int.ofNat_le, Int.ofNat_inj, List.length_map, List.length_nil, List.length_cons] at hb) <;> conv => whnf)
    | (refine lend_s ?_; conv => whnf)
    | ((first | refine call_s (c88 ..) ?_); conv => whnf)
    | (refine sh_s ?_; (rw [← findI_any])))
def code (rs : List Doing) : Int := if rs.length > 4096 then 2 else if rs.length > 40 then 6 else if rs.any badAct then 1 else 0
theorem c50 (rs : List Doing) : Con Try.prog 50 [roA rs] (undefs [roA rs]) (.int .i64 (code rs)) := by
  refine Con.ev 14 T_ok mix Try.func50 rfl rfl rfl rfl [.tmp 2] rfl ?_
  conv => whnf
  repeat' (first
    | (refine rq_s (by first | rfl | (refine and_s rfl ?_; simp only [decide_eq_true_eq, List.length_map]; omega) | (simp only [Bool.and_eq_true, decide_eq_true_eq, List.length_map]; omega) | (simp; done) | (simp; omega) ) ?_; conv => whnf)
    | (refine aft_s rfl rfl ?_; conv => whnf)
    | (refine row_s (by first | (try simp only [Int.toNat_natCast]); exact row_map actR _ _ _ default (by first | omega | (simp; omega))) ?_; conv => whnf)
    | (refine rows_s (by first | (refine sub_all ?_; simp [List.length_map]; done) | exact sub_map _ _ _ _ | rfl) ?_; conv => whnf)
    | (refine fac_s (fun hf => ?_); conv => whnf)
    | (refine ChkS.mk (by kernel_rfl) ?_; conv => whnf)
    | (refine br_t rfl ?_; conv => whnf)
    | (refine br_f rfl ?_; conv => whnf)
    | (refine br_t (by assumption) ?_; conv => whnf)
    | (refine br_f (by assumption) ?_; conv => whnf)
    | (refine br_s (fun hb => ?_) (fun hb => ?_) <;> (try simp only [beq_iff_eq, bne_iff_ne, ne_eq, decide_eq_true_eq, decide_eq_false_iff_not, Int.not_lt, Int.not_le, Bool.false_eq_true, if_false, if_true, beq_eq_false_iff_ne, bne_eq_false_iff_eq, Bool.not_eq_true', Bool.not_eq_false', Int.ofNat_lt, Int.ofNat_le, Int.ofNat_inj, List.length_map, List.length_nil, List.length_cons] at hb) <;> conv => whnf)
    | (refine lend_s ?_; conv => whnf)
    | ((first | refine call_s (c70 [rs] ..) ?_ | refine call_s (c71 ..) ?_); conv => whnf)
    | (refine sh_s ?_; first | (simp_all [code, long]; done) | (simp_all [code, long]; omega) | (have h1 : ([rs] : List (List Doing)).any long = false := (by assumption); simp [long] at h1; rw [code, if_neg (by omega), if_neg (by omega), hb]; rfl)))
theorem c49 (rs : List Doing) : Con Try.prog 49 [roA rs] (undefs [roA rs]) (.int .i64 (code rs)) := by
  refine Con.evF 22 T_ok mix Try.func49 rfl rfl rfl rfl [.tmp 2] rfl fun ⟨hx, _⟩ => ?_
  have hx := facts_len hx
  conv => whnf
  repeat' (first
    | (refine rq_s (by first | rfl | (refine and_s rfl ?_; simp only [decide_eq_true_eq, List.length_map]; omega) | (simp only [Bool.and_eq_true, decide_eq_true_eq, List.length_map]; omega) | (simp; done) | (simp; omega) ) ?_; conv => whnf)
    | (refine aft_s rfl rfl ?_; conv => whnf)
    | (refine row_s (by first | (try simp only [Int.toNat_natCast]); exact row_map actR _ _ _ default (by first | omega | (simp; omega))) ?_; conv => whnf)
    | (refine rows_s (by first | (refine sub_all ?_; simp [List.length_map]; done) | exact sub_map _ _ _ _ | rfl) ?_; conv => whnf)
    | (refine fac_s (fun hf => ?_); conv => whnf)
    | (refine ChkS.mk (by kernel_rfl) ?_; conv => whnf)
    | (refine br_t rfl ?_; conv => whnf)
    | (refine br_f rfl ?_; conv => whnf)
    | (refine br_t (by assumption) ?_; conv => whnf)
    | (refine br_f (by assumption) ?_; conv => whnf)
    | (refine br_s (fun hb => ?_) (fun hb => ?_) <;> (try simp only [beq_iff_eq, bne_iff_ne, ne_eq, decide_eq_true_eq, decide_eq_false_iff_not, Int.not_lt, Int.not_le, Bool.false_eq_true, if_false, if_true, beq_eq_false_iff_ne, bne_eq_false_iff_eq, Bool.not_eq_true', Bool.not_eq_false', Int.ofNat_lt, Int.ofNat_le, Int.ofNat_inj, List.length_map, List.length_nil, List.length_cons] at hb) <;> conv => whnf)
    | (refine lend_s ?_; conv => whnf)
    
    | (refine sh_s ?_; first | (simp_all [code]; done) | (simp_all [code]; omega)))
  have hc1 : ¬ rs.length > 4096 := by omega
  have hc2 : ¬ rs.length > 40 := by omega
  clear hb
  refine LoopG.rounds (α := Nat) T_ok mix [0, 3] [] (fun i => [(0, roA rs), (3, .int .i64 i)]) (fun _ => []) (fun i => i ≤ rs.length ∧ ∀ j, j < i → badAct (rs.getD j default) = false) (fun i => rs.length - i) ?_ ?_
  · conv => whnf
    exact head_s 0 ⟨by simp, fun j hj => by omega⟩ (by simp [roA]) rfl
  · rintro i ⟨h1, h2⟩ - -
    conv => whnf
    repeat' (first
    | (refine rq_s (by first | rfl | (refine and_s rfl ?_; simp only [decide_eq_true_eq, List.length_map]; omega) | (simp only [Bool.and_eq_true, decide_eq_true_eq, List.length_map]; omega) | (simp; done) | (simp; omega) ) ?_; conv => whnf)
    | (refine aft_s rfl rfl ?_; conv => whnf)
    | (refine row_s (by first | (try simp only [Int.toNat_natCast]); exact row_map actR _ _ _ default (by first | omega | (simp; omega))) ?_; conv => whnf)
    | (refine rows_s (by first | (refine sub_all ?_; simp [List.length_map]; done) | exact sub_map _ _ _ _ | rfl) ?_; conv => whnf)
    | (refine fac_s (fun hf => ?_); conv => whnf)
    | (refine ChkS.mk (by kernel_rfl) ?_; conv => whnf)
    | (refine br_t rfl ?_; conv => whnf)
    | (refine br_f rfl ?_; conv => whnf)
    | (refine br_t (by assumption) ?_; conv => whnf)
    | (refine br_f (by assumption) ?_; conv => whnf)
    | (refine br_s (fun hb => ?_) (fun hb => ?_) <;> (try simp only [beq_iff_eq, bne_iff_ne, ne_eq, decide_eq_true_eq, decide_eq_false_iff_not, Int.not_lt, Int.not_le, Bool.false_eq_true, if_false, if_true, beq_eq_false_iff_ne, bne_eq_false_iff_eq, Bool.not_eq_true', Bool.not_eq_false', Int.ofNat_lt, Int.ofNat_le, Int.ofNat_inj, List.length_map, List.length_nil, List.length_cons] at hb) <;> conv => whnf)
    | (refine lend_s ?_; conv => whnf)
    | ((first | refine call_s (c9 ..) ?_); conv => whnf)
    )
    · refine sh_s ?_
      have hi : i < rs.length := by assumption
      have : rs.any badAct = true := List.any_eq_true.2 ⟨rs[i], List.getElem_mem hi, by simpa [badAct, hi] using hb⟩
      rw [code, if_neg hc1, if_neg hc2, this]; rfl
    · refine head_s (i + 1) ⟨⟨by omega, fun j hj => ?_⟩, by omega⟩ (by rw [wrap64 (by omega) (by omega)]; rfl) rfl
      by_cases hji : j = i
      · subst hji; simp [badAct]; simpa using hb
      · exact h2 j (by omega)
    · refine sh_s ?_
      have : rs.any badAct = false := by
        rw [List.any_eq_false]
        intro x hx
        obtain ⟨j, hj, rfl⟩ := List.mem_iff_getElem.1 hx
        have := h2 j (by omega)
        simpa [hj] using this
      rw [code, if_neg hc1, if_neg hc2, this]; rfl
theorem code_ok {rs : List Doing} (h : code rs = 0) : rs.length ≤ 40 ∧ ∀ a ∈ rs, (a.k = 1 ∨ a.k = 2) → 0 ≤ a.n ∧ a.n ≤ 3 := by
  unfold code at h
  split at h
  · omega
  · split at h
    · omega
    · split at h
      · omega
      · rename_i h1 h2 h3
        refine ⟨by omega, fun a ha hk => ?_⟩
        have : actOK a = true := by
          have := h3
          simp only [Bool.not_eq_true, List.any_eq_false] at this
          have := this a ha
          simpa [badAct] using this
        unfold actOK at this
        rw [if_pos hk] at this
        simp [inR] at this
        omega
def grStep (g : List Bool) (a : Doing) : List Bool := if a.k = 1 ∨ a.k = 2 then g.set a.n.toNat (a.k == 1) else g
def gr (rs : List Doing) : List Bool := rs.foldl grStep [false, false, false, false]
theorem grStep_len (g : List Bool) (a : Doing) : (grStep g a).length = g.length := by unfold grStep; split <;> simp
theorem foldl_len : ∀ (rs : List Doing) (g : List Bool), (rs.foldl grStep g).length = g.length
  | [], g => rfl
  | a :: rs, g => by rw [List.foldl_cons, foldl_len rs, grStep_len]
theorem gr_len (rs : List Doing) : (gr rs).length = 4 := foldl_len _ _

theorem gr_next {rs : List Doing} {i : Nat} (h : i < rs.length) : gr (rs.take (i + 1)) = grStep (gr (rs.take i)) (rs.getD i default) := by
  unfold gr
  rw [List.take_succ_eq_append_getElem h, List.foldl_append, show rs.getD i default = rs[i] by simp [h]]
  rfl
theorem set_gr {g : List Bool} {i : Nat} {b : Bool} (z : List AV) (hg : g.length = 4) (h : i < 4) : setRow (g.map boolR) i 0 z [.bool b] = (g.set i b).map boolR := setRow_map _ _ _ _ _ b false (by omega) rfl rfl

theorem c51 (rs : List Doing) (hok : ∀ a ∈ rs, (a.k = 1 ∨ a.k = 2) → 0 ≤ a.n ∧ a.n ≤ 3) : Con Try.prog 51 [roA rs] (undefs [roA rs]) (ownB (gr rs)) := by
  refine Con.evF 30 T_ok mix Try.func51 rfl rfl rfl rfl [.tmp 2] rfl fun ⟨hx, _⟩ => ?_
  have hx := facts_len hx
  conv => whnf
  repeat' (first
    | (refine rq_s (by first | rfl | (refine and_s rfl ?_; simp only [decide_eq_true_eq, List.length_map]; omega) | (simp only [Bool.and_eq_true, decide_eq_true_eq, List.length_map]; omega) | (simp; done) | (simp; omega) ) ?_; conv => whnf)
    | (refine aft_s rfl rfl ?_; conv => whnf)
    | (refine row_s (by first | (try simp only [Int.toNat_natCast]); exact row_map actR _ _ _ default (by first | omega | (simp; omega))) ?_; conv => whnf)
    | (refine rows_s (by first | (refine sub_all ?_; simp [List.length_map, gr_len]; done) | exact sub_map _ _ _ _ | rfl) ?_; conv => whnf)
    | (refine fac_s (fun hf => ?_); conv => whnf)
    | (refine ChkS.mk (by kernel_rfl) ?_; conv => whnf)
    | (refine br_t rfl ?_; conv => whnf)
    | (refine br_f rfl ?_; conv => whnf)
    | (refine br_t (by assumption) ?_; conv => whnf)
    | (refine br_f (by assumption) ?_; conv => whnf)
    | (refine br_s (fun hb => ?_) (fun hb => ?_) <;> (try simp only [beq_iff_eq, bne_iff_ne, ne_eq, decide_eq_true_eq, decide_eq_false_iff_not, Int.not_lt, Int.not_le, Bool.false_eq_true, if_false, if_true, beq_eq_false_iff_ne, bne_eq_false_iff_eq, Bool.not_eq_true', Bool.not_eq_false', Int.ofNat_lt, Int.ofNat_le, Int.ofNat_inj, List.length_map, List.length_nil, List.length_cons] at hb) <;> conv => whnf)
    | (refine lend_s ?_; conv => whnf)
    
    )
  refine LoopG.rounds (α := Nat) T_ok mix [3, 7, 8, 9] [(6, 6)] (fun i => [(3, .ref 6 0 4), (7, roA rs), (8, .int .i64 rs.length), (9, .int .i64 i)]) (fun i => [(6, .live ⟨true, 0, [.bool false], (gr (rs.take i)).map boolR⟩)]) (fun i => i ≤ rs.length) (fun i => rs.length - i) ?_ ?_
  · conv => whnf
    exact head_s 0 (by simp) (by simp [roA]) (by rfl)
  · intro i h1 _ _
    have hlen := gr_len (rs.take i)
    have hki := fun hi : i < rs.length => hok (rs.getD i default) (by simp [hi])
    conv => whnf
    repeat' (first
    | (refine rq_s (by first | rfl | (refine and_s rfl ?_; simp only [decide_eq_true_eq, List.length_map]; omega) | (simp only [Bool.and_eq_true, decide_eq_true_eq, List.length_map]; omega) | (simp; done) | (simp; omega) ) ?_; conv => whnf)
    | (refine aft_s rfl rfl ?_; conv => whnf)
    | (refine row_s (by first | (try simp only [Int.toNat_natCast]); exact row_map actR _ _ _ default (by first | omega | (simp; omega))) ?_; conv => whnf)
    | (refine rows_s (by first | (refine sub_all ?_; simp [List.length_map, gr_len]; done) | exact sub_map _ _ _ _ | rfl) ?_; conv => whnf)
    | (refine fac_s (fun hf => ?_); conv => whnf)
    | (refine ChkS.mk (by kernel_rfl) ?_; conv => whnf)
    | (refine br_t rfl ?_; conv => whnf)
    | (refine br_f rfl ?_; conv => whnf)
    | (refine br_t (by assumption) ?_; conv => whnf)
    | (refine br_f (by assumption) ?_; conv => whnf)
    | (refine br_s (fun hb => ?_) (fun hb => ?_) <;> (try simp only [beq_iff_eq, bne_iff_ne, ne_eq, decide_eq_true_eq, decide_eq_false_iff_not, Int.not_lt, Int.not_le, Bool.false_eq_true, if_false, if_true, beq_eq_false_iff_ne, bne_eq_false_iff_eq, Bool.not_eq_true', Bool.not_eq_false', Int.ofNat_lt, Int.ofNat_le, Int.ofNat_inj, List.length_map, List.length_nil, List.length_cons] at hb) <;> conv => whnf)
    | (refine lend_s ?_; conv => whnf)
    
    )
    · have hk : (rs.getD i default).k = 1 := hb
      refine head_s (i + 1) ⟨by omega, by omega⟩ (by rw [wrap64 (by omega) (by omega)]; rfl) (congrArg (fun r => [(6, MB.live ⟨true, 0, [.bool false], r⟩)]) ?_)
      rw [Nat.zero_add, set_gr _ hlen (by omega), gr_next (by assumption), grStep, if_pos (.inl hk)]
    · have hk : (rs.getD i default).k = 2 := by simpa using hb
      refine head_s (i + 1) ⟨by omega, by omega⟩ (by rw [wrap64 (by omega) (by omega)]; rfl) (congrArg (fun r => [(6, MB.live ⟨true, 0, [.bool false], r⟩)]) ?_)
      rw [Nat.zero_add, set_gr _ hlen (by omega), gr_next (by assumption), grStep, if_pos (.inr hk)]
    · have hk : ¬ (rs.getD i default).k = 2 := by simpa using hb
      refine head_s (i + 1) ⟨by omega, by omega⟩ (by rw [wrap64 (by omega) (by omega)]; rfl) (congrArg (fun r => [(6, MB.live ⟨true, 0, [.bool false], r⟩)]) ?_)
      rw [gr_next (by assumption), grStep, if_neg (by rintro (h | h); exact absurd h (by assumption); exact hk h)]
    · obtain rfl : i = rs.length := by omega
      repeat' (first
    | (refine rq_s (by first | rfl | (refine and_s rfl ?_; simp only [decide_eq_true_eq, List.length_map]; omega) | (simp only [Bool.and_eq_true, decide_eq_true_eq, List.length_map]; omega) | (simp; done) | (simp; omega) ) ?_; conv => whnf)
    | (refine aft_s rfl rfl ?_; conv => whnf)
    | (refine row_s (by first | (try simp only [Int.toNat_natCast]); exact row_map actR _ _ _ default (by first | omega | (simp; omega))) ?_; conv => whnf)
    | (refine rows_s (by first | (refine sub_all ?_; simp [List.length_map, gr_len]; done) | exact sub_map _ _ _ _ | rfl) ?_; conv => whnf)
    | (refine fac_s (fun hf => ?_); conv => whnf)
    | (refine ChkS.mk (by kernel_rfl) ?_; conv => whnf)
    | (refine br_t rfl ?_; conv => whnf)
    | (refine br_f rfl ?_; conv => whnf)
    | (refine br_t (by assumption) ?_; conv => whnf)
    | (refine br_f (by assumption) ?_; conv => whnf)
    | (refine br_s (fun hb => ?_) (fun hb => ?_) <;> (try simp only [beq_iff_eq, bne_iff_ne, ne_eq, decide_eq_true_eq, decide_eq_false_iff_not, Int.not_lt, Int.not_le, Bool.false_eq_true, if_false, if_true, beq_eq_false_iff_ne, bne_eq_false_iff_eq, Bool.not_eq_true', Bool.not_eq_false', Int.ofNat_lt, Int.ofNat_le, Int.ofNat_inj, List.length_map, List.length_nil, List.length_cons] at hb) <;> conv => whnf)
    | (refine lend_s ?_; conv => whnf)
    
    | (refine sh_s ?_; (simp [ownB])))
def gaP (rs : List Doing) (n : Int) : List Bool × Int := if code rs ≠ 0 then ([], code rs) else if inR n 0 rs.length then (gr (rs.take n.toNat), 0) else ([], 4)
def gaV (rs : List Doing) (n : Int) : AV := .tup [ownB (gaP rs n).1, .int .i64 (gaP rs n).2]
theorem ga_code {rs : List Doing} {n : Int} (h : ¬ code rs = 0) : gaP rs n = ([], code rs) := by rw [gaP, if_pos h]
theorem ga_bad {rs : List Doing} {n : Int} (h : code rs = 0) (h2 : inR n 0 rs.length = false) : gaP rs n = ([], 4) := by rw [gaP, if_neg (by simpa using h), h2]; rfl
theorem ga_good {rs : List Doing} {n : Int} (h : code rs = 0) (h2 : inR n 0 rs.length = true) : gaP rs n = (gr (rs.take n.toNat), 0) := by rw [gaP, if_neg (by simpa using h), h2]; rfl
theorem sh_nil {k : Int} {rs : List Doing} {n : Int} (h : gaP rs n = ([], k)) : ShG (.tup [.emp, .int .i64 k]) (gaV rs n) := by
  refine ⟨?_⟩
  unfold gaV
  rw [h]
  exact Sh.tup ⟨Sh.emp_own 0 _, Sh.refl _, trivial⟩
theorem inR_of {n : Int} {m : Nat} (h : inR n 0 m = true) : 0 ≤ n ∧ n.toNat ≤ m := by
  simp [inR] at h
  omega
theorem c25 (rs : List Doing) (n : Int) : Con Try.prog 25 [roA rs, .int .i64 n] (undefs [roA rs, .int .i64 n]) (gaV rs n) := by
  refine Con.evF 21 T_ok mix Try.func25 rfl rfl rfl rfl [.tmp 4, .tmp 5] rfl fun ⟨hx, _⟩ => ?_
  have hx := facts_len hx
  conv => whnf
  repeat' (first
    | (refine rq_s (by first | rfl | (refine and_s rfl ?_; simp only [decide_eq_true_eq, List.length_map]; omega) | (simp only [Bool.and_eq_true, decide_eq_true_eq, List.length_map]; omega) | (simp; done) | (simp; omega) ) ?_; conv => whnf)
    | (refine aft_s rfl rfl ?_; conv => whnf)
    | (refine row_s (by first | (try simp only [Int.toNat_natCast]); exact row_map actR _ _ _ default (by first | omega | (simp; omega))) ?_; conv => whnf)
    | (refine rows_s (by first | (refine sub_all ?_; simp [List.length_map, gr_len]; done) | exact sub_map _ _ _ _ | rfl) ?_; conv => whnf)
    | (refine fac_s (fun hf => ?_); conv => whnf)
    | (refine ChkS.mk (by kernel_rfl) ?_; conv => whnf)
    | (refine br_t rfl ?_; conv => whnf)
    | (refine br_f rfl ?_; conv => whnf)
    | (refine br_t (by assumption) ?_; conv => whnf)
    | (refine br_f (by assumption) ?_; conv => whnf)
    | (refine br_s (fun hb => ?_) (fun hb => ?_) <;> (try simp only [beq_iff_eq, bne_iff_ne, ne_eq, decide_eq_true_eq, decide_eq_false_iff_not, Int.not_lt, Int.not_le, Bool.false_eq_true, if_false, if_true, beq_eq_false_iff_ne, bne_eq_false_iff_eq, Bool.not_eq_true', Bool.not_eq_false', Int.ofNat_lt, Int.ofNat_le, Int.ofNat_inj, List.length_map, List.length_nil, List.length_cons] at hb) <;> conv => whnf)
    | (refine lend_s ?_; conv => whnf)
    | ((first | refine call_s (c50 ..) ?_ | refine call_s (c41 ..) ?_); conv => whnf)
    )
  · exact sh_nil (ga_code hb)
  · exact sh_nil (ga_bad (by assumption) hb)
  · have hc : code rs = 0 := by assumption
    have hn := inR_of hb
    have hok := (code_ok hc).2
    repeat' (first
    | (refine rq_s (by first | rfl | (refine and_s rfl ?_; simp only [decide_eq_true_eq, List.length_map]; omega) | (simp only [Bool.and_eq_true, decide_eq_true_eq, List.length_map]; omega) | (simp; done) | (simp; omega) ) ?_; conv => whnf)
    | (refine aft_s rfl rfl ?_; conv => whnf)
    | (refine row_s (by first | (try simp only [Int.toNat_natCast]); exact row_map actR _ _ _ default (by first | omega | (simp; omega))) ?_; conv => whnf)
    | (refine rows_s (by first | (refine sub_all ?_; simp [List.length_map, gr_len]; done) | exact sub_map _ _ _ _ | rfl) ?_; conv => whnf)
    | (refine fac_s (fun hf => ?_); conv => whnf)
    | (refine ChkS.mk (by kernel_rfl) ?_; conv => whnf)
    | (refine br_t rfl ?_; conv => whnf)
    | (refine br_f rfl ?_; conv => whnf)
    | (refine br_t (by assumption) ?_; conv => whnf)
    | (refine br_f (by assumption) ?_; conv => whnf)
    | (refine br_s (fun hb => ?_) (fun hb => ?_) <;> (try simp only [beq_iff_eq, bne_iff_ne, ne_eq, decide_eq_true_eq, decide_eq_false_iff_not, Int.not_lt, Int.not_le, Bool.false_eq_true, if_false, if_true, beq_eq_false_iff_ne, bne_eq_false_iff_eq, Bool.not_eq_true', Bool.not_eq_false', Int.ofNat_lt, Int.ofNat_le, Int.ofNat_inj, List.length_map, List.length_nil, List.length_cons] at hb) <;> conv => whnf)
    | (refine lend_s ?_; conv => whnf)
    | ((first | refine call_s (c51 _ (fun a ha => hok a (List.mem_of_mem_take ha))) ?_ | refine call_s (c51 _ (fun a ha => hok a (List.mem_of_mem_drop (List.mem_of_mem_take ha)))) ?_); conv => whnf)
    | (refine sh_s ?_; (simp [gaV, ga_good hc hb, ownB, subA, List.take_of_length_le, gr_len])))
end U8
