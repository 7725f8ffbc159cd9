/- The functions that the law FnExactFuelUsed reaches, each with its contract; the law returns true. -/
import Derived.Test.YtbngkaiocdpliaaSameA
set_option linter.unusedVariables false
set_option linter.unusedSimpArgs false
set_option maxRecDepth 100000
open Go Go.Abs Go.Proofs
namespace U6
def T : TT := [(3, TI.mk (UT.int IntKind.i64) 1 8 [AV.int IntKind.i64 0] false),
  (4, TI.mk UT.bool 1 1 [AV.bool false] false),
  (9, TI.mk UT.str 1 16 [AV.str []] false),
  (29, TI.mk (UT.slice 3) 1 24 [AV.emp] false),
  (31, TI.mk (UT.struct [(0, 3), (1, 3), (2, 9), (3, 29), (4, 4)]) 5 64 [AV.int IntKind.i64 0, AV.int IntKind.i64 0, AV.str [], AV.emp, AV.bool false] true),
  (34, TI.mk (UT.struct [(0, 3), (1, 3), (2, 9), (3, 29), (4, 4)]) 5 64 [AV.int IntKind.i64 0, AV.int IntKind.i64 0, AV.str [], AV.emp, AV.bool false] true),
  (37, TI.mk (UT.slice 31) 1 24 [AV.emp] false),
  (41, TI.mk (UT.slice 34) 1 24 [AV.emp] false),
  (89, TI.mk (UT.slice 41) 1 24 [AV.emp] false),
  (91, TI.mk UT.func 1 8 [AV.nilfn] false)]
theorem T_ok : T.ok Try.prog := TT.ok_cons (by kernel_rfl) <| TT.ok_cons (by kernel_rfl) <| TT.ok_cons (by kernel_rfl) <| TT.ok_cons (by kernel_rfl) <| TT.ok_cons (by kernel_rfl) <| TT.ok_cons (by kernel_rfl) <| TT.ok_cons (by kernel_rfl) <| TT.ok_cons (by kernel_rfl) <| TT.ok_cons (by kernel_rfl) <| TT.ok_cons (by kernel_rfl) <| TT.ok_nil

theorem mix : Try.prog.follows .mixedOrders = true := by kernel_rfl
structure Rep where
  th : Int
  fu : Int
  sa : List UInt8
  st : List Int
  co : Bool
  deriving DecidableEq, Inhabited
def repR (r : Rep) : List AV := [.int .i64 r.th, .int .i64 r.fu, .str r.sa, roI r.st, .bool r.co]
def repV (r : Rep) : AV := .agg (repR r)
abbrev zRep : List AV := [.int .i64 0, .int .i64 0, .str [], .emp, .bool false]
def roR (rs : List Rep) : AV := .ro zRep (rs.map repR)
def szRep (r : Rep) (left : Int) : Int := U4.szR r.sa r.st left
theorem c12 (r : Rep) (left : Int) : Con Try.prog 12 [repV r, .int .i64 left] (undefs [repV r, .int .i64 left]) (.int .i64 (szRep r left)) := U4.c12 ..
theorem c14 (r : Rep) (h : r.st.length ≤ 1048576) : Con Try.prog 14 [repV r] (undefs [repV r]) (repV r) :=
  (U4.c14 _ _ _ _ _ h).sh (Sh.agg ⟨.refl _, .refl _, .refl _, .own_ro (by decide) _ _, .refl _, trivial⟩)
theorem c16 (r q : Rep) : Con Try.prog 16 [repV r, repV q] (undefs [repV r, repV q]) (.bool (decide (r = q))) := by
  have := U4.c16 r.th r.fu r.sa r.st r.co q.th q.fu q.sa q.st q.co
  have e : U4.same r.th r.fu r.sa r.st r.co q.th q.fu q.sa q.st q.co = decide (r = q) := by
    cases r; cases q
    rw [Bool.eq_iff_iff]
    simp [U4.same, and_assoc]
  rw [e] at this
  exact this

theorem c17 (rs : List Rep) (left : Int) : Con Try.prog 17 [roR rs, .int .i64 left] (undefs [roR rs, .int .i64 left]) (.int .i64 (szS szRep rs left)) := by
  refine Con.evF 27 T_ok mix Try.func17 rfl rfl rfl rfl [.tmp 4] rfl fun ⟨hx, _⟩ => ?_
  have hx := facts_len hx
  conv => whnf
  repeat' (first
    | (refine rq_s (by first | rfl | (simp; done) | (simp; omega) ) ?_; conv => whnf)
    | (refine row_s (by first | (try simp only [Int.toNat_natCast]); exact row_map repR _ _ _ default (by first | omega | (simp; omega)) | rfl) ?_; conv => whnf)
    | (refine rows_s (by first | (refine sub_all ?_; simp; done) | exact sub_map _ _ _ _ | rfl) ?_; conv => whnf)
    | (refine fac_s (fun hf => ?_); conv => whnf)
    | (refine ChkS.mk (by kernel_rfl) ?_; conv => whnf)
    | (refine br_t rfl ?_; conv => whnf)
    | (refine br_f rfl ?_; conv => whnf)
    | (refine br_t (by assumption) ?_; conv => whnf)
    | (refine br_f (by assumption) ?_; conv => whnf)
    | (refine br_s (fun hb => ?_) (fun hb => ?_) <;> (try simp only [beq_iff_eq, bne_iff_ne, ne_eq, decide_eq_true_eq, decide_eq_false_iff_not, Int.not_lt, Int.not_le, beq_eq_false_iff_ne, bne_eq_false_iff_eq, Bool.not_eq_true', Bool.not_eq_false', Int.ofNat_lt, Int.ofNat_le, Int.ofNat_inj, List.length_map, List.length_nil, List.length_cons] at hb) <;> conv => whnf)
    
    | (refine sh_s ?_; simp_all [szS]))
  refine LoopG.rounds (α := Nat × Int) T_ok mix [0, 1, 5] [] (fun a => [(0, roR rs), (1, .int .i64 a.2), (5, .int .i64 a.1)]) (fun _ => []) (fun a => a.1 ≤ rs.length ∧ szL szRep (rs.drop a.1) a.2 = szS szRep rs left) (fun a => rs.length - a.1) ?_ ?_
  · conv => whnf
    exact head_s (0, IntKind.i64.wrap (left - rs.length)) ⟨by simp, by rw [szS, if_neg (by omega)]; rfl⟩ (by simp [roR]) rfl
  · rintro ⟨i, l⟩ ⟨h1, h2⟩ - -
    simp only at h1 h2 ⊢
    conv => whnf
    repeat' (first
    | (refine rq_s (by first | rfl | (simp; done) | (simp; omega) ) ?_; conv => whnf)
    | (refine row_s (by first | (try simp only [Int.toNat_natCast]); exact row_map repR _ _ _ default (by first | omega | (simp; omega)) | rfl) ?_; conv => whnf)
    | (refine rows_s (by first | (refine sub_all ?_; simp; done) | exact sub_map _ _ _ _ | rfl) ?_; conv => whnf)
    | (refine fac_s (fun hf => ?_); conv => whnf)
    | (refine ChkS.mk (by kernel_rfl) ?_; conv => whnf)
    | (refine br_t rfl ?_; conv => whnf)
    | (refine br_f rfl ?_; conv => whnf)
    | (refine br_t (by assumption) ?_; conv => whnf)
    | (refine br_f (by assumption) ?_; conv => whnf)
    | (refine br_s (fun hb => ?_) (fun hb => ?_) <;> (try simp only [beq_iff_eq, bne_iff_ne, ne_eq, decide_eq_true_eq, decide_eq_false_iff_not, Int.not_lt, Int.not_le, beq_eq_false_iff_ne, bne_eq_false_iff_eq, Bool.not_eq_true', Bool.not_eq_false', Int.ofNat_lt, Int.ofNat_le, Int.ofNat_inj, List.length_map, List.length_nil, List.length_cons] at hb) <;> conv => whnf)
    | ((first | refine call_s (c12 ..) ?_); conv => whnf)
    )
    · refine sh_s ?_
      rw [szL_next default (by assumption), if_pos hb] at h2
      rw [← h2]
    · rw [szL_next default (by assumption), if_neg (by omega)] at h2
      exact head_s (i + 1, _) ⟨⟨by simp only; omega, h2⟩, by simp only; omega⟩ (by rw [wrap64 (by omega) (by omega)]; rfl) rfl
    · obtain rfl : i = rs.length := by omega
      refine sh_s ?_
      rw [szL_end] at h2
      rw [h2]
theorem c19 (rs : List Rep) (h : rs.length ≤ 1048576) (hr : ∀ r ∈ rs, r.st.length ≤ 1048576) : Con Try.prog 19 [roR rs] (undefs [roR rs]) (.own 1 zRep (rs.map repR)) := by
  refine Con.ev 23 T_ok mix Try.func19 rfl rfl rfl rfl [.tmp 2] rfl ?_
  conv => whnf
  repeat' (first
    | (refine rq_s (by first | rfl | (simp; done) | (simp; omega) | ((simp [maxBytes, AV.plain]; omega))) ?_; conv => whnf)
    | (refine row_s (by first | (try simp only [Int.toNat_natCast]); exact row_map repR _ _ _ default (by first | omega | (simp; omega)) | rfl) ?_; conv => whnf)
    | (refine rows_s (by first | (refine sub_all ?_; simp; done) | exact sub_map _ _ _ _ | rfl) ?_; conv => whnf)
    | (refine fac_s (fun hf => ?_); conv => whnf)
    | (refine ChkS.mk (by kernel_rfl) ?_; conv => whnf)
    | (refine br_t rfl ?_; conv => whnf)
    | (refine br_f rfl ?_; conv => whnf)
    | (refine br_t (by assumption) ?_; conv => whnf)
    | (refine br_f (by assumption) ?_; conv => whnf)
    | (refine br_s (fun hb => ?_) (fun hb => ?_) <;> (try simp only [beq_iff_eq, bne_iff_ne, ne_eq, decide_eq_true_eq, decide_eq_false_iff_not, Int.not_lt, Int.not_le, beq_eq_false_iff_ne, bne_eq_false_iff_eq, Bool.not_eq_true', Bool.not_eq_false', Int.ofNat_lt, Int.ofNat_le, Int.ofNat_inj, List.length_map, List.length_nil, List.length_cons] at hb) <;> conv => whnf)
    
    )
  refine LoopG.rounds (α := Nat) T_ok mix [0, 3, 4] [(7, 7)] (fun i => [(0, roR rs), (3, .ref 7 0 rs.length), (4, .int .i64 i)]) (fun i => [(7, .live ⟨true, 1, zRep, cpyR repR zRep rs i⟩)]) (fun i => i ≤ rs.length) (fun i => rs.length - i) ?_ ?_
  · conv => whnf
    exact head_s 0 (by simp) (by simp [roR]) (by simp [cpyR_zero, zRep])
  · intro i h1 _ _
    conv => whnf
    repeat' (first
    | (refine rq_s (by first | rfl | (simp; done) | (simp; omega) | ((simp [maxBytes, AV.plain]; omega))) ?_; conv => whnf)
    | (refine row_s (by first | (try simp only [Int.toNat_natCast]); exact row_map repR _ _ _ default (by first | omega | (simp; omega)) | rfl) ?_; conv => whnf)
    | (refine rows_s (by first | (refine sub_all ?_; simp; done) | exact sub_map _ _ _ _ | rfl) ?_; conv => whnf)
    | (refine fac_s (fun hf => ?_); conv => whnf)
    | (refine ChkS.mk (by kernel_rfl) ?_; conv => whnf)
    | (refine br_t rfl ?_; conv => whnf)
    | (refine br_f rfl ?_; conv => whnf)
    | (refine br_t (by assumption) ?_; conv => whnf)
    | (refine br_f (by assumption) ?_; conv => whnf)
    | (refine br_s (fun hb => ?_) (fun hb => ?_) <;> (try simp only [beq_iff_eq, bne_iff_ne, ne_eq, decide_eq_true_eq, decide_eq_false_iff_not, Int.not_lt, Int.not_le, beq_eq_false_iff_ne, bne_eq_false_iff_eq, Bool.not_eq_true', Bool.not_eq_false', Int.ofNat_lt, Int.ofNat_le, Int.ofNat_inj, List.length_map, List.length_nil, List.length_cons] at hb) <;> conv => whnf)
    
    )
    · have hi : i < rs.length := hb
      have := hr (rs.getD i default) (by simp [hi])
      repeat' (first
    | (refine rq_s (by first | rfl | (simp; done) | (simp; omega) | ((simp [maxBytes, AV.plain]; omega))) ?_; conv => whnf)
    | (refine row_s (by first | (try simp only [Int.toNat_natCast]); exact row_map repR _ _ _ default (by first | omega | (simp; omega)) | rfl) ?_; conv => whnf)
    | (refine rows_s (by first | (refine sub_all ?_; simp; done) | exact sub_map _ _ _ _ | rfl) ?_; conv => whnf)
    | (refine fac_s (fun hf => ?_); conv => whnf)
    | (refine ChkS.mk (by kernel_rfl) ?_; conv => whnf)
    | (refine br_t rfl ?_; conv => whnf)
    | (refine br_f rfl ?_; conv => whnf)
    | (refine br_t (by assumption) ?_; conv => whnf)
    | (refine br_f (by assumption) ?_; conv => whnf)
    | (refine br_s (fun hb => ?_) (fun hb => ?_) <;> (try simp only [beq_iff_eq, bne_iff_ne, ne_eq, decide_eq_true_eq, decide_eq_false_iff_not, Int.not_lt, Int.not_le, beq_eq_false_iff_ne, bne_eq_false_iff_eq, Bool.not_eq_true', Bool.not_eq_false', Int.ofNat_lt, Int.ofNat_le, Int.ofNat_inj, List.length_map, List.length_nil, List.length_cons] at hb) <;> conv => whnf)
    | ((first | refine call_s (c14 _ this) ?_); conv => whnf)
    )
      refine head_s (i + 1) ⟨by omega, by omega⟩ (by rw [wrap64 (by omega) (by omega)]; rfl) (congrArg (fun r => [(7, MB.live ⟨true, 1, zRep, r⟩)]) ?_)
      simp only [Nat.zero_add, Int.toNat_natCast]
      exact cpyR_next default hi rfl rfl
    · obtain rfl : i = rs.length := by omega
      repeat' (first
    | (refine rq_s (by first | rfl | (simp; done) | (simp; omega) ) ?_; conv => whnf)
    | (refine row_s (by first | (try simp only [Int.toNat_natCast]); exact row_map repR _ _ _ default (by first | omega | (simp; omega)) | rfl) ?_; conv => whnf)
    | (refine rows_s (by first | (refine sub_all ?_; simp; done) | exact sub_map _ _ _ _ | rfl) ?_; conv => whnf)
    | (refine fac_s (fun hf => ?_); conv => whnf)
    | (refine ChkS.mk (by kernel_rfl) ?_; conv => whnf)
    | (refine br_t rfl ?_; conv => whnf)
    | (refine br_f rfl ?_; conv => whnf)
    | (refine br_t (by assumption) ?_; conv => whnf)
    | (refine br_f (by assumption) ?_; conv => whnf)
    | (refine br_s (fun hb => ?_) (fun hb => ?_) <;> (try simp only [beq_iff_eq, bne_iff_ne, ne_eq, decide_eq_true_eq, decide_eq_false_iff_not, Int.not_lt, Int.not_le, beq_eq_false_iff_ne, bne_eq_false_iff_eq, Bool.not_eq_true', Bool.not_eq_false', Int.ofNat_lt, Int.ofNat_le, Int.ofNat_inj, List.length_map, List.length_nil, List.length_cons] at hb) <;> conv => whnf)
    
    | (refine sh_s ?_; simp [subA, cpyR_all, List.take_of_length_le, zRep]))
theorem c21 (xs ys : List Rep) : Con Try.prog 21 [roR xs, roR ys] (undefs [roR xs, roR ys]) (.bool (decide (xs = ys))) := by
  refine Con.evF 27 T_ok mix Try.func21 rfl rfl rfl rfl [.tmp 4] rfl fun ⟨hx, _⟩ => ?_
  have hx := facts_len hx
  conv => whnf
  repeat' (first
    | (refine rq_s (by first | rfl | (simp; done) | (simp; omega) ) ?_; conv => whnf)
    | (refine row_s (by first | (try simp only [Int.toNat_natCast]); exact row_map repR _ _ _ default (by first | omega | (simp; omega)) | rfl) ?_; conv => whnf)
    | (refine rows_s (by first | (refine sub_all ?_; simp; done) | exact sub_map _ _ _ _ | rfl) ?_; conv => whnf)
    | (refine fac_s (fun hf => ?_); conv => whnf)
    | (refine ChkS.mk (by kernel_rfl) ?_; conv => whnf)
    | (refine br_t rfl ?_; conv => whnf)
    | (refine br_f rfl ?_; conv => whnf)
    | (refine br_t (by assumption) ?_; conv => whnf)
    | (refine br_f (by assumption) ?_; conv => whnf)
    | (refine br_s (fun hb => ?_) (fun hb => ?_) <;> (try simp only [beq_iff_eq, bne_iff_ne, ne_eq, decide_eq_true_eq, decide_eq_false_iff_not, Int.not_lt, Int.not_le, beq_eq_false_iff_ne, bne_eq_false_iff_eq, Bool.not_eq_true', Bool.not_eq_false', Int.ofNat_lt, Int.ofNat_le, Int.ofNat_inj, List.length_map, List.length_nil, List.length_cons] at hb) <;> conv => whnf)
    
    )
  · refine sh_s ?_
    have : xs ≠ ys := fun e => hb (by rw [e])
    simp [this]
  · refine LoopG.rounds (α := Nat) T_ok mix [0, 1, 5] [] (fun i => [(0, roR xs), (1, roR ys), (5, .int .i64 i)]) (fun _ => []) (fun i => i ≤ xs.length ∧ xs.take i = ys.take i) (fun i => xs.length - i) ?_ ?_
    · conv => whnf
      exact head_s 0 ⟨by simp, by simp⟩ rfl rfl
    · rintro i ⟨h1, h2⟩ - -
      conv => whnf
      repeat' (first
    | (refine rq_s (by first | rfl | (simp; done) | (simp; omega) ) ?_; conv => whnf)
    | (refine row_s (by first | (try simp only [Int.toNat_natCast]); exact row_map repR _ _ _ default (by first | omega | (simp; omega)) | rfl) ?_; conv => whnf)
    | (refine rows_s (by first | (refine sub_all ?_; simp; done) | exact sub_map _ _ _ _ | rfl) ?_; conv => whnf)
    | (refine fac_s (fun hf => ?_); conv => whnf)
    | (refine ChkS.mk (by kernel_rfl) ?_; conv => whnf)
    | (refine br_t rfl ?_; conv => whnf)
    | (refine br_f rfl ?_; conv => whnf)
    | (refine br_t (by assumption) ?_; conv => whnf)
    | (refine br_f (by assumption) ?_; conv => whnf)
    | (refine br_s (fun hb => ?_) (fun hb => ?_) <;> (try simp only [beq_iff_eq, bne_iff_ne, ne_eq, decide_eq_true_eq, decide_eq_false_iff_not, Int.not_lt, Int.not_le, beq_eq_false_iff_ne, bne_eq_false_iff_eq, Bool.not_eq_true', Bool.not_eq_false', Int.ofNat_lt, Int.ofNat_le, Int.ofNat_inj, List.length_map, List.length_nil, List.length_cons] at hb) <;> conv => whnf)
    | ((first | refine call_s (c16 ..) ?_); conv => whnf)
    )
      · refine sh_s ?_
        have : xs ≠ ys := fun e => hb (by rw [e])
        simp [this]
      · exact head_s (i + 1) ⟨⟨by omega, take_next default h2 (by omega) (by omega) hb⟩, by omega⟩ (by rw [wrap64 (by omega) (by omega)]; rfl) rfl
      · refine sh_s ?_
        simp [take_done h2 (by omega) (by omega)]
def inR (n lo hi : Int) : Bool := decide (lo ≤ n) && decide (n ≤ hi)
theorem c41 (n lo hi : Int) : Con Try.prog 41 [.int .i64 n, .int .i64 lo, .int .i64 hi] (undefs [.int .i64 n, .int .i64 lo, .int .i64 hi]) (.bool (inR n lo hi)) := by
  refine Con.ev 15 T_ok mix Try.func41 rfl rfl rfl rfl [.tmp 6] rfl ?_
  conv => whnf
  repeat' (first
    | (refine rq_s (by first | rfl | (simp; done) | (simp; omega) ) ?_; conv => whnf)
    | (refine row_s (by first | (try simp only [Int.toNat_natCast]); exact row_map repR _ _ _ default (by first | omega | (simp; omega)) | rfl) ?_; conv => whnf)
    | (refine rows_s (by first | (refine sub_all ?_; simp; done) | exact sub_map _ _ _ _ | rfl) ?_; conv => whnf)
    | (refine fac_s (fun hf => ?_); conv => whnf)
    | (refine ChkS.mk (by kernel_rfl) ?_; conv => whnf)
    | (refine br_t rfl ?_; conv => whnf)
    | (refine br_f rfl ?_; conv => whnf)
    | (refine br_t (by assumption) ?_; conv => whnf)
    | (refine br_f (by assumption) ?_; conv => whnf)
    | (refine br_s (fun hb => ?_) (fun hb => ?_) <;> (try simp only [beq_iff_eq, bne_iff_ne, ne_eq, decide_eq_true_eq, decide_eq_false_iff_not, Int.not_lt, Int.not_le, beq_eq_false_iff_ne, bne_eq_false_iff_eq, Bool.not_eq_true', Bool.not_eq_false', Int.ofNat_lt, Int.ofNat_le, Int.ofNat_inj, List.length_map, List.length_nil, List.length_cons] at hb) <;> conv => whnf)
    
    | (refine sh_s ?_; first | (simp_all [inR]; done) | (simp_all [inR]; omega)))
theorem c38 (n lo hi : Int) : Con Try.prog 38 [.int .i64 n, .int .i64 lo, .int .i64 hi] (undefs [.int .i64 n, .int .i64 lo, .int .i64 hi]) (.bool (inR n lo hi)) := by
  refine Con.ev 15 T_ok mix Try.func38 rfl rfl rfl rfl [.tmp 6] rfl ?_
  conv => whnf
  repeat' (first
    | (refine rq_s (by first | rfl | (simp; done) | (simp; omega) ) ?_; conv => whnf)
    | (refine row_s (by first | (try simp only [Int.toNat_natCast]); exact row_map repR _ _ _ default (by first | omega | (simp; omega)) | rfl) ?_; conv => whnf)
    | (refine rows_s (by first | (refine sub_all ?_; simp; done) | exact sub_map _ _ _ _ | rfl) ?_; conv => whnf)
    | (refine fac_s (fun hf => ?_); conv => whnf)
    | (refine ChkS.mk (by kernel_rfl) ?_; conv => whnf)
    | (refine br_t rfl ?_; conv => whnf)
    | (refine br_f rfl ?_; conv => whnf)
    | (refine br_t (by assumption) ?_; conv => whnf)
    | (refine br_f (by assumption) ?_; conv => whnf)
    | (refine br_s (fun hb => ?_) (fun hb => ?_) <;> (try simp only [beq_iff_eq, bne_iff_ne, ne_eq, decide_eq_true_eq, decide_eq_false_iff_not, Int.not_lt, Int.not_le, beq_eq_false_iff_ne, bne_eq_false_iff_eq, Bool.not_eq_true', Bool.not_eq_false', Int.ofNat_lt, Int.ofNat_le, Int.ofNat_inj, List.length_map, List.length_nil, List.length_cons] at hb) <;> conv => whnf)
    
    | (refine sh_s ?_; first | (simp_all [inR]; done) | (simp_all [inR]; omega)))
def long (rs : List Rep) : Bool := decide (4096 < rs.length)
theorem c69 (rs : List Rep) : Con Try.prog 69 [roR rs] (undefs [roR rs]) (.bool (long rs)) := by
  refine Con.ev 6 T_ok mix Try.func69 rfl rfl rfl rfl [.tmp 2] rfl ?_
  conv => whnf
  repeat' (first
    | (refine rq_s (by first | rfl | (simp; done) | (simp; omega) ) ?_; conv => whnf)
    | (refine row_s (by first | (try simp only [Int.toNat_natCast]); exact row_map repR _ _ _ default (by first | omega | (simp; omega)) | rfl) ?_; conv => whnf)
    | (refine rows_s (by first | (refine sub_all ?_; simp; done) | exact sub_map _ _ _ _ | rfl) ?_; conv => whnf)
    | (refine fac_s (fun hf => ?_); conv => whnf)
    | (refine ChkS.mk (by kernel_rfl) ?_; conv => whnf)
    | (refine br_t rfl ?_; conv => whnf)
    | (refine br_f rfl ?_; conv => whnf)
    | (refine br_t (by assumption) ?_; conv => whnf)
    | (refine br_f (by assumption) ?_; conv => whnf)
    | (refine br_s (fun hb => ?_) (fun hb => ?_) <;> (try simp only [beq_iff_eq, bne_iff_ne, ne_eq, decide_eq_true_eq, decide_eq_false_iff_not, Int.not_lt, Int.not_le, beq_eq_false_iff_ne, bne_eq_false_iff_eq, Bool.not_eq_true', Bool.not_eq_false', Int.ofNat_lt, Int.ofNat_le, Int.ofNat_inj, List.length_map, List.length_nil, List.length_cons] at hb) <;> conv => whnf)
    
    | (refine sh_s ?_; (simp [long]; omega)))
def rrR (rs : List Rep) : List AV := [roR rs]
def roRR (rss : List (List Rep)) : AV := .ro [.emp] (rss.map rrR)

theorem c85 (rss : List (List Rep)) : Con Try.prog 85 [roRR rss, .fn 69 []] (undefs [roRR rss, .fn 69 []]) (.int .i64 (findI long rss)) := by
  refine Con.evF 19 T_ok mix Try.func85 rfl rfl rfl rfl [.tmp 4] rfl fun ⟨hx, _⟩ => ?_
  have hx := facts_len hx
  conv => whnf
  repeat' (first
    | (refine rq_s (by first | rfl | (simp; done) | (simp; omega) ) ?_; conv => whnf)
    | (refine row_s (by first | (try simp only [Int.toNat_natCast]); exact row_map rrR _ _ _ default (by first | omega | (simp; omega)) | rfl) ?_; conv => whnf)
    | (refine rows_s (by first | (refine sub_all ?_; simp; done) | exact sub_map _ _ _ _ | rfl) ?_; conv => whnf)
    | (refine fac_s (fun hf => ?_); conv => whnf)
    | (refine ChkS.mk (by kernel_rfl) ?_; conv => whnf)
    | (refine br_t rfl ?_; conv => whnf)
    | (refine br_f rfl ?_; conv => whnf)
    | (refine br_t (by assumption) ?_; conv => whnf)
    | (refine br_f (by assumption) ?_; conv => whnf)
    | (refine br_s (fun hb => ?_) (fun hb => ?_) <;> (try simp only [beq_iff_eq, bne_iff_ne, ne_eq, decide_eq_true_eq, decide_eq_false_iff_not, Int.not_lt, Int.not_le, beq_eq_false_iff_ne, bne_eq_false_iff_eq, Bool.not_eq_true', Bool.not_eq_false', Int.ofNat_lt, Int.ofNat_le, Int.ofNat_inj, List.length_map, List.length_nil, List.length_cons] at hb) <;> conv => whnf)
    
    )
  refine LoopG.rounds (α := Nat) T_ok mix [0, 1, 7, 8] [] (fun i => [(0, roRR rss), (1, .fn 69 []), (7, .int .i64 rss.length), (8, .int .i64 i)]) (fun _ => []) (fun i => i ≤ rss.length ∧ ∀ j, j < i → long (rss.getD j default) = false) (fun i => rss.length - i) ?_ ?_
  · conv => whnf
    exact head_s 0 ⟨by simp, fun j hj => by omega⟩ (by simp [roRR]) rfl
  · rintro i ⟨h1, h2⟩ - -
    conv => whnf
    repeat' (first
    | (refine rq_s (by first | rfl | (simp; done) | (simp; omega) ) ?_; conv => whnf)
    | (refine row_s (by first | (try simp only [Int.toNat_natCast]); exact row_map rrR _ _ _ default (by first | omega | (simp; omega)) | rfl) ?_; conv => whnf)
    | (refine rows_s (by first | (refine sub_all ?_; simp; done) | exact sub_map _ _ _ _ | rfl) ?_; conv => whnf)
    | (refine fac_s (fun hf => ?_); conv => whnf)
    | (refine ChkS.mk (by kernel_rfl) ?_; conv => whnf)
    | (refine br_t rfl ?_; conv => whnf)
    | (refine br_f rfl ?_; conv => whnf)
    | (refine br_t (by assumption) ?_; conv => whnf)
    | (refine br_f (by assumption) ?_; conv => whnf)
    | (refine br_s (fun hb => ?_) (fun hb => ?_) <;> (try simp only [beq_iff_eq, bne_iff_ne, ne_eq, decide_eq_true_eq, decide_eq_false_iff_not, Int.not_lt, Int.not_le, beq_eq_false_iff_ne, bne_eq_false_iff_eq, Bool.not_eq_true', Bool.not_eq_false', Int.ofNat_lt, Int.ofNat_le, Int.ofNat_inj, List.length_map, List.length_nil, List.length_cons] at hb) <;> conv => whnf)
    | ((first | refine call_s (c69 ..) ?_); conv => whnf)
    )
    · refine sh_s ?_
      rw [findI_hit default (by assumption) hb h2]
    · refine head_s (i + 1) ⟨⟨by omega, fun j hj => ?_⟩, by omega⟩ (by rw [wrap64 (by omega) (by omega)]; rfl) rfl
      by_cases hji : j = i
      · subst hji; exact hb
      · exact h2 j (by omega)
    · refine sh_s ?_
      rw [findI_none default fun j hj => h2 j (by omega)]
theorem c68 (rss : List (List Rep)) : Con Try.prog 68 [roRR rss, .fn 69 []] (undefs [roRR rss, .fn 69 []]) (.bool (rss.any long)) := by
  refine Con.ev 9 T_ok mix Try.func68 rfl rfl rfl rfl [.tmp 4] rfl ?_
  conv => whnf
  repeat' (first
    | (refine rq_s (by first | rfl | (simp; done) | (simp; omega) ) ?_; conv => whnf)
    | (refine row_s (by first | (try simp only [Int.toNat_natCast]); exact row_map rrR _ _ _ default (by first | omega | (simp; omega)) | rfl) ?_; conv => whnf)
    | (refine rows_s (by first | (refine sub_all ?_; simp; done) | exact sub_map _ _ _ _ | rfl) ?_; conv => whnf)
    | (refine fac_s (fun hf => ?_); conv => whnf)
    | (refine ChkS.mk (by kernel_rfl) ?_; conv => whnf)
    | (refine br_t rfl ?_; conv => whnf)
    | (refine br_f rfl ?_; conv => whnf)
    | (refine br_t (by assumption) ?_; conv => whnf)
    | (refine br_f (by assumption) ?_; conv => whnf)
    | (refine br_s (fun hb => ?_) (fun hb => ?_) <;> (try simp only [beq_iff_eq, bne_iff_ne, ne_eq, decide_eq_true_eq, decide_eq_false_iff_not, Int.not_lt, Int.not_le, beq_eq_false_iff_ne, bne_eq_false_iff_eq, Bool.not_eq_true', Bool.not_eq_false', Int.ofNat_lt, Int.ofNat_le, Int.ofNat_inj, List.length_map, List.length_nil, List.length_cons] at hb) <;> conv => whnf)
    | ((first | refine call_s (c85 ..) ?_); conv => whnf)
    | (refine sh_s ?_; (rw [← findI_any])))
theorem c48 (rss : List (List Rep)) : Con Try.prog 48 [roRR rss] (undefs [roRR rss]) (.bool (rss.any long)) := by
  refine Con.ev 5 T_ok mix Try.func48 rfl rfl rfl rfl [.tmp 2] rfl ?_
  conv => whnf
  repeat' (first
    | (refine rq_s (by first | rfl | (simp; done) | (simp; omega) ) ?_; conv => whnf)
    | (refine row_s (by first | (try simp only [Int.toNat_natCast]); exact row_map rrR _ _ _ default (by first | omega | (simp; omega)) | rfl) ?_; conv => whnf)
    | (refine rows_s (by first | (refine sub_all ?_; simp; done) | exact sub_map _ _ _ _ | rfl) ?_; conv => whnf)
    | (refine fac_s (fun hf => ?_); conv => whnf)
    | (refine ChkS.mk (by kernel_rfl) ?_; conv => whnf)
    | (refine br_t rfl ?_; conv => whnf)
    | (refine br_f rfl ?_; conv => whnf)
    | (refine br_t (by assumption) ?_; conv => whnf)
    | (refine br_f (by assumption) ?_; conv => whnf)
    | (refine br_s (fun hb => ?_) (fun hb => ?_) <;> (try simp only [beq_iff_eq, bne_iff_ne, ne_eq, decide_eq_true_eq, decide_eq_false_iff_not, Int.not_lt, Int.not_le, beq_eq_false_iff_ne, bne_eq_false_iff_eq, Bool.not_eq_true', Bool.not_eq_false', Int.ofNat_lt, Int.ofNat_le, Int.ofNat_inj, List.length_map, List.length_nil, List.length_cons] at hb) <;> conv => whnf)
    | ((first | refine call_s (c68 ..) ?_); conv => whnf)
    | (refine sh_s ?_; rfl))
def mx (x y : Int) : Int := if y > x then y else x
/-- What has been used behind so many reports. -/
def used (rs : List Rep) : Nat → Int
  | 0 => 0
  | i + 1 => if i = 0 then 0 else IntKind.i64.wrap (used rs i + mx (IntKind.i64.wrap ((rs.getD (i - 1) default).fu - (rs.getD i default).fu)) 0)
def fuP (rs : List Rep) : Int × Int :=
  if long rs then (0, 2) else if rs.all (fun r => inR r.fu 0 4000) then (used rs rs.length, 0) else (0, 4)
def fuRes (rs : List Rep) : AV := .tup [.int .i64 (fuP rs).1, .int .i64 (fuP rs).2]

theorem used_next {rs : List Rep} {i : Nat} (h : 0 < i) : used rs (i + 1) = IntKind.i64.wrap (used rs i + mx (IntKind.i64.wrap ((rs.getD (i - 1) default).fu - (rs.getD i default).fu)) 0) := by
  rw [used, if_neg (by omega)]
theorem used_first {rs : List Rep} : used rs (0 + 1) = 0 := by rw [used, if_pos rfl]
theorem fuRes_long {rs : List Rep} (h : 4096 < (rs.length : Int)) : fuRes rs = .tup [.int .i64 0, .int .i64 2] := by
  have : long rs = true := by simp [long]; omega
  rw [fuRes, fuP, if_pos this]
theorem fuRes_bad {rs : List Rep} {i : Nat} (h : (rs.length : Int) ≤ 4096) (hi : i < rs.length) (hb : inR (rs.getD i default).fu 0 4000 = false) : fuRes rs = .tup [.int .i64 0, .int .i64 4] := by
  have h1 : long rs = false := by simp [long]; omega
  have h2 : rs.all (fun r => inR r.fu 0 4000) = false := by
    rw [List.all_eq_false]
    refine ⟨rs[i], List.getElem_mem hi, ?_⟩
    simpa [hi] using hb
  rw [fuRes, fuP, h1, h2]
  rfl
theorem fuRes_good {rs : List Rep} (h : (rs.length : Int) ≤ 4096) (hb : ∀ j, j < rs.length → inR (rs.getD j default).fu 0 4000 = true) : fuRes rs = .tup [.int .i64 (used rs rs.length), .int .i64 0] := by
  have h1 : long rs = false := by simp [long]; omega
  have h2 : rs.all (fun r => inR r.fu 0 4000) = true := by
    rw [List.all_eq_true]
    intro x hx
    obtain ⟨j, hj, rfl⟩ := List.mem_iff_getElem.1 hx
    simpa [hj] using hb j hj
  rw [fuRes, fuP, h1, h2]
  rfl
theorem c18 (rs : List Rep) : Con Try.prog 18 [roR rs] (undefs [roR rs]) (fuRes rs) := by
  refine Con.evF 40 T_ok mix Try.func18 rfl rfl rfl rfl [.tmp 2, .tmp 3] rfl fun ⟨hx, _⟩ => ?_
  have hx := facts_len hx
  conv => whnf
  repeat' (first
    | (refine rq_s (by first | rfl | (simp; done) | (simp; omega) ) ?_; conv => whnf)
    | (refine row_s (by first | (try simp only [Int.toNat_natCast]); exact row_map repR _ _ _ default (by first | omega | (simp; omega)) | (rewrite [wrap64 (by omega) (by omega)]; exact row_map repR _ _ _ default (by first | omega | (simp; omega)))) ?_; conv => whnf)
    | (refine rows_s (by first | (refine sub_all ?_; simp; done) | exact sub_map _ _ _ _ | rfl) ?_; conv => whnf)
    | (refine fac_s (fun hf => ?_); conv => whnf)
    | (refine ChkS.mk (by kernel_rfl) ?_; conv => whnf)
    | (refine br_t rfl ?_; conv => whnf)
    | (refine br_f rfl ?_; conv => whnf)
    | (refine br_t (by assumption) ?_; conv => whnf)
    | (refine br_f (by assumption) ?_; conv => whnf)
    | (refine br_s (fun hb => ?_) (fun hb => ?_) <;> (try simp only [beq_iff_eq, bne_iff_ne, ne_eq, decide_eq_true_eq, decide_eq_false_iff_not, Int.not_lt, Int.not_le, beq_eq_false_iff_ne, bne_eq_false_iff_eq, Bool.not_eq_true', Bool.not_eq_false', Int.ofNat_lt, Int.ofNat_le, Int.ofNat_inj, List.length_map, List.length_nil, List.length_cons] at hb) <;> conv => whnf)
    
    )
  · exact sh_s (fuRes_long (by omega)).symm
  · have hlen : (rs.length : Int) ≤ 4096 := hb
    clear hb
    refine LoopG.rounds (α := Nat) T_ok mix [0, 4, 5] [] (fun i => [(0, roR rs), (4, .int .i64 (used rs i)), (5, .int .i64 i)]) (fun _ => []) (fun i => i ≤ rs.length ∧ ∀ j, j < i → inR (rs.getD j default).fu 0 4000 = true) (fun i => rs.length - i) ?_ ?_
    · conv => whnf
      exact head_s 0 ⟨by simp, fun j hj => by omega⟩ (by simp [roR, used]) rfl
    · rintro i ⟨h1, h2⟩ - -
      have nx : ∀ hi : inR (rs.getD i default).fu 0 4000 = true, ∀ j, j < i + 1 → inR (rs.getD j default).fu 0 4000 = true := fun hi j hj => by
        by_cases hji : j = i
        · subst hji; exact hi
        · exact h2 j (by omega)
      conv => whnf
      repeat' (first
    | (refine rq_s (by first | rfl | (simp; done) | (simp; omega) | ((rw [wrap64 (by omega) (by omega)]; simp; omega))) ?_; conv => whnf)
    | (refine row_s (by first | (try simp only [Int.toNat_natCast]); exact row_map repR _ _ _ default (by first | omega | (simp; omega)) | (rewrite [wrap64 (by omega) (by omega)]; exact row_map repR _ _ _ default (by first | omega | (simp; omega)))) ?_; conv => whnf)
    | (refine rows_s (by first | (refine sub_all ?_; simp; done) | exact sub_map _ _ _ _ | rfl) ?_; conv => whnf)
    | (refine fac_s (fun hf => ?_); conv => whnf)
    | (refine ChkS.mk (by kernel_rfl) ?_; conv => whnf)
    | (refine br_t rfl ?_; conv => whnf)
    | (refine br_f rfl ?_; conv => whnf)
    | (refine br_t (by assumption) ?_; conv => whnf)
    | (refine br_f (by assumption) ?_; conv => whnf)
    | (refine br_s (fun hb => ?_) (fun hb => ?_) <;> (try simp only [beq_iff_eq, bne_iff_ne, ne_eq, decide_eq_true_eq, decide_eq_false_iff_not, Int.not_lt, Int.not_le, beq_eq_false_iff_ne, bne_eq_false_iff_eq, Bool.not_eq_true', Bool.not_eq_false', Int.ofNat_lt, Int.ofNat_le, Int.ofNat_inj, List.length_map, List.length_nil, List.length_cons] at hb) <;> conv => whnf)
    | ((first | refine call_s (c38 ..) ?_); conv => whnf)
    )
      · exact sh_s (fuRes_bad hlen (by assumption) hb).symm
      · refine head_s (i + 1) ⟨⟨by omega, nx (by assumption)⟩, by omega⟩ ?_ rfl
        rw [used_next (by omega), show (↑i - 1 : Int).toNat = i - 1 by omega]
        rw [wrap64 (n := ↑i + 1) (by omega) (by omega)]
        rfl
      · obtain rfl : i = 0 := by omega
        exact head_s 1 ⟨⟨by omega, nx (by assumption)⟩, by omega⟩ rfl rfl
      · obtain rfl : i = rs.length := by omega
        exact sh_s (fuRes_good hlen h2).symm
theorem c20 (rs : List Rep) : Con Try.prog 20 [roR rs] (undefs [roR rs]) (fuRes rs) := by
  refine Con.evF 37 T_ok mix Try.func20 rfl rfl rfl rfl [.tmp 2, .tmp 3] rfl fun ⟨hx, _⟩ => ?_
  have hx := facts_len hx
  conv => whnf
  repeat' (first
    | (refine rq_s (by first | rfl | (simp; done) | (simp; omega) ) ?_; conv => whnf)
    | (refine row_s (by first | (try simp only [Int.toNat_natCast]); exact row_map repR _ _ _ default (by first | omega | (simp; omega)) | (rewrite [wrap64 (by omega) (by omega)]; exact row_map repR _ _ _ default (by first | omega | (simp; omega)))) ?_; conv => whnf)
    | (refine rows_s (by first | (refine sub_all ?_; simp; done) | exact sub_map _ _ _ _ | rfl) ?_; conv => whnf)
    | (refine fac_s (fun hf => ?_); conv => whnf)
    | (refine ChkS.mk (by kernel_rfl) ?_; conv => whnf)
    | (refine br_t rfl ?_; conv => whnf)
    | (refine br_f rfl ?_; conv => whnf)
    | (refine br_t (by assumption) ?_; conv => whnf)
    | (refine br_f (by assumption) ?_; conv => whnf)
    | (refine br_s (fun hb => ?_) (fun hb => ?_) <;> (try simp only [beq_iff_eq, bne_iff_ne, ne_eq, decide_eq_true_eq, decide_eq_false_iff_not, Int.not_lt, Int.not_le, beq_eq_false_iff_ne, bne_eq_false_iff_eq, Bool.not_eq_true', Bool.not_eq_false', Int.ofNat_lt, Int.ofNat_le, Int.ofNat_inj, List.length_map, List.length_nil, List.length_cons] at hb) <;> conv => whnf)
    | ((first | refine call_s (c48 [rs] ..) ?_); conv => whnf)
    )
  · refine sh_s (fuRes_long ?_).symm
    have : ([rs] : List (List Rep)).any long = true := hb
    simp [long] at this
    omega
  · have hlen : (rs.length : Int) ≤ 4096 := by
      have : ([rs] : List (List Rep)).any long = false := hb
      simp [long] at this
      omega
    clear hb
    refine LoopG.rounds (α := Nat) T_ok mix [0, 4, 10, 11, 12] [] (fun i => [(0, roR rs), (4, .int .i64 (used rs i)), (10, roR rs), (11, .int .i64 rs.length), (12, .int .i64 i)]) (fun _ => []) (fun i => i ≤ rs.length ∧ ∀ j, j < i → inR (rs.getD j default).fu 0 4000 = true) (fun i => rs.length - i) ?_ ?_
    · conv => whnf
      exact head_s 0 ⟨by simp, fun j hj => by omega⟩ (by simp [roR, used]) rfl
    · rintro i ⟨h1, h2⟩ - -
      have nx : ∀ hi : inR (rs.getD i default).fu 0 4000 = true, ∀ j, j < i + 1 → inR (rs.getD j default).fu 0 4000 = true := fun hi j hj => by
        by_cases hji : j = i
        · subst hji; exact hi
        · exact h2 j (by omega)
      conv => whnf
      repeat' (first
    | (refine rq_s (by first | rfl | (simp; done) | (simp; omega) | ((rw [wrap64 (by omega) (by omega)]; simp; omega))) ?_; conv => whnf)
    | (refine row_s (by first | (try simp only [Int.toNat_natCast]); exact row_map repR _ _ _ default (by first | omega | (simp; omega)) | (rewrite [wrap64 (by omega) (by omega)]; exact row_map repR _ _ _ default (by first | omega | (simp; omega)))) ?_; conv => whnf)
    | (refine rows_s (by first | (refine sub_all ?_; simp; done) | exact sub_map _ _ _ _ | rfl) ?_; conv => whnf)
    | (refine fac_s (fun hf => ?_); conv => whnf)
    | (refine ChkS.mk (by kernel_rfl) ?_; conv => whnf)
    | (refine br_t rfl ?_; conv => whnf)
    | (refine br_f rfl ?_; conv => whnf)
    | (refine br_t (by assumption) ?_; conv => whnf)
    | (refine br_f (by assumption) ?_; conv => whnf)
    | (refine br_s (fun hb => ?_) (fun hb => ?_) <;> (try simp only [beq_iff_eq, bne_iff_ne, ne_eq, decide_eq_true_eq, decide_eq_false_iff_not, Int.not_lt, Int.not_le, beq_eq_false_iff_ne, bne_eq_false_iff_eq, Bool.not_eq_true', Bool.not_eq_false', Int.ofNat_lt, Int.ofNat_le, Int.ofNat_inj, List.length_map, List.length_nil, List.length_cons] at hb) <;> conv => whnf)
    | ((first | refine call_s (c41 ..) ?_); conv => whnf)
    )
      · exact sh_s (fuRes_bad hlen (by assumption) hb).symm
      · refine head_s (i + 1) ⟨⟨by omega, nx (by assumption)⟩, by omega⟩ ?_ rfl
        rw [used_next (by omega), show (↑i - 1 : Int).toNat = i - 1 by omega]
        rw [wrap64 (n := ↑i + 1) (by omega) (by omega)]
        rfl
      · obtain rfl : i = 0 := by omega
        exact head_s 1 ⟨⟨by omega, nx (by assumption)⟩, by omega⟩ rfl rfl
      · obtain rfl : i = rs.length := by omega
        exact sh_s (fuRes_good hlen h2).symm
theorem szRep_le (x : Rep) (hs : x.sa.length ≤ 9223372036854775807) (hx : x.st.length ≤ 9223372036854775807) (l : Int) (h1 : 0 ≤ l) (h2 : l ≤ 1048576) (h : 0 ≤ szRep x l) : szRep x l ≤ l ∧ x.st.length ≤ 1048576 := by
  unfold szRep U4.szR at h ⊢
  rw [wr h1 h2 hs] at h ⊢
  by_cases h3 : l - (x.sa.length : Int) < 0
  · rw [if_pos h3] at h; omega
  · rw [if_neg h3] at h ⊢
    by_cases h4 : U4.szI x.st (l - x.sa.length) < 0
    · rw [if_pos h4] at h; omega
    · rw [if_neg h4] at h ⊢
      have := U4.szI_le (by omega) (by omega) hx h
      omega
theorem szL_leM {α : Type} {f : α → Int → Int} {q : α → Prop} : ∀ (xs : List α) (l : Int), (∀ x ∈ xs, ∀ l, 0 ≤ l → l ≤ 1048576 → 0 ≤ f x l → f x l ≤ l ∧ q x) → 0 ≤ l → l ≤ 1048576 → 0 ≤ szL f xs l → szL f xs l ≤ l ∧ ∀ x ∈ xs, q x
  | [], l, hf, h1, h2, h3 => ⟨Int.le_refl _, fun x hx => by simp at hx⟩
  | x :: xs, l, hf, h1, h2, h3 => by
    unfold szL at h3 ⊢
    by_cases h4 : f x l < 0
    · rw [if_pos h4] at h3; omega
    · rw [if_neg h4] at h3 ⊢
      obtain ⟨h5, h6⟩ := hf x (by simp) l h1 h2 (by omega)
      obtain ⟨h7, h8⟩ := szL_leM xs (f x l) (fun y hy => hf y (by simp [hy])) (by omega) (by omega) h3
      refine ⟨by omega, fun y hy => ?_⟩
      rcases List.mem_cons.1 hy with rfl | hy
      · exact h6
      · exact h8 y hy
theorem szS_le {α : Type} {f : α → Int → Int} {q : α → Prop} {xs : List α} {l : Int} (hx : xs.length ≤ 9223372036854775807) (hf : ∀ x ∈ xs, ∀ l, 0 ≤ l → l ≤ 1048576 → 0 ≤ f x l → f x l ≤ l ∧ q x) (h1 : 0 ≤ l) (h2 : l ≤ 1048576) (h : 0 ≤ szS f xs l) :
    szS f xs l ≤ l ∧ xs.length ≤ 1048576 ∧ ∀ x ∈ xs, q x := by
  unfold szS at h ⊢
  rw [wr h1 h2 hx] at h ⊢
  by_cases h3 : l - (xs.length : Int) < 0
  · rw [if_pos h3] at h; omega
  · rw [if_neg h3] at h ⊢
    obtain ⟨h4, h5⟩ := szL_leM xs _ hf (by omega) (by omega) h
    exact ⟨by omega, by omega, h5⟩
theorem facts_reps {rs : List Rep} (h : ∀ d, (roR rs).facts d) : ∀ r ∈ rs, r.sa.length ≤ 9223372036854775807 ∧ r.st.length ≤ 9223372036854775807 := by
  intro r hr
  have h2 := (h 3).2 (repR r) (List.mem_map.2 ⟨r, hr, rfl⟩)
  have h3 : (AV.str r.sa).facts 2 := h2 _ (by simp [repR])
  have h4 : (roI r.st).facts 2 := h2 _ (by simp [repR])
  refine ⟨h3, ?_⟩
  have := h4.1
  simpa [maxLn] using this
theorem c5 (rs : List Rep) : Con Try.prog 5 [roR rs] (undefs [roR rs]) (.bool true) := by
  refine Con.evF 40 T_ok mix Try.func5 rfl rfl rfl rfl [.tmp 2] rfl fun ⟨hx, _⟩ => ?_
  have hl := facts_len hx
  have hr := facts_reps hx
  clear hx
  conv => whnf
  repeat' (first
    | (refine rq_s (by first | rfl | (simp; done) | (simp; omega) ) ?_; conv => whnf)
    | (refine row_s (by first | (try simp only [Int.toNat_natCast]); exact row_map repR _ _ _ default (by first | omega | (simp; omega)) | (rewrite [wrap64 (by omega) (by omega)]; exact row_map repR _ _ _ default (by first | omega | (simp; omega)))) ?_; conv => whnf)
    | (refine rows_s (by first | (refine sub_all ?_; simp; done) | exact sub_map _ _ _ _ | rfl) ?_; conv => whnf)
    | (refine fac_s (fun hf => ?_); conv => whnf)
    | (refine ChkS.mk (by kernel_rfl) ?_; conv => whnf)
    | (refine br_t rfl ?_; conv => whnf)
    | (refine br_f rfl ?_; conv => whnf)
    | (refine br_t (by assumption) ?_; conv => whnf)
    | (refine br_f (by assumption) ?_; conv => whnf)
    | (refine br_s (fun hb => ?_) (fun hb => ?_) <;> (try simp only [beq_iff_eq, bne_iff_ne, ne_eq, decide_eq_true_eq, decide_eq_false_iff_not, Int.not_lt, Int.not_le, beq_eq_false_iff_ne, bne_eq_false_iff_eq, Bool.not_eq_true', Bool.not_eq_false', Int.ofNat_lt, Int.ofNat_le, Int.ofNat_inj, List.length_map, List.length_nil, List.length_cons] at hb) <;> conv => whnf)
    | ((first | refine call_s (c17 ..) ?_); conv => whnf)
    | (refine sh_s ?_; rfl))
  obtain ⟨k1, k2, k3⟩ := szS_le (q := fun x : Rep => x.st.length ≤ 1048576) hl (fun x hx l => szRep_le x (hr x hx).1 (hr x hx).2 l) (by omega) (by omega) hb
  repeat' (first
    | (refine rq_s (by first | rfl | (simp; done) | (simp; omega) ) ?_; conv => whnf)
    | (refine row_s (by first | (try simp only [Int.toNat_natCast]); exact row_map repR _ _ _ default (by first | omega | (simp; omega)) | (rewrite [wrap64 (by omega) (by omega)]; exact row_map repR _ _ _ default (by first | omega | (simp; omega)))) ?_; conv => whnf)
    | (refine rows_s (by first | (refine sub_all ?_; simp; done) | exact sub_map _ _ _ _ | rfl) ?_; conv => whnf)
    | (refine fac_s (fun hf => ?_); conv => whnf)
    | (refine ChkS.mk (by kernel_rfl) ?_; conv => whnf)
    | (refine br_t rfl ?_; conv => whnf)
    | (refine br_f rfl ?_; conv => whnf)
    | (refine br_t (by assumption) ?_; conv => whnf)
    | (refine br_f (by assumption) ?_; conv => whnf)
    | (refine br_s (fun hb => ?_) (fun hb => ?_) <;> (try simp only [beq_iff_eq, bne_iff_ne, ne_eq, decide_eq_true_eq, decide_eq_false_iff_not, Int.not_lt, Int.not_le, beq_eq_false_iff_ne, bne_eq_false_iff_eq, Bool.not_eq_true', Bool.not_eq_false', Int.ofNat_lt, Int.ofNat_le, Int.ofNat_inj, List.length_map, List.length_nil, List.length_cons] at hb) <;> conv => whnf)
    | ((first | refine call_s (c19 _ k2 k3) ?_ | refine call_s (c21 ..) ?_ | refine call_s (c18 ..) ?_ | refine call_s (c20 ..) ?_); conv => whnf)
    | (refine sh_s ?_; first | rfl | (simp_all; done)))
theorem rep_of {d : Nat} {l : List AV} (h : OfT T (d + 3) 31 l) : ∃ r : Rep, l = repR r := by
  obtain ⟨_, _, rfl, ⟨th, rfl⟩, _, _, rfl, ⟨fu, rfl⟩, _, _, rfl, ⟨sa, rfl⟩, _, _, rfl, ⟨rows, rfl, hr⟩, _, _, rfl, ⟨co, rfl⟩, rfl⟩ := h
  obtain ⟨xs, rfl⟩ := rows_map intR hr
  exact ⟨⟨th, fu, sa, xs, co⟩, rfl⟩
theorem reps_of {x : AV} (h : OfT T 10 37 [x]) : ∃ rs : List Rep, x = roR rs := by
  obtain ⟨rows, h1, hr⟩ := h
  obtain ⟨rs, rfl⟩ := rows_map repR fun row hrow => rep_of (d := 6) (hr row hrow)
  injection h1 with h1
  exact ⟨rs, h1⟩
end U6
