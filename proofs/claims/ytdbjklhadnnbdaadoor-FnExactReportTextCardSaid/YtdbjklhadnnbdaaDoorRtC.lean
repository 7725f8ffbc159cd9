import Derived.Test.YtdbjklhadnnbdaaDoorRtB
import Derived.Test.YtdbjklhadnnbdaaDoorAbs6
/- The text of a report, by the program: contracts. -/
set_option linter.unusedVariables false
set_option linter.unusedSimpArgs false
set_option maxRecDepth 100000
open Go Go.Abs Go.Proofs V1 H1 D2 R1
namespace R2

def rtF (r : Rep) : List UInt8 × Int := if reportOK r = true then (repT r, 0) else ([], 1)
def rtV (r : List UInt8 × Int) : AV := .tup [.str r.1, .int .i64 r.2]
theorem c10 (r : Rep) : Con Tryd.prog 10 [repV r] (undefs [repV r]) (rtV (rtF r)) := by
  unfold rtF
  by_cases ok : reportOK r = true
  · have o := (reportOK_iff r).1 ok
    obtain ⟨o1, o2, o3, o4, o5⟩ := id o
    rw [if_pos ok]
    refine Con.ev 34 T_ok mix Tryd.func10 rfl rfl rfl rfl [.tmp 2, .tmp 3] rfl ?_
    conv => whnf
    iterate 3 (refine rq_s (by (rfl)) ?_; conv => whnf)
    (refine lend_s ?_; conv => whnf)
    (refine call_s (c43 ..) ?_; conv => whnf)
    (refine br_s (fun hb => ?_) (fun hb => ?_) <;> (try simp only [beq_iff_eq, bne_iff_ne, ne_eq, decide_eq_true_eq, decide_eq_false_iff_not, Int.not_lt, Int.not_le, Bool.false_eq_true, if_false, if_true, beq_eq_false_iff_ne, bne_eq_false_iff_eq, Bool.not_eq_true', Bool.not_eq_false', Int.ofNat_lt, Int.ofNat_le, Int.ofNat_inj, List.length_map, List.length_nil, List.length_cons] at hb) <;> conv => whnf)
    iterate 20 (refine br_t rfl ?_; conv => whnf)
    iterate 2 (refine rq_s (by (rfl)) ?_; conv => whnf)
    rotate_left
    (refine rq_s (by (rfl)) ?_; conv => whnf)
    iterate 2 (refine br_f rfl ?_; conv => whnf)
    iterate 3 (refine rq_s (by (rfl)) ?_; conv => whnf)
    (refine lend_s ?_; conv => whnf)
    (refine call_s (c44 ..) ?_; conv => whnf)
    (refine br_f rfl ?_; conv => whnf)
    (refine br_s (fun hb => ?_) (fun hb => ?_) <;> (try simp only [beq_iff_eq, bne_iff_ne, ne_eq, decide_eq_true_eq, decide_eq_false_iff_not, Int.not_lt, Int.not_le, Bool.false_eq_true, if_false, if_true, beq_eq_false_iff_ne, bne_eq_false_iff_eq, Bool.not_eq_true', Bool.not_eq_false', Int.ofNat_lt, Int.ofNat_le, Int.ofNat_inj, List.length_map, List.length_nil, List.length_cons] at hb) <;> conv => whnf)
    iterate 15 (refine br_t rfl ?_; conv => whnf)
    iterate 2 (refine rq_s (by (rfl)) ?_; conv => whnf)
    rotate_left
    (refine rq_s (by (rfl)) ?_; conv => whnf)
    iterate 3 (refine br_f rfl ?_; conv => whnf)
    (refine br_s (fun hb => ?_) (fun hb => ?_) <;> (try simp only [beq_iff_eq, bne_iff_ne, ne_eq, decide_eq_true_eq, decide_eq_false_iff_not, Int.not_lt, Int.not_le, Bool.false_eq_true, if_false, if_true, beq_eq_false_iff_ne, bne_eq_false_iff_eq, Bool.not_eq_true', Bool.not_eq_false', Int.ofNat_lt, Int.ofNat_le, Int.ofNat_inj, List.length_map, List.length_nil, List.length_cons] at hb) <;> conv => whnf)
    iterate 10 (refine br_t rfl ?_; conv => whnf)
    iterate 2 (refine rq_s (by (rfl)) ?_; conv => whnf)
    rotate_left
    (refine rq_s (by (rfl)) ?_; conv => whnf)
    iterate 3 (refine br_f rfl ?_; conv => whnf)
    (refine br_s (fun hb => ?_) (fun hb => ?_) <;> (try simp only [beq_iff_eq, bne_iff_ne, ne_eq, decide_eq_true_eq, decide_eq_false_iff_not, Int.not_lt, Int.not_le, Bool.false_eq_true, if_false, if_true, beq_eq_false_iff_ne, bne_eq_false_iff_eq, Bool.not_eq_true', Bool.not_eq_false', Int.ofNat_lt, Int.ofNat_le, Int.ofNat_inj, List.length_map, List.length_nil, List.length_cons] at hb) <;> conv => whnf)
    iterate 5 (refine br_t rfl ?_; conv => whnf)
    iterate 2 (refine rq_s (by (rfl)) ?_; conv => whnf)
    rotate_left
    (refine rq_s (by (rfl)) ?_; conv => whnf)
    iterate 2 (refine br_f rfl ?_; conv => whnf)
    (refine rq_s (by (rfl)) ?_; conv => whnf)
    (refine lend_s ?_; conv => whnf)
    (refine rows_s (by (rfl)) ?_; conv => whnf)
    (refine call_s (c45 ..) ?_; conv => whnf)
    (refine br_f rfl ?_; conv => whnf)
    (refine br_s (fun hb => ?_) (fun hb => ?_) <;> (try simp only [beq_iff_eq, bne_iff_ne, ne_eq, decide_eq_true_eq, decide_eq_false_iff_not, Int.not_lt, Int.not_le, Bool.false_eq_true, if_false, if_true, beq_eq_false_iff_ne, bne_eq_false_iff_eq, Bool.not_eq_true', Bool.not_eq_false', Int.ofNat_lt, Int.ofNat_le, Int.ofNat_inj, List.length_map, List.length_nil, List.length_cons] at hb) <;> conv => whnf)
    iterate 2 (refine rq_s (by (rfl)) ?_; conv => whnf)
    rotate_left
    iterate 5 (refine rq_s (by (rfl)) ?_; conv => whnf)
    (refine lend_s ?_; conv => whnf)
    (refine rows_s (by (rfl)) ?_; conv => whnf)
    (refine call_s (c46 _ o) ?_; conv => whnf)
    (refine fac_s (fun hf => ?_); conv => whnf)
    iterate 2 (refine rq_s (by (rfl)) ?_; conv => whnf)
    (refine sh_s ?_; (rfl))
    all_goals first | exact sh_s rfl | (exfalso; omega) | (exfalso; simp_all; done)
  · rw [if_neg ok]
    refine Con.ev 34 T_ok mix Tryd.func10 rfl rfl rfl rfl [.tmp 2, .tmp 3] rfl ?_
    conv => whnf
    iterate 3 (refine rq_s (by (rfl)) ?_; conv => whnf)
    (refine lend_s ?_; conv => whnf)
    (refine call_s (c43 ..) ?_; conv => whnf)
    (refine br_s (fun hb => ?_) (fun hb => ?_) <;> (try simp only [beq_iff_eq, bne_iff_ne, ne_eq, decide_eq_true_eq, decide_eq_false_iff_not, Int.not_lt, Int.not_le, Bool.false_eq_true, if_false, if_true, beq_eq_false_iff_ne, bne_eq_false_iff_eq, Bool.not_eq_true', Bool.not_eq_false', Int.ofNat_lt, Int.ofNat_le, Int.ofNat_inj, List.length_map, List.length_nil, List.length_cons] at hb) <;> conv => whnf)
    iterate 20 (refine br_t rfl ?_; conv => whnf)
    iterate 2 (refine rq_s (by (rfl)) ?_; conv => whnf)
    (refine sh_s ?_; (rfl))
    (refine rq_s (by (rfl)) ?_; conv => whnf)
    iterate 2 (refine br_f rfl ?_; conv => whnf)
    iterate 3 (refine rq_s (by (rfl)) ?_; conv => whnf)
    (refine lend_s ?_; conv => whnf)
    (refine call_s (c44 ..) ?_; conv => whnf)
    (refine br_f rfl ?_; conv => whnf)
    (refine br_s (fun hb => ?_) (fun hb => ?_) <;> (try simp only [beq_iff_eq, bne_iff_ne, ne_eq, decide_eq_true_eq, decide_eq_false_iff_not, Int.not_lt, Int.not_le, Bool.false_eq_true, if_false, if_true, beq_eq_false_iff_ne, bne_eq_false_iff_eq, Bool.not_eq_true', Bool.not_eq_false', Int.ofNat_lt, Int.ofNat_le, Int.ofNat_inj, List.length_map, List.length_nil, List.length_cons] at hb) <;> conv => whnf)
    iterate 15 (refine br_t rfl ?_; conv => whnf)
    iterate 2 (refine rq_s (by (rfl)) ?_; conv => whnf)
    (refine sh_s ?_; (rfl))
    (refine rq_s (by (rfl)) ?_; conv => whnf)
    iterate 3 (refine br_f rfl ?_; conv => whnf)
    (refine br_s (fun hb => ?_) (fun hb => ?_) <;> (try simp only [beq_iff_eq, bne_iff_ne, ne_eq, decide_eq_true_eq, decide_eq_false_iff_not, Int.not_lt, Int.not_le, Bool.false_eq_true, if_false, if_true, beq_eq_false_iff_ne, bne_eq_false_iff_eq, Bool.not_eq_true', Bool.not_eq_false', Int.ofNat_lt, Int.ofNat_le, Int.ofNat_inj, List.length_map, List.length_nil, List.length_cons] at hb) <;> conv => whnf)
    iterate 10 (refine br_t rfl ?_; conv => whnf)
    iterate 2 (refine rq_s (by (rfl)) ?_; conv => whnf)
    (refine sh_s ?_; (rfl))
    (refine rq_s (by (rfl)) ?_; conv => whnf)
    iterate 3 (refine br_f rfl ?_; conv => whnf)
    (refine br_s (fun hb => ?_) (fun hb => ?_) <;> (try simp only [beq_iff_eq, bne_iff_ne, ne_eq, decide_eq_true_eq, decide_eq_false_iff_not, Int.not_lt, Int.not_le, Bool.false_eq_true, if_false, if_true, beq_eq_false_iff_ne, bne_eq_false_iff_eq, Bool.not_eq_true', Bool.not_eq_false', Int.ofNat_lt, Int.ofNat_le, Int.ofNat_inj, List.length_map, List.length_nil, List.length_cons] at hb) <;> conv => whnf)
    iterate 5 (refine br_t rfl ?_; conv => whnf)
    iterate 2 (refine rq_s (by (rfl)) ?_; conv => whnf)
    (refine sh_s ?_; (rfl))
    (refine rq_s (by (rfl)) ?_; conv => whnf)
    iterate 2 (refine br_f rfl ?_; conv => whnf)
    (refine rq_s (by (rfl)) ?_; conv => whnf)
    (refine lend_s ?_; conv => whnf)
    (refine rows_s (by (rfl)) ?_; conv => whnf)
    (refine call_s (c45 ..) ?_; conv => whnf)
    (refine br_f rfl ?_; conv => whnf)
    (refine br_s (fun hb => ?_) (fun hb => ?_) <;> (try simp only [beq_iff_eq, bne_iff_ne, ne_eq, decide_eq_true_eq, decide_eq_false_iff_not, Int.not_lt, Int.not_le, Bool.false_eq_true, if_false, if_true, beq_eq_false_iff_ne, bne_eq_false_iff_eq, Bool.not_eq_true', Bool.not_eq_false', Int.ofNat_lt, Int.ofNat_le, Int.ofNat_inj, List.length_map, List.length_nil, List.length_cons] at hb) <;> conv => whnf)
    iterate 2 (refine rq_s (by (rfl)) ?_; conv => whnf)
    (refine sh_s ?_; (rfl))
    iterate 5 (refine rq_s (by (rfl)) ?_; conv => whnf)
    (refine lend_s ?_; conv => whnf)
    (refine rows_s (by (rfl)) ?_; conv => whnf)
    rotate_left
    all_goals exact absurd ((reportOK_iff r).2 ⟨by assumption, by omega, by assumption, by assumption, by omega⟩) ok
theorem spd (xs : List Int) (h : cellsOK xs = true) (hl : xs.length ≤ 1000) : Con Tryd.prog 51 [roI xs] (undefs [roI xs]) (.str (spacedL xs)) := c51 xs hl fun x hx => by
  have := inR_t (List.all_eq_true.1 h x hx)
  omega


set_option maxHeartbeats 4000000 in
theorem c12 (r : Rep) : Con Tryd.prog 12 [repV r] (undefs [repV r]) (rtV (rtF r)) := by
  unfold rtF
  by_cases ok : reportOK r = true
  · have o := (reportOK_iff r).1 ok
    obtain ⟨o1, o2, o3, o4, o5⟩ := id o
    have h1 := inR_t o1
    have h2 := inR_t o4
    have l1 := itoa_len (n := r.th) (by omega) (by omega)
    have l2 := itoa_len (n := r.fu) (by omega) (by omega)
    have l3 := saidF_len o5
    have l4 := headF_len o
    have l6 := spaced_len r.st fun x h => by
      have := inR_t (List.all_eq_true.1 o3 x h)
      omega
    have k1 := c48 r.th
    have k2 := c49 r.st 32
    have k3 := c50 r.fu 0 4000
    rw [o1] at k1
    rw [show (decide ((r.st.length : Int) ≤ 32) && cellsOK r.st) = true by simp [o3]; omega] at k2
    rw [o4] at k3
    have hsa : decide ((r.sa.length : Int) > 300) = false := by simp; omega
    rw [if_pos ok]
    rcases rep_cases r with ⟨t1, t3⟩ | ⟨t1, t2, t3⟩ | ⟨t1, t2, t3⟩
    all_goals (
      refine Con.ev 85 T_ok mix Tryd.func12 rfl rfl rfl rfl [.tmp 2, .tmp 3] rfl ?_
      conv => whnf
      iterate 3 (refine rq_s (by (rfl)) ?_; conv => whnf)
      (refine lend_s ?_; conv => whnf)
      (refine call_s (k1 ..) ?_; conv => whnf)
      (refine br_f rfl ?_; conv => whnf)
      (refine rq_s (by (rfl)) ?_; conv => whnf)
      iterate 2 (refine br_f rfl ?_; conv => whnf)
      iterate 2 (refine rq_s (by (rfl)) ?_; conv => whnf)
      (refine lend_s ?_; conv => whnf)
      (refine rows_s (by (rfl)) ?_; conv => whnf)
      (refine call_s (k2 ..) ?_; conv => whnf)
      iterate 2 (refine br_f rfl ?_; conv => whnf)
      (refine rq_s (by (rfl)) ?_; conv => whnf)
      iterate 2 (refine br_f rfl ?_; conv => whnf)
      iterate 3 (refine rq_s (by (rfl)) ?_; conv => whnf)
      (refine lend_s ?_; conv => whnf)
      (refine call_s (k3 ..) ?_; conv => whnf)
      iterate 2 (refine br_f rfl ?_; conv => whnf)
      (refine rq_s (by (rfl)) ?_; conv => whnf)
      iterate 3 (refine br_f rfl ?_; conv => whnf)
      (refine br_f (by assumption) ?_; conv => whnf)
      (refine rq_s (by (rfl)) ?_; conv => whnf)
      first
        | ( (refine br_t (by assumption) ?_; conv => whnf)
            iterate 2 (refine rq_s (by (rfl)) ?_; conv => whnf)
            (refine rq_s (by ((simp only [decide_eq_true_eq, List.length_map]; done))) ?_; conv => whnf)
            (refine rq_s (by (rfl)) ?_; conv => whnf)
            (refine lend_s ?_; conv => whnf)
            (refine rows_s (by ((refine sub_all ?_; simp [List.length_map]; done))) ?_; conv => whnf)
            (refine call_s (sp1 _ (by omega) (by omega)) ?_; conv => whnf)
            (refine rq_s (by (((first | (simp [maxStr]; done) | (simp [maxStr]; omega))))) ?_; conv => whnf)
            (refine fac_s (fun hf => ?_); conv => whnf)
            iterate 2 (refine rq_s (by (rfl)) ?_; conv => whnf)
            rotate_left)
        | ( (refine br_f (by assumption) ?_; conv => whnf)
            (refine rq_s (by (rfl)) ?_; conv => whnf)
            first
              | ( (refine br_t (by assumption) ?_; conv => whnf)
                  iterate 2 (refine rq_s (by (rfl)) ?_; conv => whnf)
                  rotate_left)
              | ( (refine br_f (by assumption) ?_; conv => whnf)
                  iterate 2 (refine rq_s (by (rfl)) ?_; conv => whnf)
                  rotate_left))
      refine LoopG.bearT 5 101 z8 rfl rfl ?_
      refine LoopG.auto (α := Nat) T_ok mix [1, 4, 5, 44, 45] (fun i => [(1, .ptr 1 0 0), (4, .str (headF r)), (5, .ref 2 0 (hexF (r.sa.take i)).length), (44, .int .i64 r.sa.length), (45, .int .i64 i)]) (fun i => [(1, repB r), (2, hexB (hexF (r.sa.take i)))]) (fun i => i ≤ r.sa.length) (fun i => r.sa.length - i) ?_ ?_
      · conv => whnf
        (refine ChkS.mk (by kernel_rfl) ?_; conv => whnf)
        rotate_left
        exact head_s 0 (by simp) (by simp [t3, hexF]) (by simp [repB, roI, hexB, hexF])
      · intro i hi _ _
        have hL := hexF_len (r.sa.take i)
        have hT : (r.sa.take i).length ≤ 300 := by simp; omega
        by_cases hi2 : i < r.sa.length
        · have hlt : decide ((i : Int) < (r.sa.length : Int)) = true := by simp; omega
          have hnx := hexF_next hi2
          generalize hc : r.sa.getD i 0 = c
          have hd : r.sa.getD i default = c := hc
          rw [hd] at hnx
          generalize hexF (r.sa.take i) = xs at *
          have hct : c.toNat < 256 := c.toNat_lt
          have q1 : (Int.fdiv (c.toNat : Int) (2 ^ (min (Int.toNat 4) IntKind.u8.bits))).toNat = c.toNat / 16 := by
            rw [show (min (Int.toNat 4) IntKind.u8.bits) = min (Int.toNat 4) 8 from rfl, shr4]; rfl
          have q2 : (IntKind.u8.wrap (BitVec.ofInt IntKind.u8.bits (c.toNat : Int) &&& BitVec.ofInt IntKind.u8.bits 15).toNat).toNat = c.toNat % 16 := by
            have := and15 c
            show (IntKind.u8.wrap (BitVec.ofInt 8 (c.toNat : Int) &&& BitVec.ofInt 8 15).toNat).toNat = _
            rw [this]; rfl
          have q3 : 0 ≤ Int.fdiv (c.toNat : Int) (2 ^ (min (Int.toNat 4) IntKind.u8.bits)) := by
            rw [show (min (Int.toNat 4) IntKind.u8.bits) = min (Int.toNat 4) 8 from rfl, shr4]; omega
          have q4 : 0 ≤ IntKind.u8.wrap (BitVec.ofInt IntKind.u8.bits (c.toNat : Int) &&& BitVec.ofInt IntKind.u8.bits 15).toNat := by
            have := and15 c
            show 0 ≤ IntKind.u8.wrap (BitVec.ofInt 8 (c.toNat : Int) &&& BitVec.ofInt 8 15).toNat
            rw [this]; omega
          generalize headF r = A at *
          conv => whnf
          (refine br_t (by assumption) ?_; conv => whnf)
          iterate 2 (refine ChkS.mk (by kernel_rfl) ?_; conv => whnf)
          (refine rq_s (by (rfl)) ?_; conv => whnf)
          iterate 3 (refine ChkS.mk (by kernel_rfl) ?_; conv => whnf)
          (refine rq_s (by (rfl)) ?_; conv => whnf)
          (refine rq_s (by ((simp only [Bool.and_eq_true, decide_eq_true_eq, List.length_map]; omega))) ?_; conv => whnf)
          (refine ChkS.mk (by kernel_rfl) ?_; conv => whnf)
          (refine rq_s (by (rfl)) ?_; conv => whnf)
          (refine ChkS.mk (by kernel_rfl) ?_; conv => whnf)
          iterate 2 (refine rq_s (by (((first | (simp [maxBytes, subA]; done) | (simp [maxBytes, subA]; omega) | (simp only [Int.toNat_natCast, hc, q1, q2, decide_eq_true_eq]; show _ < 16; omega) | (simp only [Int.toNat_natCast, hc, decide_eq_true_eq]; first | exact q3 | exact q4))))) ?_; conv => whnf)
          (refine ChkS.mk (by kernel_rfl) ?_; conv => whnf)
          (refine rq_s (by (rfl)) ?_; conv => whnf)
          iterate 3 (refine ChkS.mk (by kernel_rfl) ?_; conv => whnf)
          (refine rq_s (by (rfl)) ?_; conv => whnf)
          (refine rq_s (by ((simp only [Bool.and_eq_true, decide_eq_true_eq, List.length_map]; omega))) ?_; conv => whnf)
          iterate 2 (refine ChkS.mk (by kernel_rfl) ?_; conv => whnf)
          (refine rq_s (by (rfl)) ?_; conv => whnf)
          (refine rq_s (by (((first | (simp [maxBytes, subA]; done) | (simp [maxBytes, subA]; omega) | (simp only [Int.toNat_natCast, hc, q1, q2, decide_eq_true_eq]; show _ < 16; omega) | (simp only [Int.toNat_natCast, hc, decide_eq_true_eq]; first | exact q3 | exact q4))))) ?_; conv => whnf)
          (refine ChkS.mk (by kernel_rfl) ?_; conv => whnf)
          (refine rq_s (by (rfl)) ?_; conv => whnf)
          (refine ChkS.mk (by kernel_rfl) ?_; conv => whnf)
          (refine rq_s (by ((simp only [decide_eq_true_eq, List.length_map]; done))) ?_; conv => whnf)
          iterate 2 (refine rq_s (by (rfl)) ?_; conv => whnf)
          (refine rq_s (by ((simp only [decide_eq_true_eq, List.length_map]; done))) ?_; conv => whnf)
          (refine rq_s (by (((first | (simp [maxBytes, subA]; done) | (simp [maxBytes, subA]; omega) | (simp only [Int.toNat_natCast, hc, q1, q2, decide_eq_true_eq]; show _ < 16; omega) | (simp only [Int.toNat_natCast, hc, decide_eq_true_eq]; first | exact q3 | exact q4))))) ?_; conv => whnf)
          (refine app2_s byteR rfl rfl ?_; conv => whnf)
          iterate 3 (refine ChkS.mk (by kernel_rfl) ?_; conv => whnf)
          rotate_left
          refine head_s (i + 1) ⟨by omega, by omega⟩ ?_ ?_
          · rw [hnx, wrap64 (by omega) (by omega)]
            simp only [Int.toNat_natCast, hc, q1, q2]
            rfl
          · rw [hnx]
            simp only [Int.toNat_natCast, hc, q1, q2]
            rfl
        · have hlt : decide ((i : Int) < (r.sa.length : Int)) = false := by simp; omega
          obtain rfl : i = r.sa.length := by omega
          rw [List.take_length] at *
          have hsp := spd r.st o3 (by omega)
          by_cases h0 : r.sa = []
          · have hz : (((hexF r.sa).length : Int) == 0) = true := by simp [h0, hexF]
            conv => whnf
            (focus (refine br_f (by (simp; done)) ?_; conv => whnf))
            (refine br_t (by assumption) ?_; conv => whnf)
            iterate 2 (refine rq_s (by (rfl)) ?_; conv => whnf)
            (refine rq_s (by ((simp only [decide_eq_true_eq, List.length_map]; done))) ?_; conv => whnf)
            iterate 2 (refine ChkS.mk (by kernel_rfl) ?_; conv => whnf)
            (refine rq_s (by (((first | (simp [maxStr]; done) | (simp [maxStr]; omega))))) ?_; conv => whnf)
            (refine ChkS.mk (by kernel_rfl) ?_; conv => whnf)
            (refine rq_s (by (rfl)) ?_; conv => whnf)
            iterate 2 (refine ChkS.mk (by kernel_rfl) ?_; conv => whnf)
            (refine rq_s (by (rfl)) ?_; conv => whnf)
            (refine ChkS.mk (by kernel_rfl) ?_; conv => whnf)
            (refine rq_s (by ((simp only [decide_eq_true_eq, List.length_map]; done))) ?_; conv => whnf)
            (refine rq_s (by (rfl)) ?_; conv => whnf)
            (refine rows_s (by ((refine sub_all ?_; simp [List.length_map]; done))) ?_; conv => whnf)
            (refine call_s (sp1 _ (by omega) (by omega)) ?_; conv => whnf)
            (refine ChkS.mk (by kernel_rfl) ?_; conv => whnf)
            (refine rq_s (by (((first | (simp [maxStr]; done) | (simp [maxStr]; omega))))) ?_; conv => whnf)
            (refine ChkS.mk (by kernel_rfl) ?_; conv => whnf)
            (refine rq_s (by (((first | (simp [maxStr]; done) | (simp [maxStr]; omega))))) ?_; conv => whnf)
            iterate 2 (refine ChkS.mk (by kernel_rfl) ?_; conv => whnf)
            (refine rq_s (by ((simp only [decide_eq_true_eq, List.length_map]; done))) ?_; conv => whnf)
            (refine rq_s (by (rfl)) ?_; conv => whnf)
            (refine byt_s rfl ?_; conv => whnf)
            (refine ChkS.mk (by kernel_rfl) ?_; conv => whnf)
            (refine rq_s (by (((first | (simp [maxStr]; done) | (simp [maxStr]; omega))))) ?_; conv => whnf)
            (refine ChkS.mk (by kernel_rfl) ?_; conv => whnf)
            (refine rq_s (by (((first | (simp [maxStr]; done) | (simp [maxStr]; omega))))) ?_; conv => whnf)
            (refine ChkS.mk (by kernel_rfl) ?_; conv => whnf)
            (refine rq_s (by (rfl)) ?_; conv => whnf)
            iterate 2 (refine ChkS.mk (by kernel_rfl) ?_; conv => whnf)
            (refine rq_s (by (rfl)) ?_; conv => whnf)
            (refine rows_s (by (rfl)) ?_; conv => whnf)
            (refine call_s (hsp ..) ?_; conv => whnf)
            (refine ChkS.mk (by kernel_rfl) ?_; conv => whnf)
            (refine rq_s (by (((first | (simp [maxStr]; done) | (simp [maxStr]; omega))))) ?_; conv => whnf)
            iterate 3 (refine ChkS.mk (by kernel_rfl) ?_; conv => whnf)
            iterate 2 (refine fac_s (fun hf => ?_); conv => whnf)
            iterate 2 (refine rq_s (by (rfl)) ?_; conv => whnf)
            rotate_left
            exact sh_s (by simp [rtV, repT, saidF, spaced_one, h0])
          · have hz : (((hexF r.sa).length : Int) == 0) = false := by
              have h3 : 0 < r.sa.length := List.length_pos_iff.2 h0
              have h4 : ((hexF r.sa).length : Int) ≠ 0 := by omega
              simpa using h4
            conv => whnf
            (focus (refine br_f (by (simp; done)) ?_; conv => whnf))
            (refine br_f (by assumption) ?_; conv => whnf)
            iterate 2 (refine ChkS.mk (by kernel_rfl) ?_; conv => whnf)
            (refine rq_s (by (((first | (simp [maxStr]; done) | (simp [maxStr]; omega))))) ?_; conv => whnf)
            (refine ChkS.mk (by kernel_rfl) ?_; conv => whnf)
            (refine rq_s (by (rfl)) ?_; conv => whnf)
            iterate 2 (refine ChkS.mk (by kernel_rfl) ?_; conv => whnf)
            (refine rq_s (by (rfl)) ?_; conv => whnf)
            (refine ChkS.mk (by kernel_rfl) ?_; conv => whnf)
            (refine rq_s (by ((simp only [decide_eq_true_eq, List.length_map]; done))) ?_; conv => whnf)
            (refine rq_s (by (rfl)) ?_; conv => whnf)
            (refine rows_s (by ((refine sub_all ?_; simp [List.length_map]; done))) ?_; conv => whnf)
            (refine call_s (sp1 _ (by omega) (by omega)) ?_; conv => whnf)
            (refine ChkS.mk (by kernel_rfl) ?_; conv => whnf)
            (refine rq_s (by (((first | (simp [maxStr]; done) | (simp [maxStr]; omega))))) ?_; conv => whnf)
            (refine ChkS.mk (by kernel_rfl) ?_; conv => whnf)
            (refine rq_s (by (((first | (simp [maxStr]; done) | (simp [maxStr]; omega))))) ?_; conv => whnf)
            iterate 2 (refine ChkS.mk (by kernel_rfl) ?_; conv => whnf)
            (refine rq_s (by ((simp only [decide_eq_true_eq, List.length_map]; done))) ?_; conv => whnf)
            (refine rq_s (by (rfl)) ?_; conv => whnf)
            (refine byt_s (bytes_sub _) ?_; conv => whnf)
            (refine ChkS.mk (by kernel_rfl) ?_; conv => whnf)
            (refine rq_s (by (((first | (simp [maxStr]; done) | (simp [maxStr]; omega))))) ?_; conv => whnf)
            (refine ChkS.mk (by kernel_rfl) ?_; conv => whnf)
            (refine rq_s (by (((first | (simp [maxStr]; done) | (simp [maxStr]; omega))))) ?_; conv => whnf)
            (refine ChkS.mk (by kernel_rfl) ?_; conv => whnf)
            (refine rq_s (by (rfl)) ?_; conv => whnf)
            iterate 2 (refine ChkS.mk (by kernel_rfl) ?_; conv => whnf)
            (refine rq_s (by (rfl)) ?_; conv => whnf)
            (refine rows_s (by (rfl)) ?_; conv => whnf)
            (refine call_s (hsp ..) ?_; conv => whnf)
            (refine ChkS.mk (by kernel_rfl) ?_; conv => whnf)
            (refine rq_s (by (((first | (simp [maxStr]; done) | (simp [maxStr]; omega))))) ?_; conv => whnf)
            iterate 3 (refine ChkS.mk (by kernel_rfl) ?_; conv => whnf)
            iterate 2 (refine fac_s (fun hf => ?_); conv => whnf)
            iterate 2 (refine rq_s (by (rfl)) ?_; conv => whnf)
            rotate_left
            exact sh_s (by simp [rtV, repT, saidF, spaced_one, h0]))
  · rw [if_neg ok]
    refine Con.ev 85 T_ok mix Tryd.func12 rfl rfl rfl rfl [.tmp 2, .tmp 3] rfl ?_
    conv => whnf
    iterate 3 (refine rq_s (by (rfl)) ?_; conv => whnf)
    (refine lend_s ?_; conv => whnf)
    (refine call_s (c48 ..) ?_; conv => whnf)
    (refine br_s (fun hb => ?_) (fun hb => ?_) <;> (try simp only [beq_iff_eq, bne_iff_ne, ne_eq, decide_eq_true_eq, decide_eq_false_iff_not, Int.not_lt, Int.not_le, Bool.false_eq_true, if_false, if_true, beq_eq_false_iff_ne, bne_eq_false_iff_eq, Bool.not_eq_true', Bool.not_eq_false', Int.ofNat_lt, Int.ofNat_le, Int.ofNat_inj, List.length_map, List.length_nil, List.length_cons] at hb) <;> conv => whnf)
    iterate 15 (refine br_t rfl ?_; conv => whnf)
    iterate 2 (refine rq_s (by (rfl)) ?_; conv => whnf)
    (refine sh_s ?_; (rfl))
    (refine rq_s (by (rfl)) ?_; conv => whnf)
    iterate 2 (refine br_f rfl ?_; conv => whnf)
    iterate 2 (refine rq_s (by (rfl)) ?_; conv => whnf)
    (refine lend_s ?_; conv => whnf)
    (refine rows_s (by (rfl)) ?_; conv => whnf)
    (refine call_s (c49 ..) ?_; conv => whnf)
    (refine br_f rfl ?_; conv => whnf)
    (refine br_s (fun hb => ?_) (fun hb => ?_) <;> (try simp only [beq_iff_eq, bne_iff_ne, ne_eq, decide_eq_true_eq, decide_eq_false_iff_not, Int.not_lt, Int.not_le, Bool.false_eq_true, if_false, if_true, beq_eq_false_iff_ne, bne_eq_false_iff_eq, Bool.not_eq_true', Bool.not_eq_false', Int.ofNat_lt, Int.ofNat_le, Int.ofNat_inj, List.length_map, List.length_nil, List.length_cons] at hb) <;> conv => whnf)
    iterate 10 (refine br_t rfl ?_; conv => whnf)
    iterate 2 (refine rq_s (by (rfl)) ?_; conv => whnf)
    (refine sh_s ?_; (rfl))
    (refine rq_s (by (rfl)) ?_; conv => whnf)
    iterate 2 (refine br_f rfl ?_; conv => whnf)
    iterate 3 (refine rq_s (by (rfl)) ?_; conv => whnf)
    (refine lend_s ?_; conv => whnf)
    (refine call_s (c50 ..) ?_; conv => whnf)
    (refine br_f rfl ?_; conv => whnf)
    (refine br_s (fun hb => ?_) (fun hb => ?_) <;> (try simp only [beq_iff_eq, bne_iff_ne, ne_eq, decide_eq_true_eq, decide_eq_false_iff_not, Int.not_lt, Int.not_le, Bool.false_eq_true, if_false, if_true, beq_eq_false_iff_ne, bne_eq_false_iff_eq, Bool.not_eq_true', Bool.not_eq_false', Int.ofNat_lt, Int.ofNat_le, Int.ofNat_inj, List.length_map, List.length_nil, List.length_cons] at hb) <;> conv => whnf)
    iterate 5 (refine br_t rfl ?_; conv => whnf)
    iterate 2 (refine rq_s (by (rfl)) ?_; conv => whnf)
    (refine sh_s ?_; (rfl))
    (refine rq_s (by (rfl)) ?_; conv => whnf)
    iterate 3 (refine br_f rfl ?_; conv => whnf)
    (refine br_s (fun hb => ?_) (fun hb => ?_) <;> (try simp only [beq_iff_eq, bne_iff_ne, ne_eq, decide_eq_true_eq, decide_eq_false_iff_not, Int.not_lt, Int.not_le, Bool.false_eq_true, if_false, if_true, beq_eq_false_iff_ne, bne_eq_false_iff_eq, Bool.not_eq_true', Bool.not_eq_false', Int.ofNat_lt, Int.ofNat_le, Int.ofNat_inj, List.length_map, List.length_nil, List.length_cons] at hb) <;> conv => whnf)
    iterate 2 (refine rq_s (by (rfl)) ?_; conv => whnf)
    (refine sh_s ?_; (rfl))
    (refine rq_s (by (rfl)) ?_; conv => whnf)
    (refine br_s (fun hb => ?_) (fun hb => ?_) <;> (try simp only [beq_iff_eq, bne_iff_ne, ne_eq, decide_eq_true_eq, decide_eq_false_iff_not, Int.not_lt, Int.not_le, Bool.false_eq_true, if_false, if_true, beq_eq_false_iff_ne, bne_eq_false_iff_eq, Bool.not_eq_true', Bool.not_eq_false', Int.ofNat_lt, Int.ofNat_le, Int.ofNat_inj, List.length_map, List.length_nil, List.length_cons] at hb) <;> conv => whnf)
    iterate 2 (refine rq_s (by (rfl)) ?_; conv => whnf)
    (refine rq_s (by ((simp only [decide_eq_true_eq, List.length_map]; done))) ?_; conv => whnf)
    (refine rq_s (by (rfl)) ?_; conv => whnf)
    (refine lend_s ?_; conv => whnf)
    (refine rows_s (by ((refine sub_all ?_; simp [List.length_map]; done))) ?_; conv => whnf)
    rotate_left
    (refine rq_s (by (rfl)) ?_; conv => whnf)
    (refine br_s (fun hb => ?_) (fun hb => ?_) <;> (try simp only [beq_iff_eq, bne_iff_ne, ne_eq, decide_eq_true_eq, decide_eq_false_iff_not, Int.not_lt, Int.not_le, Bool.false_eq_true, if_false, if_true, beq_eq_false_iff_ne, bne_eq_false_iff_eq, Bool.not_eq_true', Bool.not_eq_false', Int.ofNat_lt, Int.ofNat_le, Int.ofNat_inj, List.length_map, List.length_nil, List.length_cons] at hb) <;> conv => whnf)
    iterate 2 (refine rq_s (by (rfl)) ?_; conv => whnf)
    rotate_left
    iterate 2 (refine rq_s (by (rfl)) ?_; conv => whnf)
    rotate_left
    all_goals (exfalso; apply ok; simp only [reportOK, Bool.and_eq_true, decide_eq_true_eq] at *; simp_all; try omega)
end R2

/- ReportText: the law; what the argument is. -/
set_option linter.unusedVariables false
set_option linter.unusedSimpArgs false
set_option maxRecDepth 100000
open Go Go.Abs Go.Proofs V1 H1 D2 R1 R2
namespace R3

set_option maxHeartbeats 4000000 in
theorem law (r : Rep) : Con Tryd.prog 3 [repV r] (undefs [repV r]) (.bool true) := by
  have k1 := c12 r
  have k2 := c10 r
  generalize rtF r = q at k1 k2
  obtain ⟨t, e⟩ := q
  dsimp only [rtV] at k1 k2
  have eR : ∀ a : Rep, Con Tryd.prog 13 [repV a, repV a] (undefs [repV a, repV a]) (.bool true) := fun a => by simpa using c13 a a
  refine Con.evFK [(0, [1, 2]), (1, [1, 2, 3]), (2, [1, 2, 3]), (3, [1, 2, 13]), (4, [1, 2]), (5, [1, 2, 4, 5]), (6, [1, 2, 4, 5, 6]), (7, [1, 2, 4, 5, 6, 7, 8]), (8, [1, 2, 6, 34]), (9, [1, 2, 6]), (10, [2, 39]), (11, [2]), (12, [2])] 40 T_ok mix Tryd.func3 rfl rfl rfl rfl [.tmp 2] rfl fun ⟨hx, _⟩ => ?_
  have x1 := facts_str fun j => hx (j + 1) (.str r.sa) (by simp [repR])
  have x2 := facts_len fun d => hx (d + 1) (roI r.st) (by simp [repR])
  clear hx
  conv => whnf
  iterate 7 (refine rq_s (by (rfl)) ?_; conv => whnf)
  (refine lend_s ?_; conv => whnf)
  (refine rows_s (by (rfl)) ?_; conv => whnf)
  (refine call_s (c9 ..) ?_; conv => whnf)
  (refine fac_s (fun hf => ?_); conv => whnf)
  (refine br_s (fun hb => ?_) (fun hb => ?_) <;> (try simp only [beq_iff_eq, bne_iff_ne, ne_eq, decide_eq_true_eq, decide_eq_false_iff_not, Int.not_lt, Int.not_le, Bool.false_eq_true, if_false, if_true, beq_eq_false_iff_ne, bne_eq_false_iff_eq, Bool.not_eq_true', Bool.not_eq_false', Int.ofNat_lt, Int.ofNat_le, Int.ofNat_inj, List.length_map, List.length_nil, List.length_cons] at hb) <;> conv => whnf)
  (refine rq_s (by (rfl)) ?_; conv => whnf)
  (refine sh_s ?_; (rfl))
  iterate 5 (refine rq_s (by (rfl)) ?_; conv => whnf)
  (refine lend_s ?_; conv => whnf)
  (refine rows_s (by (rfl)) ?_; conv => whnf)
  rotate_left
  have a1 : 0 ≤ szReport r 1048576 := by omega
  obtain ⟨a2, s1⟩ := smallReport_of (by omega) (by omega) x1 x2 a1
  (refine call_s (c11 _ s1) ?_; conv => whnf)
  iterate 3 (refine rq_s (by (rfl)) ?_; conv => whnf)
  (refine rq_s (by ((simp only [decide_eq_true_eq, List.length_map, mkS_len, setRow_len, ownI]; done))) ?_; conv => whnf)
  iterate 2 (refine rq_s (by (rfl)) ?_; conv => whnf)
  (refine lend_s ?_; conv => whnf)
  (refine rows_s (by ((refine sub_all ?_; simp [List.length_map, mkS_len, setRow_len, ownI]; done))) ?_; conv => whnf)
  (refine call_s (k2 ..) ?_; conv => whnf)
  iterate 6 (refine fac_s (fun hf => ?_); conv => whnf)
  iterate 5 (refine rq_s (by (rfl)) ?_; conv => whnf)
  (refine lend_s ?_; conv => whnf)
  (refine rows_s (by (rfl)) ?_; conv => whnf)
  (refine call_s (c11 _ s1) ?_; conv => whnf)
  iterate 4 (refine fac_s (fun hf => ?_); conv => whnf)
  iterate 3 (refine rq_s (by (rfl)) ?_; conv => whnf)
  (refine rq_s (by ((simp only [decide_eq_true_eq, List.length_map, mkS_len, setRow_len, ownI]; done))) ?_; conv => whnf)
  iterate 2 (refine rq_s (by (rfl)) ?_; conv => whnf)
  (refine lend_s ?_; conv => whnf)
  (refine rows_s (by ((refine sub_all ?_; simp [List.length_map, mkS_len, setRow_len, ownI]; done))) ?_; conv => whnf)
  (refine call_s (k1 ..) ?_; conv => whnf)
  iterate 2 (refine fac_s (fun hf => ?_); conv => whnf)
  (focus (refine br_f (by (simp; done)) ?_; conv => whnf))
  iterate 2 (refine br_f rfl ?_; conv => whnf)
  (focus (refine br_f (by (simp; done)) ?_; conv => whnf))
  iterate 3 (refine ChkS.mk (by kernel_rfl) ?_; conv => whnf)
  iterate 5 (refine rq_s (by (rfl)) ?_; conv => whnf)
  (refine rows_s (by (rfl)) ?_; conv => whnf)
  (refine call_s (c11 _ s1) ?_; conv => whnf)
  (refine ChkS.mk (by kernel_rfl) ?_; conv => whnf)
  iterate 3 (refine rq_s (by (rfl)) ?_; conv => whnf)
  (refine rq_s (by ((simp only [decide_eq_true_eq, List.length_map, mkS_len, setRow_len, ownI]; done))) ?_; conv => whnf)
  iterate 5 (refine rq_s (by (rfl)) ?_; conv => whnf)
  (refine rq_s (by ((simp only [decide_eq_true_eq, List.length_map, mkS_len, setRow_len, ownI]; done))) ?_; conv => whnf)
  iterate 2 (refine rq_s (by (rfl)) ?_; conv => whnf)
  iterate 2 (refine rows_s (by ((refine sub_all ?_; simp [List.length_map, mkS_len, setRow_len, ownI]; done))) ?_; conv => whnf)
  (refine call_s (eR r ..) ?_; conv => whnf)
  iterate 2 (refine ChkS.mk (by kernel_rfl) ?_; conv => whnf)
  iterate 4 (refine fac_s (fun hf => ?_); conv => whnf)
  (refine br_f rfl ?_; conv => whnf)
  (refine rq_s (by (rfl)) ?_; conv => whnf)
  (refine sh_s ?_; (first | rfl | (exfalso; omega)))
theorem rep_of {l : List AV} (h : OfT T 10 24 l) : ∃ th fu sa st co, l = repR ⟨th, fu, sa, st, co⟩ := by
  obtain ⟨_, _, rfl, ⟨th, rfl⟩, _, _, rfl, ⟨fu, rfl⟩, _, _, rfl, ⟨sa, rfl⟩, _, _, rfl, ⟨r3, rfl, h3⟩, _, _, rfl, ⟨co, rfl⟩, rfl⟩ := h
  obtain ⟨st, rfl⟩ := rows_map intR h3
  exact ⟨th, fu, sa, st, co, rfl⟩
end R3
