/- The functions that the law FnExactGrantsAt reaches, continued; the law returns true. -/
import Derived.Test.YtbngkaiocdpliaaGrantA
set_option linter.unusedVariables false
set_option linter.unusedSimpArgs false
set_option maxRecDepth 100000
open Go Go.Abs Go.Proofs U8
namespace U9


theorem c23 (rs : List Doing) (n : Int) : Con Try.prog 23 [roA rs, .int .i64 n] (undefs [roA rs, .int .i64 n]) (gaV rs n) := by
  refine Con.evF 59 T_ok mix Try.func23 rfl rfl rfl rfl [.tmp 4, .tmp 5] rfl fun ⟨hx, hn, _⟩ => ?_
  have hx := facts_len hx
  have hn := facts_int hn
  conv => whnf
  repeat' (first
    | (refine rq_s (by first | rfl | (refine and_s rfl ?_; simp only [decide_eq_true_eq, List.length_map]; omega) | (simp only [Bool.and_eq_true, decide_eq_true_eq, List.length_map]; omega) | (simp; done) | (simp; omega) ) ?_; conv => whnf)
    | (refine aft_s rfl rfl ?_; conv => whnf)
    | (refine row_s (by first | (try simp only [Int.toNat_natCast]); exact row_map actR _ _ _ default (by first | omega | (simp; omega))) ?_; conv => whnf)
    | (refine rows_s (by first | (refine sub_all ?_; simp [List.length_map, gr_len]; done) | exact sub_map _ _ _ _ | rfl) ?_; conv => whnf)
    | (refine fac_s (fun hf => ?_); conv => whnf)
    | (refine ChkS.mk (by kernel_rfl) ?_; conv => whnf)
    | (refine br_t rfl ?_; conv => whnf)
    | (refine br_f rfl ?_; conv => whnf)
    | (refine br_t (by assumption) ?_; conv => whnf)
    | (refine br_f (by assumption) ?_; conv => whnf)
    | (refine br_s (fun hb => ?_) (fun hb => ?_) <;> (try simp only [beq_iff_eq, bne_iff_ne, ne_eq, decide_eq_true_eq, decide_eq_false_iff_not, Int.not_lt, Int.not_le, Bool.false_eq_true, if_false, if_true, beq_eq_false_iff_ne, bne_eq_false_iff_eq, Bool.not_eq_true', Bool.not_eq_false', Int.ofNat_lt, Int.ofNat_le, Int.ofNat_inj, List.length_map, List.length_nil, List.length_cons] at hb) <;> conv => whnf)
    | (refine lend_s ?_; conv => whnf)
    | ((first | refine call_s (c49 ..) ?_ | refine call_s (c38 ..) ?_); conv => whnf)
    )
  · refine sh_nil ?_
    have : code rs = 2 := by rw [code, if_pos (by omega)]
    rw [ga_code (by omega), this]
  · exact sh_nil (ga_code hb)
  · exact sh_nil (ga_bad (by assumption) hb)
  · have hc : code rs = 0 := by assumption
    have hn := inR_of hb
    have hok := (code_ok hc).2
    have hres := ga_good hc hb
    obtain ⟨m, rfl⟩ := Int.eq_ofNat_of_zero_le hn.1
    simp only [Int.toNat_natCast] at hn hres
    refine LoopG.rounds (α := Nat) T_ok mix [0, 1, 7, 8] [(25, 25)] (fun i => [(0, roA rs), (1, .int .i64 m), (7, .ref 25 0 4), (8, .int .i64 i)]) (fun i => [(25, .live ⟨true, 0, [.bool false], (gr (rs.take i)).map boolR⟩)]) (fun i => i ≤ m) (fun i => m - i) ?_ ?_
    · conv => whnf
      exact head_s 0 (by simp) (by simp [roA]) (by rfl)
    · intro i h1 _ _
      have hlen := gr_len (rs.take i)
      have hki := fun hi : i < rs.length => hok (rs.getD i default) (by simp [hi])
      conv => whnf
      repeat' (first
    | (refine rq_s (by first | rfl | (refine and_s rfl ?_; simp only [decide_eq_true_eq, List.length_map]; omega) | (simp only [Bool.and_eq_true, decide_eq_true_eq, List.length_map]; omega) | (simp; done) | (simp; omega) ) ?_; conv => whnf)
    | (refine aft_s rfl rfl ?_; conv => whnf)
    | (refine row_s (by first | (try simp only [Int.toNat_natCast]); exact row_map actR _ _ _ default (by first | omega | (simp; omega))) ?_; conv => whnf)
    | (refine rows_s (by first | (refine sub_all ?_; simp [List.length_map, gr_len]; done) | exact sub_map _ _ _ _ | rfl) ?_; conv => whnf)
    | (refine fac_s (fun hf => ?_); conv => whnf)
    | (refine ChkS.mk (by kernel_rfl) ?_; conv => whnf)
    | (refine br_t rfl ?_; conv => whnf)
    | (refine br_f rfl ?_; conv => whnf)
    | (refine br_t (by assumption) ?_; conv => whnf)
    | (refine br_f (by assumption) ?_; conv => whnf)
    | (refine br_s (fun hb => ?_) (fun hb => ?_) <;> (try simp only [beq_iff_eq, bne_iff_ne, ne_eq, decide_eq_true_eq, decide_eq_false_iff_not, Int.not_lt, Int.not_le, Bool.false_eq_true, if_false, if_true, beq_eq_false_iff_ne, bne_eq_false_iff_eq, Bool.not_eq_true', Bool.not_eq_false', Int.ofNat_lt, Int.ofNat_le, Int.ofNat_inj, List.length_map, List.length_nil, List.length_cons] at hb) <;> conv => whnf)
    | (refine lend_s ?_; conv => whnf)
    
    )
      · have hk : (rs.getD i default).k = 1 := by assumption
        refine head_s (i + 1) ⟨by omega, by omega⟩ (by rw [wrap64 (by omega) (by omega)]; rfl) (congrArg (fun r => [(25, MB.live ⟨true, 0, [.bool false], r⟩)]) ?_)
        rw [Nat.zero_add, set_gr _ hlen (by omega), gr_next (by omega), grStep, if_pos (.inl hk)]
      · have hk : (rs.getD i default).k = 2 := by simpa using hb
        refine head_s (i + 1) ⟨by omega, by omega⟩ (by rw [wrap64 (by omega) (by omega)]; rfl) (congrArg (fun r => [(25, MB.live ⟨true, 0, [.bool false], r⟩)]) ?_)
        rw [Nat.zero_add, set_gr _ hlen (by omega), gr_next (by omega), grStep, if_pos (.inr hk)]
      · have hk : ¬ (rs.getD i default).k = 2 := by simpa using hb
        refine head_s (i + 1) ⟨by omega, by omega⟩ (by rw [wrap64 (by omega) (by omega)]; rfl) (congrArg (fun r => [(25, MB.live ⟨true, 0, [.bool false], r⟩)]) ?_)
        rw [gr_next (by omega), grStep, if_neg (by rintro (h | h); exact absurd h (by assumption); exact hk h)]
      · obtain rfl : i = m := by omega
        repeat' (first
    | (refine rq_s (by first | rfl | (refine and_s rfl ?_; simp only [decide_eq_true_eq, List.length_map]; omega) | (simp only [Bool.and_eq_true, decide_eq_true_eq, List.length_map]; omega) | (simp; done) | (simp; omega) ) ?_; conv => whnf)
    | (refine aft_s rfl rfl ?_; conv => whnf)
    | (refine row_s (by first | (try simp only [Int.toNat_natCast]); exact row_map actR _ _ _ default (by first | omega | (simp; omega))) ?_; conv => whnf)
    | (refine rows_s (by first | (refine sub_all ?_; simp [List.length_map, gr_len]; done) | exact sub_map _ _ _ _ | rfl) ?_; conv => whnf)
    | (refine fac_s (fun hf => ?_); conv => whnf)
    | (refine ChkS.mk (by kernel_rfl) ?_; conv => whnf)
    | (refine br_t rfl ?_; conv => whnf)
    | (refine br_f rfl ?_; conv => whnf)
    | (refine br_t (by assumption) ?_; conv => whnf)
    | (refine br_f (by assumption) ?_; conv => whnf)
    | (refine br_s (fun hb => ?_) (fun hb => ?_) <;> (try simp only [beq_iff_eq, bne_iff_ne, ne_eq, decide_eq_true_eq, decide_eq_false_iff_not, Int.not_lt, Int.not_le, Bool.false_eq_true, if_false, if_true, beq_eq_false_iff_ne, bne_eq_false_iff_eq, Bool.not_eq_true', Bool.not_eq_false', Int.ofNat_lt, Int.ofNat_le, Int.ofNat_inj, List.length_map, List.length_nil, List.length_cons] at hb) <;> conv => whnf)
    | (refine lend_s ?_; conv => whnf)
    
    | (refine sh_s ?_; (simp [gaV, hres, ownB, subA, List.take_of_length_le, gr_len])))
/-- Marks: numbers told as truth values. -/
def mkB (n : Nat) (k : Int) : List Bool := (List.range n).map fun i : Nat => (k + (i : Int)).tmod 3 == 0
theorem mkB_len (n : Nat) (k : Int) : (mkB n k).length = n := by simp [mkB]
theorem mkB_get {n i : Nat} {k : Int} (h : i < n) : (mkB n k).getD i false = ((k + i).tmod 3 == 0) := by simp [mkB, h]
def mixB (bs : List Bool) (k : Int) (i : Nat) : List Bool := mkB i k ++ bs.drop i
theorem mixB_len {bs : List Bool} {k : Int} {i : Nat} (h : i ≤ bs.length) : (mixB bs k i).length = bs.length := by simp [mixB, mkB_len]; omega
theorem mixB_next {bs : List Bool} {k : Int} {i : Nat} (h : i < bs.length) : (mixB bs k i).set i ((k + i).tmod 3 == 0) = mixB bs k (i + 1) := by
  unfold mixB
  rw [List.set_append_right _ _ (by simp [mkB_len]), mkB_len, Nat.sub_self, List.drop_eq_getElem_cons h, List.set_cons_zero]
  simp [mkB, List.range_succ]


theorem c29 (bs : List Bool) (k : Int) (h1 : 0 ≤ k) (h2 : k + bs.length ≤ 1000000000) : Con Try.prog 29 [ownB bs, .int .i64 k] [ownB (mkB bs.length k), .undef] (.int .i64 (k + bs.length)) := by
  refine Con.evM 21 [true, false] [some 500000, none] [500000] rfl rfl rfl T_ok mix Try.func29 rfl rfl rfl rfl [.tmp 4] rfl ?_
  conv => whnf
  repeat' (first
    | (refine rq_s (by first | rfl | (refine and_s rfl ?_; simp only [decide_eq_true_eq, List.length_map]; omega) | (simp only [Bool.and_eq_true, decide_eq_true_eq, List.length_map]; omega) | (simp; done) | (simp; omega) ) ?_; conv => whnf)
    | (refine aft_s rfl rfl ?_; conv => whnf)
    | (refine row_s (by first | (try simp only [Int.toNat_natCast]); exact row_map boolR _ _ _ false (by first | omega | (simp; omega))) ?_; conv => whnf)
    | (refine rows_s (by first | (refine sub_all ?_; simp [List.length_map, gr_len, mkB_len]; done) | exact sub_map _ _ _ _ | rfl) ?_; conv => whnf)
    | (refine fac_s (fun hf => ?_); conv => whnf)
    | (refine ChkS.mk (by kernel_rfl) ?_; conv => whnf)
    | (refine br_t rfl ?_; conv => whnf)
    | (refine br_f rfl ?_; conv => whnf)
    | (refine br_t (by assumption) ?_; conv => whnf)
    | (refine br_f (by assumption) ?_; conv => whnf)
    | (refine br_s (fun hb => ?_) (fun hb => ?_) <;> (try simp only [beq_iff_eq, bne_iff_ne, ne_eq, decide_eq_true_eq, decide_eq_false_iff_not, Int.not_lt, Int.not_le, Bool.false_eq_true, if_false, if_true, beq_eq_false_iff_ne, bne_eq_false_iff_eq, Bool.not_eq_true', Bool.not_eq_false', Int.ofNat_lt, Int.ofNat_le, Int.ofNat_inj, List.length_map, List.length_nil, List.length_cons] at hb) <;> conv => whnf)
    | (refine lend_s ?_; conv => whnf)
    
    )
  refine LoopG.rounds (α := Nat) T_ok mix [0, 1, 5] [(500000, 500000)] (fun i => [(0, .ref 500000 0 bs.length), (1, .int .i64 (k + i)), (5, .int .i64 i)]) (fun i => [(500000, .live ⟨true, 0, [.bool false], (mixB bs k i).map boolR⟩)]) (fun i => i ≤ bs.length) (fun i => bs.length - i) ?_ ?_
  · conv => whnf
    exact head_s 0 (by simp) (by simp) (by simp [mixB, mkB])
  · intro i hi _ _
    have hlen := mixB_len (k := k) hi
    conv => whnf
    repeat' (first
    | (refine rq_s (by first | rfl | (refine and_s rfl ?_; simp only [decide_eq_true_eq, List.length_map]; omega) | (simp only [Bool.and_eq_true, decide_eq_true_eq, List.length_map]; omega) | (simp; done) | (simp; omega) ) ?_; conv => whnf)
    | (refine aft_s rfl rfl ?_; conv => whnf)
    | (refine row_s (by first | (try simp only [Int.toNat_natCast]); exact row_map boolR _ _ _ false (by first | omega | (simp; omega))) ?_; conv => whnf)
    | (refine rows_s (by first | (refine sub_all ?_; simp [List.length_map, gr_len, mkB_len]; done) | exact sub_map _ _ _ _ | rfl) ?_; conv => whnf)
    | (refine fac_s (fun hf => ?_); conv => whnf)
    | (refine ChkS.mk (by kernel_rfl) ?_; conv => whnf)
    | (refine br_t rfl ?_; conv => whnf)
    | (refine br_f rfl ?_; conv => whnf)
    | (refine br_t (by assumption) ?_; conv => whnf)
    | (refine br_f (by assumption) ?_; conv => whnf)
    | (refine br_s (fun hb => ?_) (fun hb => ?_) <;> (try simp only [beq_iff_eq, bne_iff_ne, ne_eq, decide_eq_true_eq, decide_eq_false_iff_not, Int.not_lt, Int.not_le, Bool.false_eq_true, if_false, if_true, beq_eq_false_iff_ne, bne_eq_false_iff_eq, Bool.not_eq_true', Bool.not_eq_false', Int.ofNat_lt, Int.ofNat_le, Int.ofNat_inj, List.length_map, List.length_nil, List.length_cons] at hb) <;> conv => whnf)
    | (refine lend_s ?_; conv => whnf)
    
    )
    · refine head_s (i + 1) ⟨by omega, by omega⟩ (by rw [wrap64 (by omega) (by omega), wrap64 (by omega) (by omega), Int.add_assoc]; rfl) (congrArg (fun r => [(500000, MB.live ⟨true, 0, [.bool false], r⟩)]) ?_)
      simp only [Nat.zero_add, Int.toNat_natCast]
      exact (setRow_map boolR _ _ _ _ ((k + i).tmod 3 == 0) false (by omega) rfl rfl).trans (by rw [mixB_next (by assumption)])
    · obtain rfl : i = bs.length := by omega
      refine aft_s (by simp [AV.rowsN, ownB, hlen]) (by simp [ownB, mixB]) ?_
      exact sh_s rfl
def heldB (bs : List Bool) (k : Int) : Int := if bs = mkB bs.length k then k + bs.length else -1
theorem mkB_take {n i : Nat} {k : Int} (h : i ≤ n) : (mkB n k).take i = mkB i k := by simp [mkB, ← List.map_take, List.take_range, Nat.min_eq_left h]
theorem c30 (bs : List Bool) (k : Int) (h1 : 0 ≤ k) (h2 : k + bs.length ≤ 1000000000) : Con Try.prog 30 [roB bs, .int .i64 k] (undefs [roB bs, .int .i64 k]) (.int .i64 (heldB bs k)) := by
  refine Con.ev 23 T_ok mix Try.func30 rfl rfl rfl rfl [.tmp 4] rfl ?_
  conv => whnf
  repeat' (first
    | (refine rq_s (by first | rfl | (refine and_s rfl ?_; simp only [decide_eq_true_eq, List.length_map]; omega) | (simp only [Bool.and_eq_true, decide_eq_true_eq, List.length_map]; omega) | (simp; done) | (simp; omega) ) ?_; conv => whnf)
    | (refine aft_s rfl rfl ?_; conv => whnf)
    | (refine row_s (by first | (try simp only [Int.toNat_natCast]); exact row_map boolR _ _ _ false (by first | omega | (simp; omega))) ?_; conv => whnf)
    | (refine rows_s (by first | (refine sub_all ?_; simp [List.length_map, gr_len, mkB_len]; done) | exact sub_map _ _ _ _ | rfl) ?_; conv => whnf)
    | (refine fac_s (fun hf => ?_); conv => whnf)
    | (refine ChkS.mk (by kernel_rfl) ?_; conv => whnf)
    | (refine br_t rfl ?_; conv => whnf)
    | (refine br_f rfl ?_; conv => whnf)
    | (refine br_t (by assumption) ?_; conv => whnf)
    | (refine br_f (by assumption) ?_; conv => whnf)
    | (refine br_s (fun hb => ?_) (fun hb => ?_) <;> (try simp only [beq_iff_eq, bne_iff_ne, ne_eq, decide_eq_true_eq, decide_eq_false_iff_not, Int.not_lt, Int.not_le, Bool.false_eq_true, if_false, if_true, beq_eq_false_iff_ne, bne_eq_false_iff_eq, Bool.not_eq_true', Bool.not_eq_false', Int.ofNat_lt, Int.ofNat_le, Int.ofNat_inj, List.length_map, List.length_nil, List.length_cons] at hb) <;> conv => whnf)
    | (refine lend_s ?_; conv => whnf)
    
    )
  refine LoopG.rounds (α := Nat) T_ok mix [0, 1, 5] [] (fun i => [(0, roB bs), (1, .int .i64 (k + i)), (5, .int .i64 i)]) (fun _ => []) (fun i => i ≤ bs.length ∧ bs.take i = mkB i k) (fun i => bs.length - i) ?_ ?_
  · conv => whnf
    exact head_s 0 ⟨by simp, by simp [mkB]⟩ (by simp [roB]) rfl
  · rintro i ⟨hi, ht⟩ - -
    conv => whnf
    repeat' (first
    | (refine rq_s (by first | rfl | (refine and_s rfl ?_; simp only [decide_eq_true_eq, List.length_map]; omega) | (simp only [Bool.and_eq_true, decide_eq_true_eq, List.length_map]; omega) | (simp; done) | (simp; omega) ) ?_; conv => whnf)
    | (refine aft_s rfl rfl ?_; conv => whnf)
    | (refine row_s (by first | (try simp only [Int.toNat_natCast]); exact row_map boolR _ _ _ false (by first | omega | (simp; omega))) ?_; conv => whnf)
    | (refine rows_s (by first | (refine sub_all ?_; simp [List.length_map, gr_len, mkB_len]; done) | exact sub_map _ _ _ _ | rfl) ?_; conv => whnf)
    | (refine fac_s (fun hf => ?_); conv => whnf)
    | (refine ChkS.mk (by kernel_rfl) ?_; conv => whnf)
    | (refine br_t rfl ?_; conv => whnf)
    | (refine br_f rfl ?_; conv => whnf)
    | (refine br_t (by assumption) ?_; conv => whnf)
    | (refine br_f (by assumption) ?_; conv => whnf)
    | (refine br_s (fun hb => ?_) (fun hb => ?_) <;> (try simp only [beq_iff_eq, bne_iff_ne, ne_eq, decide_eq_true_eq, decide_eq_false_iff_not, Int.not_lt, Int.not_le, Bool.false_eq_true, if_false, if_true, beq_eq_false_iff_ne, bne_eq_false_iff_eq, Bool.not_eq_true', Bool.not_eq_false', Int.ofNat_lt, Int.ofNat_le, Int.ofNat_inj, List.length_map, List.length_nil, List.length_cons] at hb) <;> conv => whnf)
    | (refine lend_s ?_; conv => whnf)
    
    )
    · refine sh_s ?_
      have : bs ≠ mkB bs.length k := fun e => hb (by
        have h3 : bs.getD i false = (mkB bs.length k).getD i false := by rw [← e]
        rw [h3]
        exact mkB_get (by assumption))
      rw [heldB, if_neg this]
    · refine head_s (i + 1) ⟨⟨by omega, ?_⟩, by omega⟩ (by rw [wrap64 (by omega) (by omega), wrap64 (by omega) (by omega), Int.add_assoc]; rfl) rfl
      have hi2 : i < bs.length := by assumption
      rw [List.take_succ_eq_append_getElem hi2, ht]
      have h3 : bs[i] = ((k + i).tmod 3 == 0) := by simpa [hi2] using hb
      rw [h3]
      simp [mkB, List.range_succ]
    · obtain rfl : i = bs.length := by omega
      refine sh_s ?_
      have : bs = mkB bs.length k := by rw [← ht]; simp
      rw [heldB, if_pos this]
/-- A number's digits. -/
def chr (k : Int) : UInt8 := UInt8.ofNat (IntKind.u8.wrap (IntKind.i64.wrap (48 + k.tmod 10))).toNat
def mtGo : Nat → Nat → List UInt8 → List UInt8
  | 0, _, out => out
  | f + 1, k, out => if k = 0 then out else mtGo f (k / 10) (chr k :: out)
def mt (k : Nat) : List UInt8 := if k = 0 then [109, 48] else 109 :: mtGo 20 k []
theorem c53 (k : Nat) (hk : k ≤ 9223372036854775807) : Con Try.prog 53 [.int .i64 k] (undefs [.int .i64 k]) (.str (mt k)) := by
  refine Con.ev 20 T_ok mix Try.func53 rfl rfl rfl rfl [.tmp 2] rfl ?_
  conv => whnf
  repeat' (first
    | (refine rq_s (by first | rfl | (refine and_s rfl ?_; simp only [decide_eq_true_eq, List.length_map]; omega) | (simp only [Bool.and_eq_true, decide_eq_true_eq, List.length_map]; omega) | (simp; done) | (simp; omega) ) ?_; conv => whnf)
    | (refine aft_s rfl rfl ?_; conv => whnf)
    | (refine row_s (by first | (try simp only [Int.toNat_natCast]); exact row_map boolR _ _ _ false (by first | omega | (simp; omega))) ?_; conv => whnf)
    | (refine rows_s (by first | (refine sub_all ?_; simp [List.length_map, gr_len, mkB_len]; done) | exact sub_map _ _ _ _ | rfl) ?_; conv => whnf)
    | (refine fac_s (fun hf => ?_); conv => whnf)
    | (refine ChkS.mk (by kernel_rfl) ?_; conv => whnf)
    | (refine br_t rfl ?_; conv => whnf)
    | (refine br_f rfl ?_; conv => whnf)
    | (refine br_t (by assumption) ?_; conv => whnf)
    | (refine br_f (by assumption) ?_; conv => whnf)
    | (refine br_s (fun hb => ?_) (fun hb => ?_) <;> (try simp only [beq_iff_eq, bne_iff_ne, ne_eq, decide_eq_true_eq, decide_eq_false_iff_not, Int.not_lt, Int.not_le, Bool.false_eq_true, if_false, if_true, beq_eq_false_iff_ne, bne_eq_false_iff_eq, Bool.not_eq_true', Bool.not_eq_false', Int.ofNat_lt, Int.ofNat_le, Int.ofNat_inj, List.length_map, List.length_nil, List.length_cons] at hb) <;> conv => whnf)
    | (refine lend_s ?_; conv => whnf)
    
    )
  · refine sh_s ?_
    have : k = 0 := by omega
    subst this
    rfl
  · have hk0 : k ≠ 0 := by omega
    refine LoopG.rounds (α := Nat × Nat × List UInt8) T_ok mix [0, 3] [] (fun a => [(0, .int .i64 a.2.1), (3, .str a.2.2)]) (fun _ => []) (fun a => mtGo (20 - a.1) a.2.1 a.2.2 = mtGo 20 k [] ∧ a.2.2.length = a.1 ∧ a.2.1 * 10 ^ a.1 ≤ 9223372036854775807 ∧ a.1 ≤ 19) (fun a => a.2.1) ?_ ?_
    · conv => whnf
      exact head_s (0, k, []) ⟨rfl, rfl, by simpa using hk, by simp⟩ rfl rfl
    · rintro ⟨c, q, out⟩ ⟨h1, h2, h3, h9⟩ - -
      simp only at h1 h2 h3 h9 ⊢
      have hc : q ≠ 0 → c ≤ 18 := fun hq => by
        refine Nat.le_of_not_lt fun hlt => ?_
        have h4 : 10 ^ 19 ≤ 10 ^ c := Nat.pow_le_pow_right (by omega) hlt
        have h5 : 1 * 10 ^ c ≤ q * 10 ^ c := Nat.mul_le_mul_right _ (by omega)
        have h6 : (10 : Nat) ^ 19 ≤ 9223372036854775807 := by omega
        exact absurd h6 (by decide)
      conv => whnf
      repeat' (first
    | (refine rq_s (by first | rfl | (refine and_s rfl ?_; simp only [decide_eq_true_eq, List.length_map]; omega) | (simp only [Bool.and_eq_true, decide_eq_true_eq, List.length_map]; omega) | (simp; done) | (simp; omega) | ((simp [maxStr, h2]; omega))) ?_; conv => whnf)
    | (refine aft_s rfl rfl ?_; conv => whnf)
    | (refine row_s (by first | (try simp only [Int.toNat_natCast]); exact row_map boolR _ _ _ false (by first | omega | (simp; omega))) ?_; conv => whnf)
    | (refine rows_s (by first | (refine sub_all ?_; simp [List.length_map, gr_len, mkB_len]; done) | exact sub_map _ _ _ _ | rfl) ?_; conv => whnf)
    | (refine fac_s (fun hf => ?_); conv => whnf)
    | (refine ChkS.mk (by kernel_rfl) ?_; conv => whnf)
    | (refine br_t rfl ?_; conv => whnf)
    | (refine br_f rfl ?_; conv => whnf)
    | (refine br_t (by assumption) ?_; conv => whnf)
    | (refine br_f (by assumption) ?_; conv => whnf)
    | (refine br_s (fun hb => ?_) (fun hb => ?_) <;> (try simp only [beq_iff_eq, bne_iff_ne, ne_eq, decide_eq_true_eq, decide_eq_false_iff_not, Int.not_lt, Int.not_le, Bool.false_eq_true, if_false, if_true, beq_eq_false_iff_ne, bne_eq_false_iff_eq, Bool.not_eq_true', Bool.not_eq_false', Int.ofNat_lt, Int.ofNat_le, Int.ofNat_inj, List.length_map, List.length_nil, List.length_cons] at hb) <;> conv => whnf)
    | (refine lend_s ?_; conv => whnf)
    
    )
      · have hq : q ≠ 0 := by omega
        have hc := hc hq
        have e : IntKind.i64.wrap ((q : Int).tdiv 10) = ((q / 10 : Nat) : Int) := by
          have h0 : q ≤ 9223372036854775807 := Nat.le_trans (Nat.le_mul_of_pos_right q (Nat.pow_pos (by omega))) h3
          rw [Int.tdiv_eq_ediv_of_nonneg (by omega), wrap64 (by omega) (by omega)]
          omega
        refine head_s (c + 1, q / 10, chr q :: out) ⟨⟨?_, by simp [h2], ?_, by simp only; omega⟩, by simp only; omega⟩ (by rw [e]; rfl) rfl
        · simp only
          rw [← h1, show 20 - c = (20 - (c + 1)) + 1 by omega, mtGo, if_neg hq]
        · simp only
          refine Nat.le_trans ?_ h3
          rw [Nat.pow_succ, Nat.mul_comm (10 ^ c) 10, ← Nat.mul_assoc]
          exact Nat.mul_le_mul_right _ (Nat.div_mul_le_self q 10)
      · have hq : q = 0 := by omega
        subst hq
        have : out = mtGo 20 k [] := by
          rw [← h1]
          cases 20 - c <;> rfl
        repeat' (first
    | (refine rq_s (by first | rfl | (refine and_s rfl ?_; simp only [decide_eq_true_eq, List.length_map]; omega) | (simp only [Bool.and_eq_true, decide_eq_true_eq, List.length_map]; omega) | (simp; done) | (simp; omega) | ((simp [maxStr, h2]; omega))) ?_; conv => whnf)
    | (refine aft_s rfl rfl ?_; conv => whnf)
    | (refine row_s (by first | (try simp only [Int.toNat_natCast]); exact row_map boolR _ _ _ false (by first | omega | (simp; omega))) ?_; conv => whnf)
    | (refine rows_s (by first | (refine sub_all ?_; simp [List.length_map, gr_len, mkB_len]; done) | exact sub_map _ _ _ _ | rfl) ?_; conv => whnf)
    | (refine fac_s (fun hf => ?_); conv => whnf)
    | (refine ChkS.mk (by kernel_rfl) ?_; conv => whnf)
    | (refine br_t rfl ?_; conv => whnf)
    | (refine br_f rfl ?_; conv => whnf)
    | (refine br_t (by assumption) ?_; conv => whnf)
    | (refine br_f (by assumption) ?_; conv => whnf)
    | (refine br_s (fun hb => ?_) (fun hb => ?_) <;> (try simp only [beq_iff_eq, bne_iff_ne, ne_eq, decide_eq_true_eq, decide_eq_false_iff_not, Int.not_lt, Int.not_le, Bool.false_eq_true, if_false, if_true, beq_eq_false_iff_ne, bne_eq_false_iff_eq, Bool.not_eq_true', Bool.not_eq_false', Int.ofNat_lt, Int.ofNat_le, Int.ofNat_inj, List.length_map, List.length_nil, List.length_cons] at hb) <;> conv => whnf)
    | (refine lend_s ?_; conv => whnf)
    
    | (refine sh_s ?_; (rw [this, mt, if_neg hk0]; rfl)))
def mkA (n : Nat) (k : Nat) : List Doing := (List.range n).map fun i => ⟨((k + 3 * i : Nat) : Int), ((k + 3 * i + 1 : Nat) : Int), mt (k + 3 * i + 2)⟩
theorem mkA_len (n k : Nat) : (mkA n k).length = n := by simp [mkA]
def mixA (rs : List Doing) (k i : Nat) : List Doing := mkA i k ++ rs.drop i
theorem mixA_len {rs : List Doing} {k i : Nat} (h : i ≤ rs.length) : (mixA rs k i).length = rs.length := by simp [mixA, mkA_len]; omega
theorem mixA_next {rs : List Doing} {k i : Nat} (h : i < rs.length) : (mixA rs k i).set i ⟨((k + 3 * i : Nat) : Int), ((k + 3 * i + 1 : Nat) : Int), mt (k + 3 * i + 2)⟩ = mixA rs k (i + 1) := by
  unfold mixA
  rw [List.set_append_right _ _ (by simp [mkA_len]), mkA_len, Nat.sub_self, List.drop_eq_getElem_cons h, List.set_cons_zero]
  simp [mkA, List.range_succ]
theorem row3 (rs : List Doing) (i : Nat) (z : List AV) (a b : Int) (c : List UInt8) (h : i < rs.length) :
    setRow (setRow (setRow (rs.map actR) i 0 z [.int .i64 a]) i 1 z [.int .i64 b]) i 2 z [.str c] = (rs.set i ⟨a, b, c⟩).map actR := by
  have hr : (rs.map actR).getD i z = actR rs[i] := by simp [h]
  simp [setRow, setCells, rowA, List.getD_eq_getElem?_getD, h, actR, List.map_set]

theorem c53i (x : Int) (k : Nat) (h : x = k) (hk : k ≤ 9223372036854775807) : Con Try.prog 53 [.int .i64 x] (undefs [.int .i64 x]) (.str (mt k)) := by subst h; exact c53 k hk
theorem c28 (rs : List Doing) (k : Nat) (h2 : k + 3 * rs.length ≤ 1000000000) : Con Try.prog 28 [.own 0 zAct (rs.map actR), .int .i64 k] [.own 0 zAct ((mkA rs.length k).map actR), .undef] (.int .i64 ((k + 3 * rs.length : Nat) : Int)) := by
  refine Con.evM 35 [true, false] [some 500000, none] [500000] rfl rfl rfl T_ok mix Try.func28 rfl rfl rfl rfl [.tmp 4] rfl ?_
  conv => whnf
  repeat' (first
    | (refine rq_s (by first | rfl | (refine and_s rfl ?_; simp only [decide_eq_true_eq, List.length_map]; omega) | (simp only [Bool.and_eq_true, decide_eq_true_eq, List.length_map]; omega) | (simp; done) | (simp; omega) ) ?_; conv => whnf)
    | (refine aft_s rfl rfl ?_; conv => whnf)
    | (refine row_s (by first | (try simp only [Int.toNat_natCast]); exact row_map boolR _ _ _ false (by first | omega | (simp; omega))) ?_; conv => whnf)
    | (refine rows_s (by first | (refine sub_all ?_; simp [List.length_map, gr_len, mkB_len, mkA_len]; done) | exact sub_map _ _ _ _ | rfl) ?_; conv => whnf)
    | (refine fac_s (fun hf => ?_); conv => whnf)
    | (refine ChkS.mk (by kernel_rfl) ?_; conv => whnf)
    | (refine br_t rfl ?_; conv => whnf)
    | (refine br_f rfl ?_; conv => whnf)
    | (refine br_t (by assumption) ?_; conv => whnf)
    | (refine br_f (by assumption) ?_; conv => whnf)
    | (refine br_s (fun hb => ?_) (fun hb => ?_) <;> (try simp only [beq_iff_eq, bne_iff_ne, ne_eq, decide_eq_true_eq, decide_eq_false_iff_not, Int.not_lt, Int.not_le, Bool.false_eq_true, if_false, if_true, beq_eq_false_iff_ne, bne_eq_false_iff_eq, Bool.not_eq_true', Bool.not_eq_false', Int.ofNat_lt, Int.ofNat_le, Int.ofNat_inj, List.length_map, List.length_nil, List.length_cons] at hb) <;> conv => whnf)
    | (refine lend_s ?_; conv => whnf)
    
    )
  refine LoopG.rounds (α := Nat) T_ok mix [0, 1, 5] [(500000, 500000)] (fun i => [(0, .ref 500000 0 rs.length), (1, .int .i64 ((k + 3 * i : Nat) : Int)), (5, .int .i64 i)]) (fun i => [(500000, .live ⟨true, 0, zAct, (mixA rs k i).map actR⟩)]) (fun i => i ≤ rs.length) (fun i => rs.length - i) ?_ ?_
  · conv => whnf
    exact head_s 0 (by simp) (by simp) (by simp [mixA, mkA])
  · intro i hi _ _
    have hlen := mixA_len (k := k) hi
    have e1 : IntKind.i64.wrap (((k + 3 * i : Nat) : Int) + 1) = ((k + 3 * i + 1 : Nat) : Int) := by rw [wrap64 (by omega) (by omega)]; rfl
    have e2 : IntKind.i64.wrap (IntKind.i64.wrap (((k + 3 * i : Nat) : Int) + 1) + 1) = ((k + 3 * i + 2 : Nat) : Int) := by rw [e1, wrap64 (by omega) (by omega)]; rfl
    conv => whnf
    repeat' (first
    | (refine rq_s (by first | rfl | (refine and_s rfl ?_; simp only [decide_eq_true_eq, List.length_map]; omega) | (simp only [Bool.and_eq_true, decide_eq_true_eq, List.length_map]; omega) | (simp; done) | (simp; omega) ) ?_; conv => whnf)
    | (refine aft_s rfl rfl ?_; conv => whnf)
    | (refine row_s (by first | (try simp only [Int.toNat_natCast]); exact row_map boolR _ _ _ false (by first | omega | (simp; omega))) ?_; conv => whnf)
    | (refine rows_s (by first | (refine sub_all ?_; simp [List.length_map, gr_len, mkB_len, mkA_len]; done) | exact sub_map _ _ _ _ | rfl) ?_; conv => whnf)
    | (refine fac_s (fun hf => ?_); conv => whnf)
    | (refine ChkS.mk (by kernel_rfl) ?_; conv => whnf)
    | (refine br_t rfl ?_; conv => whnf)
    | (refine br_f rfl ?_; conv => whnf)
    | (refine br_t (by assumption) ?_; conv => whnf)
    | (refine br_f (by assumption) ?_; conv => whnf)
    | (refine br_s (fun hb => ?_) (fun hb => ?_) <;> (try simp only [beq_iff_eq, bne_iff_ne, ne_eq, decide_eq_true_eq, decide_eq_false_iff_not, Int.not_lt, Int.not_le, Bool.false_eq_true, if_false, if_true, beq_eq_false_iff_ne, bne_eq_false_iff_eq, Bool.not_eq_true', Bool.not_eq_false', Int.ofNat_lt, Int.ofNat_le, Int.ofNat_inj, List.length_map, List.length_nil, List.length_cons] at hb) <;> conv => whnf)
    | (refine lend_s ?_; conv => whnf)
    | ((first | refine call_s (c53i _ (k + 3 * i + 2) e2 (by omega)) ?_); conv => whnf)
    )
    · refine head_s (i + 1) ⟨by omega, by omega⟩ ?_ (congrArg (fun r => [(500000, MB.live ⟨true, 0, zAct, r⟩)]) ?_)
      · rw [e2, wrap64 (n := ((k + 3 * i + 2 : Nat) : Int) + 1) (by omega) (by omega), wrap64 (n := (i : Int) + 1) (by omega) (by omega), show ((k + 3 * i + 2 : Nat) : Int) + 1 = ((k + 3 * (i + 1) : Nat) : Int) by omega]
        rfl
      · rw [e1]
        simp only [Nat.zero_add, Int.toNat_natCast]
        exact (row3 _ i _ _ _ _ (by omega)).trans (by rw [mixA_next (by assumption)])
    · obtain rfl : i = rs.length := by omega
      refine aft_s (by simp [AV.rowsN, hlen]) (by simp [mixA]) ?_
      exact sh_s rfl
end U9
