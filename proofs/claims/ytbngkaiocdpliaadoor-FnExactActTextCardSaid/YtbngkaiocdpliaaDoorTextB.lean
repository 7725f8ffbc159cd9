/- Numbers in digits: contracts. -/
import Derived.Test.YtbngkaiocdpliaaDoorTextA
import Derived.Lib.ItoaLen
set_option linter.unusedVariables false
set_option linter.unusedSimpArgs false
set_option maxRecDepth 100000
open Go Go.Abs Go.Proofs U20
namespace U21

theorem dec_step {u : Nat} (h : ¬ u < 10) : Lib.decDigits u = Lib.decDigits (u / 10) ++ [UInt8.ofNat (48 + u % 10)] := by rw [Lib.decDigits, dif_neg h]
theorem dec_len (u : Nat) (h : u < 18446744073709551616) : (Lib.decDigits u).length ≤ 20 := by rw [Lib.decDigits_length]; exact Lib.nDigits_le20 u h
theorem quo10 (u : Nat) (hu : u ≤ 9223372036854775807) : IntKind.i64.wrap ((u : Int).tdiv 10) = ((u / 10 : Nat) : Int) := by
  have h : (u : Int).tdiv 10 = ((u / 10 : Nat) : Int) := rfl
  rw [h, wrap64 (by omega) (by omega)]
theorem rem10 (u : Nat) : IntKind.i64.wrap (48 + (u : Int).tmod 10) = ((48 + u % 10 : Nat) : Int) := by
  have h : (u : Int).tmod 10 = ((u % 10 : Nat) : Int) := rfl
  rw [h, wrap64 (by omega) (by omega)]
  omega
theorem byteOf {k : Nat} (h : k < 256) : UInt8.ofNat (IntKind.u8.wrap (k : Int)).toNat = UInt8.ofNat k := by
  have : IntKind.u8.wrap (k : Int) = k := by simp [IntKind.wrap, IntKind.signed, IntKind.bits]; omega
  rw [this]
  rfl
theorem c18n : ∀ (u : Nat), u ≤ 9223372036854775807 → Con Tryd.prog 18 [.int .i64 u] (undefs [.int .i64 u]) (.str (Lib.decDigits u)) := by
  intro u
  induction u using Nat.strongRecOn with
  | ind u ih =>
    intro hu
    by_cases hs : u < 10
    · refine Con.ev 28 T_ok mix Tryd.func18 rfl rfl rfl rfl [.tmp 2] rfl ?_
      conv => whnf
      repeat' (first
    | (refine rq_s (by first | rfl | (refine and_s rfl ?_; simp only [decide_eq_true_eq, List.length_map]; omega) | (simp only [Bool.and_eq_true, decide_eq_true_eq, List.length_map]; omega) | (simp; done) | (simp; omega) ) ?_; conv => whnf)
    | (refine aft_s (by first | rfl | (simp [AV.rowsN, List.length_map]; done)) rfl ?_; conv => whnf)
    | (refine nil_s (fun hz => ?_) ?_ <;> conv => whnf)
    | (refine row_s (by first | rfl) ?_; conv => whnf)
    | (refine rows_s (by first | (refine sub_all ?_; simp [List.length_map]; done) | exact sub_map _ _ _ _ | rfl) ?_; conv => whnf)
    | (refine fac_s (fun hf => ?_); conv => whnf)
    | (refine ChkS.mk (by kernel_rfl) ?_; conv => whnf)
    | (refine br_t rfl ?_; conv => whnf)
    | (refine br_f rfl ?_; conv => whnf)
    | (refine br_t (by assumption) ?_; conv => whnf)
    | (refine br_f (by assumption) ?_; conv => whnf)
    | (refine br_s (fun hb => ?_) (fun hb => ?_) <;> (try simp only [beq_iff_eq, bne_iff_ne, ne_eq, decide_eq_true_eq, decide_eq_false_iff_not, Int.not_lt, Int.not_le, Bool.false_eq_true, if_false, if_true, beq_eq_false_iff_ne, bne_eq_false_iff_eq, Bool.not_eq_true', Bool.not_eq_false', Int.ofNat_lt, Int.ofNat_le, Int.ofNat_inj, List.length_map, List.length_nil, List.length_cons] at hb) <;> conv => whnf)
    | (refine lend_s ?_; conv => whnf)
    
    )
      · refine sh_s ?_
        rw [Lib.decDigits_one hs]
        show AV.str [UInt8.ofNat (IntKind.u8.wrap (IntKind.i64.wrap (48 + (u : Int)))).toNat] = _
        have e : IntKind.i64.wrap (48 + (u : Int)) = ((48 + u : Nat) : Int) := by rw [wrap64 (by omega) (by omega)]; omega
        rw [e, byteOf (by omega)]
      · omega
    · have h_rec : Con Tryd.prog 18 [.int .i64 (IntKind.i64.wrap ((u : Int).tdiv 10))] (undefs [.int .i64 (IntKind.i64.wrap ((u : Int).tdiv 10))]) (.str (Lib.decDigits (u / 10))) := by
        rw [quo10 u hu]
        exact ih (u / 10) (by omega) (by omega)
      have hl := dec_len (u / 10) (by omega)
      refine Con.ev 28 T_ok mix Tryd.func18 rfl rfl rfl rfl [.tmp 2] rfl ?_
      conv => whnf
      repeat' (first
    | (refine rq_s (by first | rfl | (refine and_s rfl ?_; simp only [decide_eq_true_eq, List.length_map]; omega) | (simp only [Bool.and_eq_true, decide_eq_true_eq, List.length_map]; omega) | (simp; done) | (simp; omega) | ((simp [maxStr]; omega))) ?_; conv => whnf)
    | (refine aft_s (by first | rfl | (simp [AV.rowsN, List.length_map]; done)) rfl ?_; conv => whnf)
    | (refine nil_s (fun hz => ?_) ?_ <;> conv => whnf)
    | (refine row_s (by first | rfl) ?_; conv => whnf)
    | (refine rows_s (by first | (refine sub_all ?_; simp [List.length_map]; done) | exact sub_map _ _ _ _ | rfl) ?_; conv => whnf)
    | (refine fac_s (fun hf => ?_); conv => whnf)
    | (refine ChkS.mk (by kernel_rfl) ?_; conv => whnf)
    | (refine br_t rfl ?_; conv => whnf)
    | (refine br_f rfl ?_; conv => whnf)
    | (refine br_t (by assumption) ?_; conv => whnf)
    | (refine br_f (by assumption) ?_; conv => whnf)
    | (refine br_s (fun hb => ?_) (fun hb => ?_) <;> (try simp only [beq_iff_eq, bne_iff_ne, ne_eq, decide_eq_true_eq, decide_eq_false_iff_not, Int.not_lt, Int.not_le, Bool.false_eq_true, if_false, if_true, beq_eq_false_iff_ne, bne_eq_false_iff_eq, Bool.not_eq_true', Bool.not_eq_false', Int.ofNat_lt, Int.ofNat_le, Int.ofNat_inj, List.length_map, List.length_nil, List.length_cons] at hb) <;> conv => whnf)
    | (refine lend_s ?_; conv => whnf)
    | ((first | refine call_s (h_rec) ?_); conv => whnf)
    )
      · omega
      · refine sh_s ?_
        rw [dec_step hs]
        rw [rem10, byteOf (by omega)]
theorem c18 (n : Int) : Con Tryd.prog 18 [.int .i64 n] (undefs [.int .i64 n]) (.str (Lib.itoa n)) := by
  refine Con.facts (c18n 0 (by omega)).ok fun hF => ?_
  have hn := facts_int (n := n) (hF _ (List.mem_cons_self ..))
  by_cases h0 : 0 ≤ n
  · have h := c18n n.toNat (by omega)
    rw [Int.toNat_of_nonneg h0] at h
    rw [Lib.itoa, if_neg (by omega)]
    exact h
  · by_cases hm : n = -9223372036854775808
    · subst hm
      refine Con.ev 28 T_ok mix Tryd.func18 rfl rfl rfl rfl [.tmp 2] rfl ?_
      conv => whnf
      repeat' (first
    | (refine rq_s (by first | rfl | (refine and_s rfl ?_; simp only [decide_eq_true_eq, List.length_map]; omega) | (simp only [Bool.and_eq_true, decide_eq_true_eq, List.length_map]; omega) | (simp; done) | (simp; omega) ) ?_; conv => whnf)
    | (refine aft_s (by first | rfl | (simp [AV.rowsN, List.length_map]; done)) rfl ?_; conv => whnf)
    | (refine nil_s (fun hz => ?_) ?_ <;> conv => whnf)
    | (refine row_s (by first | rfl) ?_; conv => whnf)
    | (refine rows_s (by first | (refine sub_all ?_; simp [List.length_map]; done) | exact sub_map _ _ _ _ | rfl) ?_; conv => whnf)
    | (refine fac_s (fun hf => ?_); conv => whnf)
    | (refine ChkS.mk (by kernel_rfl) ?_; conv => whnf)
    | (refine br_t rfl ?_; conv => whnf)
    | (refine br_f rfl ?_; conv => whnf)
    | (refine br_t (by assumption) ?_; conv => whnf)
    | (refine br_f (by assumption) ?_; conv => whnf)
    | (refine br_s (fun hb => ?_) (fun hb => ?_) <;> (try simp only [beq_iff_eq, bne_iff_ne, ne_eq, decide_eq_true_eq, decide_eq_false_iff_not, Int.not_lt, Int.not_le, Bool.false_eq_true, if_false, if_true, beq_eq_false_iff_ne, bne_eq_false_iff_eq, Bool.not_eq_true', Bool.not_eq_false', Int.ofNat_lt, Int.ofNat_le, Int.ofNat_inj, List.length_map, List.length_nil, List.length_cons] at hb) <;> conv => whnf)
    | (refine lend_s ?_; conv => whnf)
    
    | (refine sh_s ?_; exact congrArg AV.str (by decide +kernel)))
    · have h_rec : Con Tryd.prog 18 [.int .i64 (IntKind.i64.wrap (0 - n))] (undefs [.int .i64 (IntKind.i64.wrap (0 - n))]) (.str (Lib.decDigits n.natAbs)) := by
        have e : IntKind.i64.wrap (0 - n) = (n.natAbs : Int) := by rw [wrap64 (by omega) (by omega)]; omega
        rw [e]
        exact c18n n.natAbs (by omega)
      have hl := dec_len n.natAbs (by omega)
      refine Con.ev 28 T_ok mix Tryd.func18 rfl rfl rfl rfl [.tmp 2] rfl ?_
      conv => whnf
      repeat' (first
    | (refine rq_s (by first | rfl | (refine and_s rfl ?_; simp only [decide_eq_true_eq, List.length_map]; omega) | (simp only [Bool.and_eq_true, decide_eq_true_eq, List.length_map]; omega) | (simp; done) | (simp; omega) | ((simp [maxStr]; omega))) ?_; conv => whnf)
    | (refine aft_s (by first | rfl | (simp [AV.rowsN, List.length_map]; done)) rfl ?_; conv => whnf)
    | (refine nil_s (fun hz => ?_) ?_ <;> conv => whnf)
    | (refine row_s (by first | rfl) ?_; conv => whnf)
    | (refine rows_s (by first | (refine sub_all ?_; simp [List.length_map]; done) | exact sub_map _ _ _ _ | rfl) ?_; conv => whnf)
    | (refine fac_s (fun hf => ?_); conv => whnf)
    | (refine ChkS.mk (by kernel_rfl) ?_; conv => whnf)
    | (refine br_t rfl ?_; conv => whnf)
    | (refine br_f rfl ?_; conv => whnf)
    | (refine br_t (by assumption) ?_; conv => whnf)
    | (refine br_f (by assumption) ?_; conv => whnf)
    | (refine br_s (fun hb => ?_) (fun hb => ?_) <;> (try simp only [beq_iff_eq, bne_iff_ne, ne_eq, decide_eq_true_eq, decide_eq_false_iff_not, Int.not_lt, Int.not_le, Bool.false_eq_true, if_false, if_true, beq_eq_false_iff_ne, bne_eq_false_iff_eq, Bool.not_eq_true', Bool.not_eq_false', Int.ofNat_lt, Int.ofNat_le, Int.ofNat_inj, List.length_map, List.length_nil, List.length_cons] at hb) <;> conv => whnf)
    | (refine lend_s ?_; conv => whnf)
    | ((first | refine call_s (h_rec) ?_); conv => whnf)
    )
      · exact absurd (by simpa using hb) hm
      · refine sh_s ?_
        rw [Lib.itoa, if_pos (by omega)]
        rfl
      · omega
      · omega
/- The kit's laying of its contract for strconv.Itoa. -/
end U21
open Go.Proofs
def U21.ren : Go.Shelf.Ren := ⟨fun | 171 => 22 | 243 => 24 | 246 => 25 | 283 => 26 | 284 => 27 | 285 => 28 | 286 => 29 | 129 => 31 | 317 => 30 | 318 => 32 | 319 => 33 | 320 => 34 | 337 => 35 | 338 => 36 | n => n, fun | 3 => 3 | 9 => 9 | 2 => 2 | 4 => 4 | 171 => 42 | 0 => 0 | 53 => 43 | 37 => 39 | 5 => 5 | 173 => 46 | 212 => 49 | 51 => 50 | 20 => 20 | 213 => 51 | 46 => 52 | 232 => 55 | 233 => 56 | n => n, fun | 17 => 0 | 18 => 1 | 19 => 2 | n => n⟩
theorem U21.laid : Go.Proofs.LaysM.n171 Tryd.prog U21.ren where
  mixed := by kernel_rfl
  f129 := Tryd.func31.trans (congrArg some (by kernel_rfl))
  f171 := Tryd.func22.trans (congrArg some (by kernel_rfl))
  f243 := Tryd.func24.trans (congrArg some (by kernel_rfl))
  f246 := Tryd.func25.trans (congrArg some (by kernel_rfl))
  f283 := Tryd.func26.trans (congrArg some (by kernel_rfl))
  f284 := Tryd.func27.trans (congrArg some (by kernel_rfl))
  f285 := Tryd.func28.trans (congrArg some (by kernel_rfl))
  f286 := Tryd.func29.trans (congrArg some (by kernel_rfl))
  f317 := Tryd.func30.trans (congrArg some (by kernel_rfl))
  f318 := Tryd.func32.trans (congrArg some (by kernel_rfl))
  f319 := Tryd.func33.trans (congrArg some (by kernel_rfl))
  f320 := Tryd.func34.trans (congrArg some (by kernel_rfl))
  f337 := Tryd.func35.trans (congrArg some (by kernel_rfl))
  f338 := Tryd.func36.trans (congrArg some (by kernel_rfl))
  t0 := Tryd.underlying0
  a0 := Tryd.isAgg0
  z0 := Tryd.sizeOf0
  v0 := Tryd.zeroValue0
  t2 := Tryd.underlying2
  a2 := Tryd.isAgg2
  z2 := Tryd.sizeOf2
  v2 := Tryd.zeroValue2
  t3 := Tryd.underlying3
  a3 := Tryd.isAgg3
  z3 := Tryd.sizeOf3
  v3 := Tryd.zeroValue3
  t4 := Tryd.underlying4
  a4 := Tryd.isAgg4
  z4 := Tryd.sizeOf4
  v4 := Tryd.zeroValue4
  t5 := Tryd.underlying5
  a5 := Tryd.isAgg5
  z5 := Tryd.sizeOf5
  v5 := Tryd.zeroValue5
  t9 := Tryd.underlying9
  a9 := Tryd.isAgg9
  z9 := Tryd.sizeOf9
  v9 := Tryd.zeroValue9
  t20 := Tryd.underlying20
  a20 := Tryd.isAgg20
  z20 := Tryd.sizeOf20
  v20 := Tryd.zeroValue20
  t37 := Tryd.underlying39
  a37 := Tryd.isAgg39
  z37 := Tryd.sizeOf39
  v37 := Tryd.zeroValue39
  t46 := Tryd.underlying52
  a46 := Tryd.isAgg52
  z46 := Tryd.sizeOf52
  v46 := Tryd.zeroValue52
  t51 := Tryd.underlying50
  a51 := Tryd.isAgg50
  z51 := Tryd.sizeOf50
  v51 := Tryd.zeroValue50
  t53 := Tryd.underlying43
  a53 := Tryd.isAgg43
  z53 := Tryd.sizeOf43
  v53 := Tryd.zeroValue43
  t171 := Tryd.underlying42
  a171 := Tryd.isAgg42
  z171 := Tryd.sizeOf42
  v171 := Tryd.zeroValue42
  t173 := Tryd.underlying46
  a173 := Tryd.isAgg46
  z173 := Tryd.sizeOf46
  v173 := Tryd.zeroValue46
  t212 := Tryd.underlying49
  a212 := Tryd.isAgg49
  z212 := Tryd.sizeOf49
  v212 := Tryd.zeroValue49
  t213 := Tryd.underlying51
  a213 := Tryd.isAgg51
  z213 := Tryd.sizeOf51
  t232 := Tryd.underlying55
  a232 := Tryd.isAgg55
  z232 := Tryd.sizeOf55
  v232 := Tryd.zeroValue55
  t233 := Tryd.underlying56
  a233 := Tryd.isAgg56
  z233 := Tryd.sizeOf56
  v233 := Tryd.zeroValue56
  g17 := by kernel_rfl
  g18 := by kernel_rfl
  g19 := by kernel_rfl
  i0 := by kernel_rfl
  i2 := by kernel_rfl
  i3 := by kernel_rfl
  i4 := by kernel_rfl
  i5 := by kernel_rfl
  i9 := by kernel_rfl
  i20 := by kernel_rfl
  i37 := by kernel_rfl
  i46 := by kernel_rfl
  i51 := by kernel_rfl
  i53 := by kernel_rfl
  i171 := by kernel_rfl
  i173 := by kernel_rfl
  i212 := by kernel_rfl
  i232 := by kernel_rfl
  i233 := by kernel_rfl
  m17 := by kernel_rfl
  m18 := by kernel_rfl
  m19 := by kernel_rfl
namespace U21
theorem c22 (n : Int) : Con Tryd.prog 22 [.int .i64 n] (undefs [.int .i64 n]) (.str (Lib.itoa n)) := by
  refine Con.scal ⟨_, Tryd.func22, rfl, rfl⟩ (fun w vals hp tb => ?_) fun w R O vals hp => ?_
  · obtain ⟨hl, os, h4, _⟩ := uni_of_parts _ _ _ hp
    match vals, hl with
    | [v], _ =>
      have hv := h4 0 _ v rfl rfl
      cases hv with
      | sc hv _ =>
        obtain ⟨rfl, hf⟩ := hv
        simp [fitsK] at hf
        refine (Any.strconv_Itoa laid n (by omega) (by omega) w (tb.is (g := 0) (by simp [tabL]) (by kernel_rfl))).mono ?_
        rintro e w' ⟨rfl, k, os, rfl⟩
        exact ⟨_, rfl, ⟨rfl, Nat.le_trans (Lib.itoa_length_le n (by omega) (by omega)) (by simp [maxLn])⟩, k, os, rfl⟩
  · obtain ⟨hl, os, h4, h5⟩ := uni_of_parts _ _ _ hp
    match vals, hl with
    | [v], _ =>
      have hv := h4 0 _ v rfl rfl
      cases hv with
      | sc hv he =>
        refine ⟨⟨none2, none2, fun g o => by simp [none2], emp_none2.disj, .sc hv emp_none2, emp_none2⟩, fun g o k => ?_⟩
        obtain ⟨j, hj, m⟩ := (h5.iff g o).1 k
        have : j = 0 := by simpa using hj
        subst this
        exact he g o m
end U21
