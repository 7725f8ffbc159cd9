/- The text of a report: contracts. -/
import Derived.Test.YtdbjklhadnnbdaaDoorRtA
set_option linter.unusedVariables false
set_option linter.unusedSimpArgs false
set_option maxRecDepth 100000
open Go Go.Abs Go.Proofs V1 H1 D2
namespace R1

def byteR (c : UInt8) : List AV := [.int .u8 c.toNat]
abbrev z8 : List AV := [.int .u8 0]
theorem bytes_map (s : List UInt8) : bytesOfRows (s.map byteR) = some s := by
  induction s with
  | nil => rfl
  | cons c s ih =>
    simp only [List.map_cons, bytesOfRows, byteR]
    rw [ih]
    simp
theorem bytes_sub (s : List UInt8) : bytesOfRows (subA (s.map byteR) 0 s.length) = some s := by
  rw [sub_all (by simp), bytes_map]
structure RepOk (r : Rep) : Prop where
  th : cell r.th = true
  st : r.st.length ≤ 32
  cst : cellsOK r.st = true
  fu : inR r.fu 0 4000 = true
  sa : r.sa.length ≤ 300
theorem reportOK_iff (r : Rep) : reportOK r = true ↔ RepOk r := by
  constructor
  · intro h
    simp only [reportOK, Bool.and_eq_true, decide_eq_true_eq] at h
    obtain ⟨⟨⟨⟨h1, h2⟩, h3⟩, h4⟩, h5⟩ := h
    exact ⟨h1, h2, h3, h4, h5⟩
  · rintro ⟨h1, h2, h3, h4, h5⟩
    simp [reportOK, h1, h2, h3, h4, h5]
theorem shr4 (c : UInt8) : Int.fdiv (c.toNat : Int) (2 ^ (min (Int.toNat 4) 8)) = ((c.toNat / 16 : Nat) : Int) := by
  have := c.toNat_lt
  show Int.fdiv (c.toNat : Int) 16 = _
  rw [Int.fdiv_eq_ediv_of_nonneg _ (by omega)]
  omega
theorem and15 (c : UInt8) : IntKind.u8.wrap (BitVec.ofInt 8 (c.toNat : Int) &&& BitVec.ofInt 8 15).toNat = ((c.toNat % 16 : Nat) : Int) := by
  have h := c.toNat_lt
  have : ∀ n : Nat, n < 256 → IntKind.u8.wrap (BitVec.ofInt 8 (n : Int) &&& BitVec.ofInt 8 15).toNat = ((n % 16 : Nat) : Int) := by decide +kernel
  exact this _ h
theorem quo16 (c : UInt8) : IntKind.u8.wrap ((c.toNat : Int).tdiv 16) = ((c.toNat / 16 : Nat) : Int) := by
  have h := c.toNat_lt
  have : ∀ n : Nat, n < 256 → IntKind.u8.wrap ((n : Int).tdiv 16) = ((n / 16 : Nat) : Int) := by decide +kernel
  exact this _ h
theorem rem16 (c : UInt8) : ((c.toNat : Int).tmod 16) = ((c.toNat % 16 : Nat) : Int) := rfl
theorem sp1 (n : Int) (h1 : -2147483648 ≤ n) (h2 : n ≤ 2147483647) : Con Tryd.prog 51 [roI [n]] (undefs [roI [n]]) (.str (32 :: Lib.itoa n)) := by
  have := c51 [n] (by simp) (by simp; omega)
  rwa [spaced_one] at this
def hexB (s : List UInt8) : MB := .live ⟨true, 0, z8, s.map byteR⟩



theorem c99 (s : List UInt8) (hs : s.length ≤ 300) : Con Tryd.prog 99 [.str s] (undefs [.str s]) (.str (saidF s)) := by
  by_cases h0 : s = []
  · subst h0
    refine Con.ev 29 T_ok mix Tryd.func99 rfl rfl rfl rfl [.tmp 2] rfl ?_
    conv => whnf
    (refine br_t rfl ?_; conv => whnf)
    (refine rq_s (by (rfl)) ?_; conv => whnf)
    (refine sh_s ?_; (rfl))
  · have hb0 : (s == []) = false := by simpa using h0
    have e : saidF s = hexF s := by rw [saidF, if_neg h0]
    rw [e]
    refine Con.ev 29 T_ok mix Tryd.func99 rfl rfl rfl rfl [.tmp 2] rfl ?_
    conv => whnf
    (refine br_f (by assumption) ?_; conv => whnf)
    (refine rq_s (by (rfl)) ?_; conv => whnf)
    rotate_left
    refine LoopG.bearT 3 101 z8 rfl rfl ?_
    refine LoopG.auto (α := Nat) T_ok mix [0, 3, 4] (fun i => [(0, .str s), (3, .ref 1 0 (hexF (s.take i)).length), (4, .int .i64 i)]) (fun i => [(1, hexB (hexF (s.take i)))]) (fun i => i ≤ s.length) (fun i => s.length - i) ?_ ?_
    · conv => whnf
      (refine ChkS.mk (by kernel_rfl) ?_; conv => whnf)
      rotate_left
      exact head_s 0 (by simp) rfl rfl
    · intro i hi _ _
      have hL := hexF_len (s.take i)
      have hT : (s.take i).length ≤ 300 := by simp; omega
      by_cases hi2 : i < s.length
      · have hlt : decide ((i : Int) < (s.length : Int)) = true := by simp; omega
        have hnx := hexF_next hi2
        generalize hc : s.getD i 0 = c
        generalize hexF (s.take i) = xs at *
        have hct : c.toNat < 256 := c.toNat_lt
        have q1 : (IntKind.u8.wrap ((c.toNat : Int).tdiv 16)).toNat = c.toNat / 16 := by rw [quo16]; rfl
        have q2 : ((c.toNat : Int).tmod 16).toNat = c.toNat % 16 := rfl
        conv => whnf
        (refine br_t (by assumption) ?_; conv => whnf)
        iterate 4 (refine ChkS.mk (by kernel_rfl) ?_; conv => whnf)
        (refine rq_s (by (rfl)) ?_; conv => whnf)
        (refine rq_s (by ((simp only [Bool.and_eq_true, decide_eq_true_eq, List.length_map]; omega))) ?_; conv => whnf)
        (refine ChkS.mk (by kernel_rfl) ?_; conv => whnf)
        (refine rq_s (by (rfl)) ?_; conv => whnf)
        (refine ChkS.mk (by kernel_rfl) ?_; conv => whnf)
        (refine rq_s (by (rfl)) ?_; conv => whnf)
        (refine rq_s (by (((first | (simp [maxBytes, subA]; done) | (simp [maxBytes, subA]; omega) | (simp only [Int.toNat_natCast, hc, q1, q2, decide_eq_true_eq]; show _ < 16; omega))))) ?_; conv => whnf)
        iterate 3 (refine ChkS.mk (by kernel_rfl) ?_; conv => whnf)
        (refine rq_s (by (rfl)) ?_; conv => whnf)
        (refine rq_s (by ((simp only [Bool.and_eq_true, decide_eq_true_eq, List.length_map]; omega))) ?_; conv => whnf)
        (refine ChkS.mk (by kernel_rfl) ?_; conv => whnf)
        (refine rq_s (by (rfl)) ?_; conv => whnf)
        (refine ChkS.mk (by kernel_rfl) ?_; conv => whnf)
        (refine rq_s (by (rfl)) ?_; conv => whnf)
        (refine rq_s (by (((first | (simp [maxBytes, subA]; done) | (simp [maxBytes, subA]; omega) | (simp only [Int.toNat_natCast, hc, q1, q2, decide_eq_true_eq]; show _ < 16; omega))))) ?_; conv => whnf)
        (refine ChkS.mk (by kernel_rfl) ?_; conv => whnf)
        (refine rq_s (by (rfl)) ?_; conv => whnf)
        (refine ChkS.mk (by kernel_rfl) ?_; conv => whnf)
        (refine rq_s (by ((simp only [decide_eq_true_eq, List.length_map]; done))) ?_; conv => whnf)
        iterate 2 (refine rq_s (by (rfl)) ?_; conv => whnf)
        (refine rq_s (by ((simp only [decide_eq_true_eq, List.length_map]; done))) ?_; conv => whnf)
        (refine rq_s (by (((first | (simp [maxBytes, subA]; done) | (simp [maxBytes, subA]; omega) | (simp only [Int.toNat_natCast, hc, q1, q2, decide_eq_true_eq]; show _ < 16; omega))))) ?_; conv => whnf)
        (refine app2_s byteR rfl rfl ?_; conv => whnf)
        iterate 3 (refine ChkS.mk (by kernel_rfl) ?_; conv => whnf)
        rotate_left
        have hd : s.getD i default = c := hc
        rw [hd] at hnx
        refine head_s (i + 1) ⟨by omega, by omega⟩ ?_ ?_
        · rw [hnx, wrap64 (by omega) (by omega)]
          simp only [Int.toNat_natCast, hc, q1, q2]
          rfl
        · rw [hnx]
          simp only [Int.toNat_natCast, hc, q1, q2]
          rfl
      · have hlt : decide ((i : Int) < (s.length : Int)) = false := by simp; omega
        obtain rfl : i = s.length := by omega
        rw [List.take_length] at *
        conv => whnf
        (focus (refine br_f (by (simp; done)) ?_; conv => whnf))
        (refine rq_s (by ((simp only [decide_eq_true_eq, List.length_map]; done))) ?_; conv => whnf)
        (refine rq_s (by (rfl)) ?_; conv => whnf)
        (refine byt_s (bytes_sub _) ?_; conv => whnf)
        (refine rq_s (by (rfl)) ?_; conv => whnf)
        rotate_left
        exact ⟨Sh.refl _⟩
theorem headF_len {r : Rep} (ok : RepOk r) : (headF r).length ≤ 30 := by
  have h := inR_t ok.th
  have := itoa_len (n := r.th) (by omega) (by omega)
  unfold headF
  split
  · rw [spaced_one]; simp only [List.length_append, List.length_cons, List.length_nil]; omega
  · split <;> simp
theorem saidF_len {s : List UInt8} (hs : s.length ≤ 300) : (saidF s).length ≤ 601 := by
  have := hexF_len s
  unfold saidF
  split
  · simp
  · omega
def repA (r : Rep) : List UInt8 := headF r ++ [32, 102, 117, 101, 108] ++ (32 :: Lib.itoa r.fu) ++ [32, 115, 97, 105, 100, 32] ++ saidF r.sa ++ [32, 115, 116, 97, 99, 107]
theorem repT_A (r : Rep) : repT r = repA r ++ spacedL r.st := by simp [repT, repA, spaced_one]
theorem repA_len {r : Rep} (ok : RepOk r) : (repA r).length ≤ 700 := by
  have h1 := headF_len ok
  have h2 := saidF_len ok.sa
  have h := inR_t ok.fu
  have h3 := itoa_len (n := r.fu) (by omega) (by omega)
  simp only [repA, List.length_append, List.length_cons, List.length_nil]
  omega
theorem rep_cases (r : Rep) : ((r.th != 0) = true ∧ headF r = [116, 104, 114, 111, 119] ++ (32 :: Lib.itoa r.th)) ∨ ((r.th != 0) = false ∧ r.co = true ∧ headF r = [99, 111, 109, 112, 105, 108, 105, 110, 103]) ∨ ((r.th != 0) = false ∧ r.co = false ∧ headF r = [111, 107]) := by
  by_cases h : r.th = 0
  · cases hc : r.co
    · exact .inr (.inr ⟨by simpa using h, rfl, by simp [headF, h, hc]⟩)
    · exact .inr (.inl ⟨by simpa using h, rfl, by simp [headF, h, hc]⟩)
  · exact .inl ⟨by simpa using h, by simp [headF, h, spaced_one]⟩
def repB (r : Rep) : MB := .live ⟨false, 0, [.int .i64 r.th, .int .i64 r.fu, .str r.sa, roI r.st, .bool r.co], [[.int .i64 r.th, .int .i64 r.fu, .str r.sa, roI r.st, .bool r.co]]⟩

set_option maxHeartbeats 4000000 in
theorem c46 (r : Rep) (ok : RepOk r) : Con Tryd.prog 46 [repV r] (undefs [repV r]) (.str (repT r)) := by
  have h1 := inR_t ok.th
  have h2 := inR_t ok.fu
  have hst := ok.st
  have l1 := itoa_len (n := r.th) (by omega) (by omega)
  have l2 := itoa_len (n := r.fu) (by omega) (by omega)
  have l3 := saidF_len ok.sa
  have l4 := headF_len ok
  have l5 := repA_len ok
  rw [repT_A]
  rcases rep_cases r with ⟨t1, t3⟩ | ⟨t1, t2, t3⟩ | ⟨t1, t2, t3⟩
  all_goals (
    refine Con.ev 43 T_ok mix Tryd.func46 rfl rfl rfl rfl [.tmp 2] rfl ?_
    conv => whnf
    iterate 2 (refine rq_s (by (rfl)) ?_; conv => whnf)
    first
      | ( (refine br_t (by assumption) ?_; conv => whnf)
          iterate 2 (refine rq_s (by (rfl)) ?_; conv => whnf)
          (refine lend_s ?_; conv => whnf)
          (refine call_s (c98 ..) ?_; conv => whnf)
          (refine rq_s (by (((first | (simp [maxStr]; done) | (simp [maxStr]; omega))))) ?_; conv => whnf)
          (refine fac_s (fun hf => ?_); conv => whnf)
          iterate 2 (refine ChkS.mk (by kernel_rfl) ?_; conv => whnf)
          (refine rq_s (by (rfl)) ?_; conv => whnf)
          iterate 2 (refine ChkS.mk (by kernel_rfl) ?_; conv => whnf)
          (refine rq_s (by (rfl)) ?_; conv => whnf)
          (refine call_s (c98 ..) ?_; conv => whnf)
          (refine ChkS.mk (by kernel_rfl) ?_; conv => whnf)
          (refine rq_s (by (((first | (simp [maxStr]; done) | (simp [maxStr]; omega))))) ?_; conv => whnf)
          (refine ChkS.mk (by kernel_rfl) ?_; conv => whnf)
          (refine rq_s (by (((first | (simp [maxStr]; done) | (simp [maxStr]; omega))))) ?_; conv => whnf)
          (refine ChkS.mk (by kernel_rfl) ?_; conv => whnf)
          (refine rq_s (by (rfl)) ?_; conv => whnf)
          iterate 2 (refine ChkS.mk (by kernel_rfl) ?_; conv => whnf)
          (refine rq_s (by (rfl)) ?_; conv => whnf)
          (refine call_s (c99 _ ok.sa) ?_; conv => whnf)
          (refine ChkS.mk (by kernel_rfl) ?_; conv => whnf)
          (refine rq_s (by (((first | (simp [maxStr]; done) | (simp [maxStr]; omega))))) ?_; conv => whnf)
          (refine ChkS.mk (by kernel_rfl) ?_; conv => whnf)
          (refine rq_s (by (((first | (simp [maxStr]; done) | (simp [maxStr]; omega))))) ?_; conv => whnf)
          (refine ChkS.mk (by kernel_rfl) ?_; conv => whnf)
          (refine rq_s (by (((first | (simp [maxStr]; done) | (simp [maxStr]; omega))))) ?_; conv => whnf)
          iterate 2 (refine ChkS.mk (by kernel_rfl) ?_; conv => whnf)
          iterate 2 (refine fac_s (fun hf => ?_); conv => whnf)
          rotate_left)
      | ( (refine br_f (by assumption) ?_; conv => whnf)
          (refine rq_s (by (rfl)) ?_; conv => whnf)
          first
            | ( (refine br_t (by assumption) ?_; conv => whnf)
                iterate 2 (refine ChkS.mk (by kernel_rfl) ?_; conv => whnf)
                (refine rq_s (by (rfl)) ?_; conv => whnf)
                iterate 2 (refine ChkS.mk (by kernel_rfl) ?_; conv => whnf)
                (refine rq_s (by (rfl)) ?_; conv => whnf)
                (refine call_s (c98 ..) ?_; conv => whnf)
                (refine ChkS.mk (by kernel_rfl) ?_; conv => whnf)
                (refine rq_s (by (((first | (simp [maxStr]; done) | (simp [maxStr]; omega))))) ?_; conv => whnf)
                (refine ChkS.mk (by kernel_rfl) ?_; conv => whnf)
                (refine rq_s (by (((first | (simp [maxStr]; done) | (simp [maxStr]; omega))))) ?_; conv => whnf)
                (refine ChkS.mk (by kernel_rfl) ?_; conv => whnf)
                (refine rq_s (by (rfl)) ?_; conv => whnf)
                iterate 2 (refine ChkS.mk (by kernel_rfl) ?_; conv => whnf)
                (refine rq_s (by (rfl)) ?_; conv => whnf)
                (refine call_s (c99 _ ok.sa) ?_; conv => whnf)
                (refine ChkS.mk (by kernel_rfl) ?_; conv => whnf)
                (refine rq_s (by (((first | (simp [maxStr]; done) | (simp [maxStr]; omega))))) ?_; conv => whnf)
                (refine ChkS.mk (by kernel_rfl) ?_; conv => whnf)
                (refine rq_s (by (((first | (simp [maxStr]; done) | (simp [maxStr]; omega))))) ?_; conv => whnf)
                (refine ChkS.mk (by kernel_rfl) ?_; conv => whnf)
                (refine rq_s (by (((first | (simp [maxStr]; done) | (simp [maxStr]; omega))))) ?_; conv => whnf)
                iterate 2 (refine ChkS.mk (by kernel_rfl) ?_; conv => whnf)
                iterate 2 (refine fac_s (fun hf => ?_); conv => whnf)
                rotate_left)
            | ( (refine br_f (by assumption) ?_; conv => whnf)
                iterate 2 (refine ChkS.mk (by kernel_rfl) ?_; conv => whnf)
                (refine rq_s (by (rfl)) ?_; conv => whnf)
                iterate 2 (refine ChkS.mk (by kernel_rfl) ?_; conv => whnf)
                (refine rq_s (by (rfl)) ?_; conv => whnf)
                (refine call_s (c98 ..) ?_; conv => whnf)
                (refine ChkS.mk (by kernel_rfl) ?_; conv => whnf)
                (refine rq_s (by (((first | (simp [maxStr]; done) | (simp [maxStr]; omega))))) ?_; conv => whnf)
                (refine ChkS.mk (by kernel_rfl) ?_; conv => whnf)
                (refine rq_s (by (((first | (simp [maxStr]; done) | (simp [maxStr]; omega))))) ?_; conv => whnf)
                (refine ChkS.mk (by kernel_rfl) ?_; conv => whnf)
                (refine rq_s (by (rfl)) ?_; conv => whnf)
                iterate 2 (refine ChkS.mk (by kernel_rfl) ?_; conv => whnf)
                (refine rq_s (by (rfl)) ?_; conv => whnf)
                (refine call_s (c99 _ ok.sa) ?_; conv => whnf)
                (refine ChkS.mk (by kernel_rfl) ?_; conv => whnf)
                (refine rq_s (by (((first | (simp [maxStr]; done) | (simp [maxStr]; omega))))) ?_; conv => whnf)
                (refine ChkS.mk (by kernel_rfl) ?_; conv => whnf)
                (refine rq_s (by (((first | (simp [maxStr]; done) | (simp [maxStr]; omega))))) ?_; conv => whnf)
                (refine ChkS.mk (by kernel_rfl) ?_; conv => whnf)
                (refine rq_s (by (((first | (simp [maxStr]; done) | (simp [maxStr]; omega))))) ?_; conv => whnf)
                iterate 2 (refine ChkS.mk (by kernel_rfl) ?_; conv => whnf)
                iterate 2 (refine fac_s (fun hf => ?_); conv => whnf)
                rotate_left))
    refine LoopG.auto (α := Nat) T_ok mix [1, 3, 4] (fun i => [(1, .ptr 1 0 0), (3, .str (repA r ++ spacedL (r.st.take i))), (4, .int .i64 i)]) (fun _ => [(1, repB r)]) (fun i => i ≤ r.st.length) (fun i => r.st.length - i) ?_ ?_
    · conv => whnf
      (refine ChkS.mk (by kernel_rfl) ?_; conv => whnf)
      rotate_left
      exact head_s 0 (by simp) (by simp [repA, spacedL, t3]) (by simp [repB, roI])
    · intro i hi _ _
      have hsl := spaced_len (r.st.take i) fun x h => by
        have := inR_t (List.all_eq_true.1 ok.cst x (List.mem_of_mem_take h))
        omega
      have hti : (r.st.take i).length ≤ 32 := by simp; omega
      by_cases hi2 : i < r.st.length
      · have hlt : decide ((i : Int) < ((r.st.map intR).length : Int)) = true := by simp; omega
        have hc := cells_get ok.cst hi2 default
        have hil := itoa_len (n := r.st.getD i default) (by omega) (by omega)
        have hnx := spaced_next hi2
        have hrow : ∀ z, rowA (r.st.map intR) i z = intR (r.st.getD i default) := fun z => row_map intR _ _ _ default hi2
        generalize r.st.getD i default = y at *
        generalize repA r = A at *
        generalize spacedL (r.st.take i) = B at *
        conv => whnf
        (refine rq_s (by (rfl)) ?_; conv => whnf)
        (refine br_t (by assumption) ?_; conv => whnf)
        iterate 2 (refine rq_s (by (rfl)) ?_; conv => whnf)
        (refine rq_s (by ((refine and_s rfl ?_; simp only [decide_eq_true_eq, List.length_map]; omega))) ?_; conv => whnf)
        (refine row_s (by (exact hrow _)) ?_; conv => whnf)
        (refine rq_s (by (rfl)) ?_; conv => whnf)
        (refine lend_s ?_; conv => whnf)
        (refine call_s (c98 ..) ?_; conv => whnf)
        iterate 2 (refine rq_s (by (((first | (simp [maxStr]; done) | (simp [maxStr]; omega))))) ?_; conv => whnf)
        (refine fac_s (fun hf => ?_); conv => whnf)
        (refine ChkS.mk (by kernel_rfl) ?_; conv => whnf)
        rotate_left
        refine head_s (i + 1) ⟨by omega, by omega⟩ ?_ rfl
        rw [hnx, wrap64 (by omega) (by omega), List.append_assoc A B]
        rfl
      · have hlt : decide ((i : Int) < ((r.st.map intR).length : Int)) = false := by simp; omega
        obtain rfl : i = r.st.length := by omega
        rw [List.take_length] at *
        conv => whnf
        (refine rq_s (by (rfl)) ?_; conv => whnf)
        (focus (refine br_f (by (simp; done)) ?_; conv => whnf))
        (refine rq_s (by (rfl)) ?_; conv => whnf)
        rotate_left
        exact ⟨Sh.refl _⟩)
end R1
