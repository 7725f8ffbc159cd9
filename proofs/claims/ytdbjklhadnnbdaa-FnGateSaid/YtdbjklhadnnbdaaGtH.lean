import Derived.Test.YtdbjklhadnnbdaaGtG
import Derived.Test.YtdbjklhadnnbdaaGtB
import Derived.Test.YtdbjklhadnnbdaaGtC
/- Hosts and data compared with themselves, capabilities granted, answers: contracts. -/
set_option linter.unusedVariables false
set_option linter.unusedSimpArgs false
set_option maxRecDepth 100000
open Go Go.Abs Go.Proofs V1 H1 S8
namespace G4

theorem nB (b : Bool) : (!(b == b)) = false := by simp

theorem eqB (xs : List Bool) : Con Try.prog 110 [roB xs, roB xs] (undefs [roB xs, roB xs]) (.bool true) := by
  refine Con.evF 26 T_ok mix Try.func110 rfl rfl rfl rfl [.tmp 4] rfl fun ⟨hx, _⟩ => ?_
  have hx := facts_len hx
  conv => whnf
  (focus (refine br_f (by (simp; done)) ?_; conv => whnf))
  rotate_left
  refine LoopG.rounds (α := Nat) T_ok mix [0, 1, 12, 13] [] (fun i => [(0, roB xs), (1, roB xs), (12, .int .i64 xs.length), (13, .int .i64 i)]) (fun _ => []) (fun i => i ≤ xs.length) (fun i => xs.length - i) ?_ ?_
  · conv => whnf
    exact head_s 0 (by simp) (by simp [roB]) rfl
  · intro i h1 _ _
    conv => whnf
    (refine br_s (fun hb => ?_) (fun hb => ?_) <;> (try simp only [beq_iff_eq, bne_iff_ne, ne_eq, decide_eq_true_eq, decide_eq_false_iff_not, Int.not_lt, Int.not_le, Bool.false_eq_true, if_false, if_true, beq_eq_false_iff_ne, bne_eq_false_iff_eq, Bool.not_eq_true', Bool.not_eq_false', Int.ofNat_lt, Int.ofNat_le, Int.ofNat_inj, List.length_map, List.length_nil, List.length_cons] at hb) <;> conv => whnf)
    iterate 3 (refine ChkS.mk (by kernel_rfl) ?_; conv => whnf)
    (refine rq_s (by (rfl)) ?_; conv => whnf)
    (refine rq_s (by ((refine and_s rfl ?_; simp only [decide_eq_true_eq, List.length_map]; omega))) ?_; conv => whnf)
    (refine ChkS.mk (by kernel_rfl) ?_; conv => whnf)
    (refine row_s (by ((try simp only [Int.toNat_natCast]); exact row_map boolR _ _ _ false (by first | omega | (simp; omega)))) ?_; conv => whnf)
    iterate 3 (refine ChkS.mk (by kernel_rfl) ?_; conv => whnf)
    (refine rq_s (by (rfl)) ?_; conv => whnf)
    (refine rq_s (by ((refine and_s rfl ?_; simp only [decide_eq_true_eq, List.length_map]; omega))) ?_; conv => whnf)
    (refine ChkS.mk (by kernel_rfl) ?_; conv => whnf)
    (refine row_s (by ((try simp only [Int.toNat_natCast]); exact row_map boolR _ _ _ false (by first | omega | (simp; omega)))) ?_; conv => whnf)
    iterate 2 (refine ChkS.mk (by kernel_rfl) ?_; conv => whnf)
    (focus (refine br_f (by (simp; done)) ?_; conv => whnf))
    rotate_left
    (refine rq_s (by (rfl)) ?_; conv => whnf)
    (refine sh_s ?_; (rfl))
    · exact head_s (i + 1) ⟨by omega, by omega⟩ (by rw [wrap64 (by omega) (by omega)]; rfl) rfl

theorem eqI (xs : List Int) : Con Try.prog 111 [roI xs, roI xs] (undefs [roI xs, roI xs]) (.bool true) := by
  refine Con.evF 26 T_ok mix Try.func111 rfl rfl rfl rfl [.tmp 4] rfl fun ⟨hx, _⟩ => ?_
  have hx := facts_len hx
  conv => whnf
  (focus (refine br_f (by (simp; done)) ?_; conv => whnf))
  rotate_left
  refine LoopG.rounds (α := Nat) T_ok mix [0, 1, 12, 13] [] (fun i => [(0, roI xs), (1, roI xs), (12, .int .i64 xs.length), (13, .int .i64 i)]) (fun _ => []) (fun i => i ≤ xs.length) (fun i => xs.length - i) ?_ ?_
  · conv => whnf
    exact head_s 0 (by simp) (by simp [roI]) rfl
  · intro i h1 _ _
    conv => whnf
    (refine br_s (fun hb => ?_) (fun hb => ?_) <;> (try simp only [beq_iff_eq, bne_iff_ne, ne_eq, decide_eq_true_eq, decide_eq_false_iff_not, Int.not_lt, Int.not_le, Bool.false_eq_true, if_false, if_true, beq_eq_false_iff_ne, bne_eq_false_iff_eq, Bool.not_eq_true', Bool.not_eq_false', Int.ofNat_lt, Int.ofNat_le, Int.ofNat_inj, List.length_map, List.length_nil, List.length_cons] at hb) <;> conv => whnf)
    iterate 3 (refine ChkS.mk (by kernel_rfl) ?_; conv => whnf)
    (refine rq_s (by (rfl)) ?_; conv => whnf)
    (refine rq_s (by ((refine and_s rfl ?_; simp only [decide_eq_true_eq, List.length_map]; omega))) ?_; conv => whnf)
    (refine ChkS.mk (by kernel_rfl) ?_; conv => whnf)
    (refine row_s (by ((try simp only [Int.toNat_natCast]); exact row_map intR _ _ _ 0 (by first | omega | (simp; omega)))) ?_; conv => whnf)
    iterate 3 (refine ChkS.mk (by kernel_rfl) ?_; conv => whnf)
    (refine rq_s (by (rfl)) ?_; conv => whnf)
    (refine rq_s (by ((refine and_s rfl ?_; simp only [decide_eq_true_eq, List.length_map]; omega))) ?_; conv => whnf)
    (refine ChkS.mk (by kernel_rfl) ?_; conv => whnf)
    (refine row_s (by ((try simp only [Int.toNat_natCast]); exact row_map intR _ _ _ 0 (by first | omega | (simp; omega)))) ?_; conv => whnf)
    iterate 2 (refine ChkS.mk (by kernel_rfl) ?_; conv => whnf)
    (focus (refine br_f (by (simp; done)) ?_; conv => whnf))
    rotate_left
    (refine rq_s (by (rfl)) ?_; conv => whnf)
    (refine sh_s ?_; (rfl))
    · exact head_s (i + 1) ⟨by omega, by omega⟩ (by rw [wrap64 (by omega) (by omega)]; rfl) rfl

theorem eqD (xs : List Deal) : Con Try.prog 112 [roD xs, roD xs] (undefs [roD xs, roD xs]) (.bool true) := by
  refine Con.evF 26 T_ok mix Try.func112 rfl rfl rfl rfl [.tmp 4] rfl fun ⟨hx, _⟩ => ?_
  have hx := facts_len hx
  conv => whnf
  (focus (refine br_f (by (simp; done)) ?_; conv => whnf))
  rotate_left
  refine LoopG.rounds (α := Nat) T_ok mix [0, 1, 12, 13] [] (fun i => [(0, roD xs), (1, roD xs), (12, .int .i64 xs.length), (13, .int .i64 i)]) (fun _ => []) (fun i => i ≤ xs.length) (fun i => xs.length - i) ?_ ?_
  · conv => whnf
    exact head_s 0 (by simp) (by simp [roD]) rfl
  · intro i h1 _ _
    conv => whnf
    (refine br_s (fun hb => ?_) (fun hb => ?_) <;> (try simp only [beq_iff_eq, bne_iff_ne, ne_eq, decide_eq_true_eq, decide_eq_false_iff_not, Int.not_lt, Int.not_le, Bool.false_eq_true, if_false, if_true, beq_eq_false_iff_ne, bne_eq_false_iff_eq, Bool.not_eq_true', Bool.not_eq_false', Int.ofNat_lt, Int.ofNat_le, Int.ofNat_inj, List.length_map, List.length_nil, List.length_cons] at hb) <;> conv => whnf)
    iterate 3 (refine ChkS.mk (by kernel_rfl) ?_; conv => whnf)
    (refine rq_s (by (rfl)) ?_; conv => whnf)
    (refine rq_s (by ((refine and_s rfl ?_; simp only [decide_eq_true_eq, List.length_map]; omega))) ?_; conv => whnf)
    (refine ChkS.mk (by kernel_rfl) ?_; conv => whnf)
    (refine row_s (by ((try simp only [Int.toNat_natCast]); exact row_map dealR _ _ _ default (by first | omega | (simp; omega)))) ?_; conv => whnf)
    iterate 3 (refine ChkS.mk (by kernel_rfl) ?_; conv => whnf)
    (refine rq_s (by (rfl)) ?_; conv => whnf)
    (refine rq_s (by ((refine and_s rfl ?_; simp only [decide_eq_true_eq, List.length_map]; omega))) ?_; conv => whnf)
    (refine ChkS.mk (by kernel_rfl) ?_; conv => whnf)
    (refine row_s (by ((try simp only [Int.toNat_natCast]); exact row_map dealR _ _ _ default (by first | omega | (simp; omega)))) ?_; conv => whnf)
    (refine ChkS.mk (by kernel_rfl) ?_; conv => whnf)
    (refine rq_s (by ((simp only [decide_eq_true_eq, List.length_map]; done))) ?_; conv => whnf)
    (refine ChkS.mk (by kernel_rfl) ?_; conv => whnf)
    (focus (refine br_f (by (simp; done)) ?_; conv => whnf))
    rotate_left
    (refine rq_s (by (rfl)) ?_; conv => whnf)
    (refine sh_s ?_; (rfl))
    · exact head_s (i + 1) ⟨by omega, by omega⟩ (by rw [wrap64 (by omega) (by omega)]; rfl) rfl
theorem sameH (h : Hst) (ho : HostOk h) : Con Try.prog 11 [hstV h, hstV h] (undefs [hstV h, hstV h]) (.bool true) := by
  have k1 := c48 h
  rw [(hostOK_iff h).2 ho] at k1
  have k2 : Con Try.prog 58 [hstV h, hstV h] (undefs [hstV h, hstV h]) (.bool true) := by
    refine Con.ev 38 T_ok mix Try.func58 rfl rfl rfl rfl [.tmp 4] rfl ?_
    conv => whnf
    iterate 6 (refine rq_s (by (rfl)) ?_; conv => whnf)
    (refine lend_s ?_; conv => whnf)
    iterate 2 (refine rows_s (by (rfl)) ?_; conv => whnf)
    (refine call_s (eqB ..) ?_; conv => whnf)
    (refine br_t rfl ?_; conv => whnf)
    (refine rq_s (by (rfl)) ?_; conv => whnf)
    iterate 2 (refine br_t rfl ?_; conv => whnf)
    (refine rq_s (by (rfl)) ?_; conv => whnf)
    iterate 2 (refine br_t rfl ?_; conv => whnf)
    iterate 2 (refine rq_s (by (rfl)) ?_; conv => whnf)
    (refine lend_s ?_; conv => whnf)
    iterate 2 (refine rows_s (by (rfl)) ?_; conv => whnf)
    (refine call_s (eqI ..) ?_; conv => whnf)
    (refine br_t rfl ?_; conv => whnf)
    (refine rq_s (by (rfl)) ?_; conv => whnf)
    iterate 2 (refine br_t rfl ?_; conv => whnf)
    (refine rq_s (by (rfl)) ?_; conv => whnf)
    iterate 2 (refine br_t rfl ?_; conv => whnf)
    iterate 2 (refine rq_s (by (rfl)) ?_; conv => whnf)
    (refine lend_s ?_; conv => whnf)
    iterate 2 (refine rows_s (by (rfl)) ?_; conv => whnf)
    (refine call_s (eqI ..) ?_; conv => whnf)
    (refine br_t rfl ?_; conv => whnf)
    (refine rq_s (by (rfl)) ?_; conv => whnf)
    iterate 2 (refine br_t rfl ?_; conv => whnf)
    (refine rq_s (by (rfl)) ?_; conv => whnf)
    iterate 2 (refine br_t rfl ?_; conv => whnf)
    (focus (refine br_t (by (simp; done)) ?_; conv => whnf))
    (refine rq_s (by (rfl)) ?_; conv => whnf)
    iterate 2 (refine br_t rfl ?_; conv => whnf)
    (refine rq_s (by (rfl)) ?_; conv => whnf)
    iterate 2 (refine br_t rfl ?_; conv => whnf)
    iterate 2 (refine rq_s (by (rfl)) ?_; conv => whnf)
    (refine lend_s ?_; conv => whnf)
    iterate 2 (refine rows_s (by (rfl)) ?_; conv => whnf)
    (refine call_s (eqD ..) ?_; conv => whnf)
    (refine rq_s (by (rfl)) ?_; conv => whnf)
    (refine sh_s ?_; ((simp)))
  refine Con.ev 16 T_ok mix Try.func11 rfl rfl rfl rfl [.tmp 4] rfl ?_
  conv => whnf
  iterate 7 (refine rq_s (by (rfl)) ?_; conv => whnf)
  (refine lend_s ?_; conv => whnf)
  iterate 4 (refine rows_s (by (rfl)) ?_; conv => whnf)
  (refine call_s (k1 ..) ?_; conv => whnf)
  iterate 2 (refine br_t rfl ?_; conv => whnf)
  iterate 5 (refine rq_s (by (rfl)) ?_; conv => whnf)
  (refine lend_s ?_; conv => whnf)
  iterate 4 (refine rows_s (by (rfl)) ?_; conv => whnf)
  (refine call_s (k1 ..) ?_; conv => whnf)
  iterate 3 (refine br_t rfl ?_; conv => whnf)
  iterate 10 (refine rq_s (by (rfl)) ?_; conv => whnf)
  (refine lend_s ?_; conv => whnf)
  iterate 8 (refine rows_s (by (rfl)) ?_; conv => whnf)
  (refine call_s (k2 ..) ?_; conv => whnf)
  (refine rq_s (by (rfl)) ?_; conv => whnf)
  (refine sh_s ?_; (rfl))
theorem sameD (d : Dat) (hd : DataOk d) : Con Try.prog 12 [datV d, datV d] (undefs [datV d, datV d]) (.bool true) := by
  have k1 := c49 d
  rw [(dataOK_iff d).2 hd] at k1
  have k2 : Con Try.prog 59 [datV d, datV d] (undefs [datV d, datV d]) (.bool true) := by
    refine Con.ev 45 T_ok mix Try.func59 rfl rfl rfl rfl [.tmp 4] rfl ?_
    conv => whnf
    iterate 6 (refine rq_s (by (rfl)) ?_; conv => whnf)
    (refine lend_s ?_; conv => whnf)
    iterate 2 (refine rows_s (by (rfl)) ?_; conv => whnf)
    (refine call_s (eqI ..) ?_; conv => whnf)
    (refine br_t rfl ?_; conv => whnf)
    (refine rq_s (by (rfl)) ?_; conv => whnf)
    iterate 2 (refine br_t rfl ?_; conv => whnf)
    (refine rq_s (by (rfl)) ?_; conv => whnf)
    iterate 2 (refine br_t rfl ?_; conv => whnf)
    iterate 2 (refine rq_s (by (rfl)) ?_; conv => whnf)
    (refine lend_s ?_; conv => whnf)
    iterate 2 (refine rows_s (by (rfl)) ?_; conv => whnf)
    (refine call_s (eqI ..) ?_; conv => whnf)
    (refine br_t rfl ?_; conv => whnf)
    (refine rq_s (by (rfl)) ?_; conv => whnf)
    iterate 2 (refine br_t rfl ?_; conv => whnf)
    (refine rq_s (by (rfl)) ?_; conv => whnf)
    iterate 2 (refine br_t rfl ?_; conv => whnf)
    iterate 2 (refine rq_s (by (rfl)) ?_; conv => whnf)
    (refine lend_s ?_; conv => whnf)
    iterate 2 (refine rows_s (by (rfl)) ?_; conv => whnf)
    (refine call_s (eqI ..) ?_; conv => whnf)
    (refine br_t rfl ?_; conv => whnf)
    (refine rq_s (by (rfl)) ?_; conv => whnf)
    iterate 2 (refine br_t rfl ?_; conv => whnf)
    (refine rq_s (by (rfl)) ?_; conv => whnf)
    iterate 2 (refine br_t rfl ?_; conv => whnf)
    (focus (refine br_t (by (simp; done)) ?_; conv => whnf))
    (refine rq_s (by (rfl)) ?_; conv => whnf)
    iterate 2 (refine br_t rfl ?_; conv => whnf)
    (refine rq_s (by (rfl)) ?_; conv => whnf)
    iterate 2 (refine br_t rfl ?_; conv => whnf)
    (focus (refine br_t (by (simp; done)) ?_; conv => whnf))
    (refine rq_s (by (rfl)) ?_; conv => whnf)
    iterate 2 (refine br_t rfl ?_; conv => whnf)
    (refine rq_s (by (rfl)) ?_; conv => whnf)
    iterate 2 (refine br_t rfl ?_; conv => whnf)
    (refine rq_s (by (rfl)) ?_; conv => whnf)
    (refine sh_s ?_; ((simp)))
  refine Con.ev 16 T_ok mix Try.func12 rfl rfl rfl rfl [.tmp 4] rfl ?_
  conv => whnf
  iterate 8 (refine rq_s (by (rfl)) ?_; conv => whnf)
  (refine lend_s ?_; conv => whnf)
  iterate 3 (refine rows_s (by (rfl)) ?_; conv => whnf)
  (refine call_s (k1 ..) ?_; conv => whnf)
  iterate 2 (refine br_t rfl ?_; conv => whnf)
  iterate 6 (refine rq_s (by (rfl)) ?_; conv => whnf)
  (refine lend_s ?_; conv => whnf)
  iterate 3 (refine rows_s (by (rfl)) ?_; conv => whnf)
  (refine call_s (k1 ..) ?_; conv => whnf)
  iterate 3 (refine br_t rfl ?_; conv => whnf)
  iterate 12 (refine rq_s (by (rfl)) ?_; conv => whnf)
  (refine lend_s ?_; conv => whnf)
  iterate 6 (refine rows_s (by (rfl)) ?_; conv => whnf)
  (refine call_s (k2 ..) ?_; conv => whnf)
  (refine rq_s (by (rfl)) ?_; conv => whnf)
  (refine sh_s ?_; (rfl))


theorem hst_o (h : Hst) : Sh (hstO h) (hstV h) := Sh.agg ⟨Sh.own_ro (by omega) _ _, Sh.own_ro (by omega) _ _, Sh.own_ro (by omega) _ _, Sh.refl _, Sh.own_ro (by omega) _ _, trivial⟩
theorem grant (h : Hst) (ho : HostOk h) (c : Nat) (hc : c < 4) (b : Bool) : Con Try.prog 13 [hstV h, .int .i64 c, .bool b] (undefs [hstV h, .int .i64 c, .bool b]) (.tup [hstV (grantF h c b), .int .i64 0]) := by
  have k1 := c48 h
  rw [(hostOK_iff h).2 ho] at k1
  have k2 := c50 c
  rw [show inR (c : Int) 0 3 = true by simp [inR]; omega] at k2
  have hgr := ho.gr
  have hst := ho.st
  have hq := ho.q
  have hds := ho.ds
  have k3 := c60 h ⟨by omega, by omega, by omega, by omega⟩
  refine Con.ev 27 T_ok mix Try.func13 rfl rfl rfl rfl [.cell 6 27, .tmp 7] rfl ?_
  conv => whnf
  iterate 6 (refine rq_s (by (rfl)) ?_; conv => whnf)
  (refine lend_s ?_; conv => whnf)
  iterate 4 (refine rows_s (by (rfl)) ?_; conv => whnf)
  (refine call_s (k1 ..) ?_; conv => whnf)
  (refine br_f rfl ?_; conv => whnf)
  (refine rq_s (by (rfl)) ?_; conv => whnf)
  (refine lend_s ?_; conv => whnf)
  (refine call_s (k2 ..) ?_; conv => whnf)
  (refine br_f rfl ?_; conv => whnf)
  iterate 5 (refine rq_s (by (rfl)) ?_; conv => whnf)
  (refine lend_s ?_; conv => whnf)
  iterate 4 (refine rows_s (by (rfl)) ?_; conv => whnf)
  (refine call_s (k3 ..) ?_; conv => whnf)
  iterate 5 (refine fac_s (fun hf => ?_); conv => whnf)
  iterate 2 (refine rq_s (by (rfl)) ?_; conv => whnf)
  (refine rq_s (by ((simp only [decide_eq_true_eq, List.length_map]; done))) ?_; conv => whnf)
  (refine rq_s (by ((refine and_s rfl ?_; simp only [decide_eq_true_eq, List.length_map]; omega))) ?_; conv => whnf)
  (refine rows_s (by ((refine setRow_map boolR _ _ _ _ b false (by omega) rfl rfl))) ?_; conv => whnf)
  (refine rq_s (by (rfl)) ?_; conv => whnf)
  (refine rq_s (by ((simp only [decide_eq_true_eq, List.length_map]; done))) ?_; conv => whnf)
  (refine rq_s (by (rfl)) ?_; conv => whnf)
  (refine rq_s (by ((simp only [decide_eq_true_eq, List.length_map]; done))) ?_; conv => whnf)
  (refine rq_s (by (rfl)) ?_; conv => whnf)
  (refine rq_s (by ((simp only [decide_eq_true_eq, List.length_map]; done))) ?_; conv => whnf)
  iterate 2 (refine rq_s (by (rfl)) ?_; conv => whnf)
  (refine rq_s (by ((simp only [decide_eq_true_eq, List.length_map]; done))) ?_; conv => whnf)
  iterate 2 (refine rq_s (by (rfl)) ?_; conv => whnf)
  iterate 4 (refine rows_s (by ((refine sub_all ?_; simp [List.length_map]; done))) ?_; conv => whnf)
  rotate_left
  rw [show 0 + ((c : Nat) : Int).toNat = c by omega]
  exact ⟨Sh.tup ⟨hst_o (grantF h c b), Sh.refl _, trivial⟩⟩

theorem answer (h : Hst) (ho : HostOk h) (hq3 : h.q.length ≤ 3) (n : Int) (hn : cell n = true) : Con Try.prog 15 [hstV h, .int .i64 n] (undefs [hstV h, .int .i64 n]) (.tup [hstV { h with q := h.q ++ [n] }, .int .i64 0]) := by
  have k1 := c48 h
  rw [(hostOK_iff h).2 ho] at k1
  have k2 := c62 n
  rw [hn] at k2
  have hgr := ho.gr
  have hst := ho.st
  have hq := ho.q
  have hds := ho.ds
  have k3 := c60 h ⟨by omega, by omega, by omega, by omega⟩
  have hb : (((h.q.map intR).length : Int) == 20) = false := beq_eq_false_iff_ne.2 (by rw [List.length_map]; omega)
  refine Con.ev 31 T_ok mix Try.func15 rfl rfl rfl rfl [.cell 4 27, .tmp 5] rfl ?_
  conv => whnf
  iterate 6 (refine rq_s (by (rfl)) ?_; conv => whnf)
  (refine lend_s ?_; conv => whnf)
  iterate 4 (refine rows_s (by (rfl)) ?_; conv => whnf)
  (refine call_s (k1 ..) ?_; conv => whnf)
  (refine br_f rfl ?_; conv => whnf)
  (refine rq_s (by (rfl)) ?_; conv => whnf)
  (refine lend_s ?_; conv => whnf)
  (refine call_s (k2 ..) ?_; conv => whnf)
  (refine br_f rfl ?_; conv => whnf)
  iterate 5 (refine rq_s (by (rfl)) ?_; conv => whnf)
  (refine lend_s ?_; conv => whnf)
  iterate 4 (refine rows_s (by (rfl)) ?_; conv => whnf)
  (refine call_s (k3 ..) ?_; conv => whnf)
  iterate 5 (refine fac_s (fun hf => ?_); conv => whnf)
  (refine rq_s (by (rfl)) ?_; conv => whnf)
  (refine br_f (by assumption) ?_; conv => whnf)
  iterate 2 (refine rq_s (by (rfl)) ?_; conv => whnf)
  (refine rq_s (by ((simp only [decide_eq_true_eq, List.length_map]; done))) ?_; conv => whnf)
  iterate 2 (refine rq_s (by (rfl)) ?_; conv => whnf)
  (refine rq_s (by ((simp only [decide_eq_true_eq, List.length_map]; done))) ?_; conv => whnf)
  (refine rq_s (by (((refine and_s rfl ?_; simp [maxBytes, subA]; omega)))) ?_; conv => whnf)
  (refine appm_s intR (y := n) rfl ?_; conv => whnf)
  iterate 2 (refine rq_s (by (rfl)) ?_; conv => whnf)
  (refine rq_s (by ((simp only [decide_eq_true_eq, List.length_map]; done))) ?_; conv => whnf)
  (refine rq_s (by (rfl)) ?_; conv => whnf)
  (refine rq_s (by ((simp only [decide_eq_true_eq, List.length_map]; done))) ?_; conv => whnf)
  (refine rq_s (by (rfl)) ?_; conv => whnf)
  (refine rq_s (by ((simp only [decide_eq_true_eq, List.length_map]; done))) ?_; conv => whnf)
  iterate 2 (refine rq_s (by (rfl)) ?_; conv => whnf)
  (refine rq_s (by ((simp only [decide_eq_true_eq, List.length_map]; done))) ?_; conv => whnf)
  iterate 2 (refine rq_s (by (rfl)) ?_; conv => whnf)
  iterate 4 (refine rows_s (by ((refine sub_all ?_; simp [List.length_map]; done))) ?_; conv => whnf)
  rotate_left
  exact ⟨Sh.tup ⟨hst_o { h with q := h.q ++ [n] }, Sh.refl _, trivial⟩⟩
end G4

/- A call of a capability that is not granted has no effect; a granted call is recorded as a deed: the law. -/
set_option linter.unusedVariables false
set_option linter.unusedSimpArgs false
set_option maxRecDepth 100000
open Go Go.Abs Go.Proofs V1 H1 H2 H3 H4 H5 H6 S1 S2 S3 S4 S5 S6 S7 S8 G1 G2 G3 G4
namespace G5

theorem dat_o (d : Dat) : Sh (datO d) (datV d) := Sh.agg ⟨Sh.own_ro (by omega) _ _, Sh.own_ro (by omega) _ _, Sh.own_ro (by omega) _ _, Sh.refl _, Sh.refl _, Sh.refl _, trivial⟩
def hcR (r : Hst × Dat × Int) : AV := .tup [hstV r.1, datV r.2.1, .int .i64 r.2.2, .int .i64 0]
theorem hc_eq {h : Hst} {d : Dat} {c : Nat} (hh : HostOk h) (hd : DataOk d) (hc : c < 4) : hostCallF h d c = ((callF h d c).1, (callF h d c).2.1, (callF h d c).2.2, 0) := by
  rw [hostCallF, if_neg (by rw [(hostOK_iff h).2 hh, (dataOK_iff d).2 hd]; simp), if_neg (by simp [inR]; omega), Int.toNat_natCast]
theorem hcI {h : Hst} {d : Dat} {c : Nat} (hh : HostOk h) (hd : DataOk d) (hc : c < 4) : Con Try.prog 9 [hstV h, datV d, .int .i64 c] (undefs [hstV h, datV d, .int .i64 c]) (hcR (callF h d c)) := by
  have k := c9 h d c
  rw [hc_eq hh hd hc] at k
  exact Con.sh k (Sh.tup ⟨hst_o _, dat_o _, Sh.refl _, Sh.refl _, trivial⟩)
theorem hcS {h : Hst} {d : Dat} {c : Nat} (hh : HostOk h) (hd : DataOk d) (hc : c < 4) : Con Try.prog 10 [hstV h, datV d, .int .i64 c] (undefs [hstV h, datV d, .int .i64 c]) (hcR (callF h d c)) := by
  have k := c10 h d c
  rw [hc_eq hh hd hc] at k
  exact Con.sh k (Sh.tup ⟨hst_o _, dat_o _, Sh.refl _, Sh.refl _, trivial⟩)

set_option maxHeartbeats 40000000 in
theorem law (code more : List UInt8) : Con Try.prog 3 [roU code, roU more] (undefs [roU code, roU more]) (.bool true) := by
  by_cases hc : code.length > 1048576
  · have hb1 : decide (((code.map byteR).length : Int) > 1048576) = true := by simp; omega
    refine Con.ev 234 T_ok mix Try.func3 rfl rfl rfl rfl [.tmp 4] rfl ?_
    conv => whnf
    (refine br_t (by assumption) ?_; conv => whnf)
    iterate 4 (refine br_t rfl ?_; conv => whnf)
    (refine rq_s (by (rfl)) ?_; conv => whnf)
    (refine sh_s ?_; (rfl))
  by_cases hm : more.length > 1048576
  · have hb1 : decide (((code.map byteR).length : Int) > 1048576) = false := by simp; omega
    have hb2 : decide (((more.map byteR).length : Int) > 1048576) = true := by simp; omega
    refine Con.ev 234 T_ok mix Try.func3 rfl rfl rfl rfl [.tmp 4] rfl ?_
    conv => whnf
    (refine br_f (by assumption) ?_; conv => whnf)
    iterate 2 (refine br_f rfl ?_; conv => whnf)
    (refine br_t (by assumption) ?_; conv => whnf)
    (refine rq_s (by (rfl)) ?_; conv => whnf)
    (refine sh_s ?_; (rfl))
  have hb1 : decide (((code.map byteR).length : Int) > 1048576) = false := by simp; omega
  have hb2 : decide (((more.map byteR).length : Int) > 1048576) = false := by simp; omega
  obtain ⟨h, kh, hh, hq⟩ := hostDrawn code
  obtain ⟨d, kd, hd⟩ := dataDrawn more
  obtain ⟨n, kn, hn⟩ := cellDrawn more
  have ka := answer h hh hq n hn
  refine Con.ev 234 T_ok mix Try.func3 rfl rfl rfl rfl [.tmp 4] rfl ?_
  conv => whnf
  (refine br_f (by assumption) ?_; conv => whnf)
  iterate 2 (refine br_f rfl ?_; conv => whnf)
  (refine br_f (by assumption) ?_; conv => whnf)
  (refine rq_s (by (rfl)) ?_; conv => whnf)
  (refine lend_s ?_; conv => whnf)
  (refine rows_s (by (rfl)) ?_; conv => whnf)
  (refine call_s (kh ..) ?_; conv => whnf)
  iterate 5 (refine fac_s (fun hf => ?_); conv => whnf)
  (refine rq_s (by (rfl)) ?_; conv => whnf)
  (refine lend_s ?_; conv => whnf)
  (refine rows_s (by (rfl)) ?_; conv => whnf)
  (refine call_s (kd ..) ?_; conv => whnf)
  iterate 6 (refine fac_s (fun hf => ?_); conv => whnf)
  rotate_left
  refine LoopG.auto (α := Nat) T_ok mix [1, 5, 6, 7] (fun c => [(1, roU more), (5, .ptr 1 0 0), (6, .ptr 2 0 0), (7, .int .i64 c)]) (fun c => [(1, .live ⟨false, 0, [.emp, .emp, .emp, .int .i64 0, .emp], [hstR h]⟩), (2, .live ⟨false, 0, [.emp, .emp, .emp, .int .i64 0, .int .i64 0, .str []], [datR d]⟩)]) (fun c => c ≤ 4) (fun c => 4 - c) ?_ ?_
  · conv => whnf
    (refine ChkS.mk (by kernel_rfl) ?_; conv => whnf)
    rotate_left
    exact head_s 0 (by omega) rfl rfl
  · intro c hc4 _ _
    by_cases hce : c = 4
    · subst hce
      have hb3 : (((((h.q ++ [n]).map intR).length : Nat) : Int) == IntKind.i64.wrap (((h.q.map intR).length : Int) + 1)) = true := by
        rw [wrap64 (by omega) (by simp; omega)]; simp
      have hrow : ∀ z, rowA ((h.q ++ [n]).map intR) (h.q.map intR).length z = [.int .i64 n] := fun z => by
        rw [List.length_map]
        have := row_map intR (h.q ++ [n]) h.q.length z 0 (by simp)
        simpa [intR] using this
      conv => whnf
      (refine br_f rfl ?_; conv => whnf)
      (refine rq_s (by (rfl)) ?_; conv => whnf)
      (refine lend_s ?_; conv => whnf)
      (refine rows_s (by (rfl)) ?_; conv => whnf)
      (refine call_s (kn ..) ?_; conv => whnf)
      (refine fac_s (fun hf => ?_); conv => whnf)
      iterate 6 (refine rq_s (by (rfl)) ?_; conv => whnf)
      (refine lend_s ?_; conv => whnf)
      iterate 4 (refine rows_s (by (rfl)) ?_; conv => whnf)
      (refine call_s (ka ..) ?_; conv => whnf)
      (refine fac_s (fun hf => ?_); conv => whnf)
      (refine br_t rfl ?_; conv => whnf)
      (refine rq_s (by (rfl)) ?_; conv => whnf)
      iterate 3 (refine br_t rfl ?_; conv => whnf)
      (refine rq_s (by (rfl)) ?_; conv => whnf)
      iterate 4 (refine br_t rfl ?_; conv => whnf)
      (refine br_t (by assumption) ?_; conv => whnf)
      (refine rq_s (by (rfl)) ?_; conv => whnf)
      iterate 2 (refine br_t rfl ?_; conv => whnf)
      (refine rq_s (by (rfl)) ?_; conv => whnf)
      iterate 3 (refine br_t rfl ?_; conv => whnf)
      (refine rq_s (by (rfl)) ?_; conv => whnf)
      (refine rq_s (by ((simp; done))) ?_; conv => whnf)
      (refine br_t rfl ?_; conv => whnf)
      (refine row_s (by ((try simp only [Int.toNat_natCast]); exact hrow _)) ?_; conv => whnf)
      iterate 2 (refine br_t rfl ?_; conv => whnf)
      (refine rq_s (by (rfl)) ?_; conv => whnf)
      (refine sh_s ?_; ((simp)))
    · have hclt : c < 4 := by omega
      have hb3 : decide ((c : Int) ≤ 3) = true := by simp; omega
      have hi1 : IntKind.i64.wrap ((c : Int) + 1) = ((c + 1 : Nat) : Int) := by rw [wrap64 (by omega) (by omega)]; omega
      have hgl := hh.gr
      have kf := grant h hh c hclt false
      have hof := grantF_ok hh c false
      have ko := hcI hof hd hclt
      rw [callF_no (grantF_gr hh hclt false)] at ko
      have kt := grant (grantF h c false) hof c hclt true
      have hon := grantF_ok hof c true
      have ky := hcI hon hd hclt
      have hy := (callF_ok hclt hon hd (grantF_gr hof hclt true)).1.no
      have hy1 : ((callF (grantF (grantF h c false) c true) d c).2.2 == -100) = false := beq_eq_false_iff_ne.2 hy
      generalize callF (grantF (grantF h c false) c true) d c = ry at ky hy1
      obtain ⟨x2, y2, th2⟩ := ry
      simp only [hcR] at ky hy1 ko
      have k1 := hcI hh hd hclt
      have k2 := hcS hh hd hclt
      have hrow : ∀ z, rowA (h.gr.map boolR) c z = [.bool (h.gr.getD c false)] := fun z => row_map boolR _ _ _ false (by omega)
      cases hg : h.gr.getD c false with
      | false =>
        rw [callF_no hg] at k1 k2
        rw [hg] at hrow
        simp only [hcR] at k1 k2
        have s1 := sameH h hh
        have s2 := sameD d hd
        conv => whnf
        (refine br_t (by assumption) ?_; conv => whnf)
        iterate 12 (refine rq_s (by (rfl)) ?_; conv => whnf)
        (refine lend_s ?_; conv => whnf)
        iterate 7 (refine rows_s (by (rfl)) ?_; conv => whnf)
        (refine call_s (k1 ..) ?_; conv => whnf)
        iterate 2 (refine fac_s (fun hf => ?_); conv => whnf)
        iterate 12 (refine rq_s (by (rfl)) ?_; conv => whnf)
        (refine lend_s ?_; conv => whnf)
        iterate 7 (refine rows_s (by (rfl)) ?_; conv => whnf)
        (refine call_s (k2 ..) ?_; conv => whnf)
        iterate 2 (refine fac_s (fun hf => ?_); conv => whnf)
        iterate 6 (refine br_f rfl ?_; conv => whnf)
        iterate 10 (refine rq_s (by (rfl)) ?_; conv => whnf)
        (refine lend_s ?_; conv => whnf)
        iterate 8 (refine rows_s (by (rfl)) ?_; conv => whnf)
        (refine call_s (s1 ..) ?_; conv => whnf)
        iterate 4 (refine br_f rfl ?_; conv => whnf)
        iterate 12 (refine rq_s (by (rfl)) ?_; conv => whnf)
        (refine lend_s ?_; conv => whnf)
        iterate 6 (refine rows_s (by (rfl)) ?_; conv => whnf)
        (refine call_s (s2 ..) ?_; conv => whnf)
        iterate 2 (refine br_f rfl ?_; conv => whnf)
        iterate 2 (refine rq_s (by (rfl)) ?_; conv => whnf)
        (refine rq_s (by ((refine and_s rfl ?_; simp only [decide_eq_true_eq, List.length_map]; omega))) ?_; conv => whnf)
        (refine row_s (by ((try simp only [Int.toNat_natCast]); exact hrow _)) ?_; conv => whnf)
        iterate 3 (refine br_t rfl ?_; conv => whnf)
        iterate 3 (refine br_f rfl ?_; conv => whnf)
        iterate 10 (refine rq_s (by (rfl)) ?_; conv => whnf)
        (refine lend_s ?_; conv => whnf)
        iterate 8 (refine rows_s (by (rfl)) ?_; conv => whnf)
        (refine call_s (s1 ..) ?_; conv => whnf)
        (refine br_f rfl ?_; conv => whnf)
        iterate 2 (refine br_t rfl ?_; conv => whnf)
        iterate 3 (refine br_f rfl ?_; conv => whnf)
        iterate 12 (refine rq_s (by (rfl)) ?_; conv => whnf)
        (refine lend_s ?_; conv => whnf)
        iterate 6 (refine rows_s (by (rfl)) ?_; conv => whnf)
        (refine call_s (s2 ..) ?_; conv => whnf)
        (refine br_f rfl ?_; conv => whnf)
        (refine br_t rfl ?_; conv => whnf)
        (refine br_f rfl ?_; conv => whnf)
        (refine rq_s (by (rfl)) ?_; conv => whnf)
        iterate 3 (refine br_f rfl ?_; conv => whnf)
        (refine rq_s (by (rfl)) ?_; conv => whnf)
        (refine rq_s (by ((refine and_s rfl ?_; simp only [decide_eq_true_eq, List.length_map]; omega))) ?_; conv => whnf)
        (refine br_f rfl ?_; conv => whnf)
        (refine row_s (by ((try simp only [Int.toNat_natCast]); exact hrow _)) ?_; conv => whnf)
        iterate 20 (refine br_f rfl ?_; conv => whnf)
        iterate 3 (refine br_t rfl ?_; conv => whnf)
        iterate 10 (refine rq_s (by (rfl)) ?_; conv => whnf)
        (refine lend_s ?_; conv => whnf)
        iterate 8 (refine rows_s (by (rfl)) ?_; conv => whnf)
        (refine call_s (s1 ..) ?_; conv => whnf)
        (refine br_t rfl ?_; conv => whnf)
        iterate 2 (refine br_f rfl ?_; conv => whnf)
        iterate 7 (refine rq_s (by (rfl)) ?_; conv => whnf)
        (refine lend_s ?_; conv => whnf)
        iterate 4 (refine rows_s (by (rfl)) ?_; conv => whnf)
        (refine call_s (kf ..) ?_; conv => whnf)
        (refine fac_s (fun hf => ?_); conv => whnf)
        iterate 12 (refine rq_s (by (rfl)) ?_; conv => whnf)
        (refine lend_s ?_; conv => whnf)
        iterate 7 (refine rows_s (by (rfl)) ?_; conv => whnf)
        (refine call_s (ko ..) ?_; conv => whnf)
        iterate 2 (refine fac_s (fun hf => ?_); conv => whnf)
        iterate 7 (refine rq_s (by (rfl)) ?_; conv => whnf)
        (refine lend_s ?_; conv => whnf)
        iterate 4 (refine rows_s (by (rfl)) ?_; conv => whnf)
        (refine call_s (kt ..) ?_; conv => whnf)
        (refine fac_s (fun hf => ?_); conv => whnf)
        iterate 12 (refine rq_s (by (rfl)) ?_; conv => whnf)
        (refine lend_s ?_; conv => whnf)
        iterate 7 (refine rows_s (by (rfl)) ?_; conv => whnf)
        (refine call_s (ky ..) ?_; conv => whnf)
        iterate 2 (refine fac_s (fun hf => ?_); conv => whnf)
        iterate 10 (refine br_f rfl ?_; conv => whnf)
        (refine br_f (by assumption) ?_; conv => whnf)
        (refine ChkS.mk (by kernel_rfl) ?_; conv => whnf)
        rotate_left
        exact head_s (c + 1) ⟨by omega, by omega⟩ (by rw [hi1]; rfl) rfl
      | true =>
        rw [hg] at hrow
        obtain ⟨⟨q1, q2, q3, q4⟩, q5⟩ := callF_ok hclt hh hd hg
        generalize callF h d c = r at k1 k2 q1 q2 q3 q4 q5
        obtain ⟨x, y, th⟩ := r
        simp only [hcR] at k1 k2 q1 q2 q3 q4 q5
        have s2 := sameD y q2
        by_cases h0 : th = 0
        · subst h0
          obtain ⟨u, hds, huc⟩ := q4 rfl
          have s1 := sameH x q1
          have hl1 : (!(((x.ds.map dealR).length : Int) == IntKind.i64.wrap (((h.ds.map dealR).length : Int) + 1))) = false := by
            have := hh.ds
            rw [wrap64 (by omega) (by simp; omega), hds]; simp
          have hl2 : decide ((h.ds.map dealR).length < (x.ds.map dealR).length) = true := by rw [hds]; simp
          have hrow2 : ∀ z, rowA (x.ds.map dealR) (h.ds.map dealR).length z = dealR u := fun z => by
            rw [hds, List.length_map]
            have := row_map dealR (h.ds ++ [u]) h.ds.length z default (by simp)
            simpa using this
          have hu1 : (!(u.c == (c : Int))) = false := by rw [huc]; simp
          conv => whnf
          (refine br_t (by assumption) ?_; conv => whnf)
          iterate 12 (refine rq_s (by (rfl)) ?_; conv => whnf)
          (refine lend_s ?_; conv => whnf)
          iterate 7 (refine rows_s (by (rfl)) ?_; conv => whnf)
          (refine call_s (k1 ..) ?_; conv => whnf)
          iterate 2 (refine fac_s (fun hf => ?_); conv => whnf)
          iterate 12 (refine rq_s (by (rfl)) ?_; conv => whnf)
          (refine lend_s ?_; conv => whnf)
          iterate 7 (refine rows_s (by (rfl)) ?_; conv => whnf)
          (refine call_s (k2 ..) ?_; conv => whnf)
          iterate 2 (refine fac_s (fun hf => ?_); conv => whnf)
          iterate 6 (refine br_f rfl ?_; conv => whnf)
          iterate 10 (refine rq_s (by (rfl)) ?_; conv => whnf)
          (refine lend_s ?_; conv => whnf)
          iterate 8 (refine rows_s (by (rfl)) ?_; conv => whnf)
          (refine call_s (s1 ..) ?_; conv => whnf)
          iterate 4 (refine br_f rfl ?_; conv => whnf)
          iterate 12 (refine rq_s (by (rfl)) ?_; conv => whnf)
          (refine lend_s ?_; conv => whnf)
          iterate 6 (refine rows_s (by (rfl)) ?_; conv => whnf)
          (refine call_s (s2 ..) ?_; conv => whnf)
          iterate 2 (refine br_f rfl ?_; conv => whnf)
          iterate 2 (refine rq_s (by (rfl)) ?_; conv => whnf)
          (refine rq_s (by ((refine and_s rfl ?_; simp only [decide_eq_true_eq, List.length_map]; omega))) ?_; conv => whnf)
          (refine row_s (by ((try simp only [Int.toNat_natCast]); exact hrow _)) ?_; conv => whnf)
          iterate 8 (refine br_f rfl ?_; conv => whnf)
          (refine rq_s (by (rfl)) ?_; conv => whnf)
          iterate 3 (refine br_f rfl ?_; conv => whnf)
          (refine rq_s (by (rfl)) ?_; conv => whnf)
          (refine rq_s (by ((refine and_s rfl ?_; simp only [decide_eq_true_eq, List.length_map]; omega))) ?_; conv => whnf)
          (refine br_f rfl ?_; conv => whnf)
          (refine row_s (by ((try simp only [Int.toNat_natCast]); exact hrow _)) ?_; conv => whnf)
          (refine br_f rfl ?_; conv => whnf)
          iterate 2 (refine br_t rfl ?_; conv => whnf)
          iterate 2 (refine br_f rfl ?_; conv => whnf)
          (refine br_t rfl ?_; conv => whnf)
          (refine rq_s (by (rfl)) ?_; conv => whnf)
          iterate 3 (refine br_t rfl ?_; conv => whnf)
          (refine rq_s (by (rfl)) ?_; conv => whnf)
          iterate 5 (refine br_t rfl ?_; conv => whnf)
          (refine br_f (by assumption) ?_; conv => whnf)
          (refine rq_s (by (rfl)) ?_; conv => whnf)
          iterate 2 (refine br_f rfl ?_; conv => whnf)
          (refine rq_s (by (rfl)) ?_; conv => whnf)
          iterate 3 (refine br_f rfl ?_; conv => whnf)
          (refine rq_s (by (rfl)) ?_; conv => whnf)
          (refine rq_s (by (((exact and_s rfl hl2)))) ?_; conv => whnf)
          (refine br_f rfl ?_; conv => whnf)
          (refine rq_s (by (rfl)) ?_; conv => whnf)
          (refine br_f rfl ?_; conv => whnf)
          (refine row_s (by ((try simp only [Int.toNat_natCast]); exact hrow2 _)) ?_; conv => whnf)
          iterate 2 (refine br_f rfl ?_; conv => whnf)
          (refine br_t rfl ?_; conv => whnf)
          (refine br_f (by assumption) ?_; conv => whnf)
          iterate 9 (refine br_f rfl ?_; conv => whnf)
          iterate 7 (refine rq_s (by (rfl)) ?_; conv => whnf)
          (refine lend_s ?_; conv => whnf)
          iterate 4 (refine rows_s (by (rfl)) ?_; conv => whnf)
          (refine call_s (kf ..) ?_; conv => whnf)
          (refine fac_s (fun hf => ?_); conv => whnf)
          iterate 12 (refine rq_s (by (rfl)) ?_; conv => whnf)
          (refine lend_s ?_; conv => whnf)
          iterate 7 (refine rows_s (by (rfl)) ?_; conv => whnf)
          (refine call_s (ko ..) ?_; conv => whnf)
          iterate 2 (refine fac_s (fun hf => ?_); conv => whnf)
          iterate 7 (refine rq_s (by (rfl)) ?_; conv => whnf)
          (refine lend_s ?_; conv => whnf)
          iterate 4 (refine rows_s (by (rfl)) ?_; conv => whnf)
          (refine call_s (kt ..) ?_; conv => whnf)
          (refine fac_s (fun hf => ?_); conv => whnf)
          iterate 12 (refine rq_s (by (rfl)) ?_; conv => whnf)
          (refine lend_s ?_; conv => whnf)
          iterate 7 (refine rows_s (by (rfl)) ?_; conv => whnf)
          (refine call_s (ky ..) ?_; conv => whnf)
          iterate 2 (refine fac_s (fun hf => ?_); conv => whnf)
          iterate 10 (refine br_f rfl ?_; conv => whnf)
          (refine br_f (by assumption) ?_; conv => whnf)
          (refine ChkS.mk (by kernel_rfl) ?_; conv => whnf)
          rotate_left
          exact head_s (c + 1) ⟨by omega, by omega⟩ (by rw [hi1]; rfl) rfl
        · obtain rfl := q5 h0
          have s1 := sameH x hh
          have e1 : (th == -100) = false := beq_eq_false_iff_ne.2 q3
          have e2 : (th == 0) = false := beq_eq_false_iff_ne.2 h0
          have e3 : (!(th == 0)) = true := by rw [e2]; rfl
          conv => whnf
          (refine br_t (by assumption) ?_; conv => whnf)
          iterate 12 (refine rq_s (by (rfl)) ?_; conv => whnf)
          (refine lend_s ?_; conv => whnf)
          iterate 7 (refine rows_s (by (rfl)) ?_; conv => whnf)
          (refine call_s (k1 ..) ?_; conv => whnf)
          iterate 2 (refine fac_s (fun hf => ?_); conv => whnf)
          iterate 12 (refine rq_s (by (rfl)) ?_; conv => whnf)
          (refine lend_s ?_; conv => whnf)
          iterate 7 (refine rows_s (by (rfl)) ?_; conv => whnf)
          (refine call_s (k2 ..) ?_; conv => whnf)
          iterate 2 (refine fac_s (fun hf => ?_); conv => whnf)
          iterate 3 (refine br_f rfl ?_; conv => whnf)
          (focus (refine br_f (by (simp; done)) ?_; conv => whnf))
          iterate 2 (refine br_f rfl ?_; conv => whnf)
          iterate 10 (refine rq_s (by (rfl)) ?_; conv => whnf)
          (refine lend_s ?_; conv => whnf)
          iterate 8 (refine rows_s (by (rfl)) ?_; conv => whnf)
          (refine call_s (s1 ..) ?_; conv => whnf)
          iterate 4 (refine br_f rfl ?_; conv => whnf)
          iterate 12 (refine rq_s (by (rfl)) ?_; conv => whnf)
          (refine lend_s ?_; conv => whnf)
          iterate 6 (refine rows_s (by (rfl)) ?_; conv => whnf)
          (refine call_s (s2 ..) ?_; conv => whnf)
          iterate 2 (refine br_f rfl ?_; conv => whnf)
          iterate 2 (refine rq_s (by (rfl)) ?_; conv => whnf)
          (refine rq_s (by ((refine and_s rfl ?_; simp only [decide_eq_true_eq, List.length_map]; omega))) ?_; conv => whnf)
          (refine row_s (by ((try simp only [Int.toNat_natCast]); exact hrow _)) ?_; conv => whnf)
          iterate 8 (refine br_f rfl ?_; conv => whnf)
          (refine rq_s (by (rfl)) ?_; conv => whnf)
          iterate 3 (refine br_f rfl ?_; conv => whnf)
          (refine rq_s (by (rfl)) ?_; conv => whnf)
          (refine rq_s (by ((refine and_s rfl ?_; simp only [decide_eq_true_eq, List.length_map]; omega))) ?_; conv => whnf)
          (refine br_f rfl ?_; conv => whnf)
          (refine row_s (by ((try simp only [Int.toNat_natCast]); exact hrow _)) ?_; conv => whnf)
          (refine br_f rfl ?_; conv => whnf)
          iterate 2 (refine br_t rfl ?_; conv => whnf)
          (refine br_f rfl ?_; conv => whnf)
          iterate 2 (refine br_f (by assumption) ?_; conv => whnf)
          iterate 13 (refine br_f rfl ?_; conv => whnf)
          (refine br_t (by assumption) ?_; conv => whnf)
          iterate 2 (refine br_t rfl ?_; conv => whnf)
          iterate 10 (refine rq_s (by (rfl)) ?_; conv => whnf)
          (refine lend_s ?_; conv => whnf)
          iterate 8 (refine rows_s (by (rfl)) ?_; conv => whnf)
          (refine call_s (s1 ..) ?_; conv => whnf)
          (refine br_t rfl ?_; conv => whnf)
          iterate 2 (refine br_f rfl ?_; conv => whnf)
          iterate 7 (refine rq_s (by (rfl)) ?_; conv => whnf)
          (refine lend_s ?_; conv => whnf)
          iterate 4 (refine rows_s (by (rfl)) ?_; conv => whnf)
          (refine call_s (kf ..) ?_; conv => whnf)
          (refine fac_s (fun hf => ?_); conv => whnf)
          iterate 12 (refine rq_s (by (rfl)) ?_; conv => whnf)
          (refine lend_s ?_; conv => whnf)
          iterate 7 (refine rows_s (by (rfl)) ?_; conv => whnf)
          (refine call_s (ko ..) ?_; conv => whnf)
          iterate 2 (refine fac_s (fun hf => ?_); conv => whnf)
          iterate 7 (refine rq_s (by (rfl)) ?_; conv => whnf)
          (refine lend_s ?_; conv => whnf)
          iterate 4 (refine rows_s (by (rfl)) ?_; conv => whnf)
          (refine call_s (kt ..) ?_; conv => whnf)
          (refine fac_s (fun hf => ?_); conv => whnf)
          iterate 12 (refine rq_s (by (rfl)) ?_; conv => whnf)
          (refine lend_s ?_; conv => whnf)
          iterate 7 (refine rows_s (by (rfl)) ?_; conv => whnf)
          (refine call_s (ky ..) ?_; conv => whnf)
          iterate 2 (refine fac_s (fun hf => ?_); conv => whnf)
          iterate 10 (refine br_f rfl ?_; conv => whnf)
          (refine br_f (by assumption) ?_; conv => whnf)
          (refine ChkS.mk (by kernel_rfl) ?_; conv => whnf)
          rotate_left
          exact head_s (c + 1) ⟨by omega, by omega⟩ (by rw [hi1]; rfl) rfl
end G5
