import Derived.Test.YtdbjklhadnnbdaaGtB
/- HostCall: the reference's parts. -/
set_option linter.unusedVariables false
set_option linter.unusedSimpArgs false
set_option maxRecDepth 100000
open Go Go.Abs Go.Proofs V1 H1 H2 H3
namespace H5

theorem putF_t {d : Dat} {t : Nat} {l : List Int} (e : d.st.length - t + l.length > 32) : putF d t l = (d, -3) := by rw [putF, if_pos e]
theorem putF_f {d : Dat} {t : Nat} {l : List Int} (e : ¬ d.st.length - t + l.length > 32) : putF d t l = ({ d with st := d.st.take (d.st.length - t) ++ l }, 0) := by rw [putF, if_neg e]
theorem sh_eq {x y : AV} (h : x = y) : Sh x y := h ▸ Sh.refl x
theorem own_ro_map {α : Type} {n : Nat} (hn : n ≤ 1) {z : List AV} {f : α → List AV} {xs ys : List α} (e : xs = ys) : Sh (.own n z (xs.map f)) (.ro z (ys.map f)) := e ▸ Sh.own_ro hn _ _
theorem put (d : Dat) (t : Int) (l : List Int) (h : d.st.length ≤ 32) (h0 : 0 ≤ t) (ht : t ≤ d.st.length) (hl : l.length ≤ 4) : Con Try.prog 109 [datV d, .int .i64 t, roI l] (undefs [datV d, .int .i64 t, roI l]) (.tup [datV (putF d t.toNat l).1, .int .i64 (putF d t.toNat l).2]) := by
  have w1 : IntKind.i64.wrap ((d.st.length : Int) - t) = ((d.st.length - t.toNat : Nat) : Int) := by rw [wrap64 (by omega) (by omega)]; omega
  have w2 : IntKind.i64.wrap (((d.st.length - t.toNat : Nat) : Int) + l.length) = ((d.st.length - t.toNat + l.length : Nat) : Int) := by rw [wrap64 (by omega) (by omega)]; omega
  refine Con.ev 30 T_ok mix Try.func109 rfl rfl rfl rfl [.cell 6 30, .tmp 7] rfl ?_
  conv => whnf
  iterate 2 (refine rq_s (by (rfl)) ?_; conv => whnf)
  (refine br_s (fun hb => ?_) (fun hb => ?_) <;> (try simp only [beq_iff_eq, bne_iff_ne, ne_eq, decide_eq_true_eq, decide_eq_false_iff_not, Int.not_lt, Int.not_le, Bool.false_eq_true, if_false, if_true, beq_eq_false_iff_ne, bne_eq_false_iff_eq, Bool.not_eq_true', Bool.not_eq_false', Int.ofNat_lt, Int.ofNat_le, Int.ofNat_inj, List.length_map, List.length_nil, List.length_cons] at hb) <;> conv => whnf)
  iterate 8 (refine rq_s (by (rfl)) ?_; conv => whnf)
  iterate 3 (refine rows_s (by (rfl)) ?_; conv => whnf)
  rotate_left
  iterate 2 (refine rq_s (by (rfl)) ?_; conv => whnf)
  (refine rq_s (by ((simp only [Bool.and_eq_true, decide_eq_true_eq, List.length_map]; omega))) ?_; conv => whnf)
  (refine rq_s (by ((refine and_s rfl ?_; simp only [decide_eq_true_eq, List.length_map]; omega))) ?_; conv => whnf)
  iterate 3 (refine rq_s (by (rfl)) ?_; conv => whnf)
  (refine rq_s (by ((first | (simp [w1, w2, maxBytes, AV.plain, subA]; done) | (simp [w1, w2, maxBytes, AV.plain, subA]; omega)))) ?_; conv => whnf)
  (refine app0_s ?_; conv => whnf)
  iterate 2 (refine rq_s (by (rfl)) ?_; conv => whnf)
  (refine rq_s (by ((simp only [decide_eq_true_eq, List.length_map, mkS_len, setRow_len]; done))) ?_; conv => whnf)
  (refine rq_s (by ((first | (simp [w1, w2, maxBytes, AV.plain, subA]; done) | (simp [w1, w2, maxBytes, AV.plain, subA]; omega)))) ?_; conv => whnf)
  (refine app0_s ?_; conv => whnf)
  iterate 2 (refine rq_s (by (rfl)) ?_; conv => whnf)
  (refine rq_s (by ((simp only [decide_eq_true_eq, List.length_map, mkS_len, setRow_len]; done))) ?_; conv => whnf)
  iterate 7 (refine rq_s (by (rfl)) ?_; conv => whnf)
  iterate 3 (refine rows_s (by (rfl)) ?_; conv => whnf)
  rotate_left
  all_goals rw [w1, w2] at hb
  · exact ⟨by rw [putF_t (by omega)]; exact Sh.refl _⟩
  · rw [putF_f (by omega)]
    refine ⟨Sh.tup ⟨Sh.agg ⟨?_, Sh.refl _, Sh.refl _, Sh.refl _, Sh.refl _, Sh.refl _, trivial⟩, Sh.refl _, trivial⟩⟩
    refine Sh.trans ?_ (Sh.own_ro (lvl := 1) (by omega) _ _)
    refine sh_eq ?_
    simp [subA, w1, List.take_of_length_le]
theorem putE (d : Dat) (t : Int) (h : d.st.length ≤ 32) (h0 : 0 ≤ t) (ht : t ≤ d.st.length) : Con Try.prog 109 [datV d, .int .i64 t, AV.emp] (undefs [datV d, .int .i64 t, AV.emp]) (.tup [datV (putF d t.toNat []).1, .int .i64 (putF d t.toNat []).2]) := by
  have w1 : IntKind.i64.wrap ((d.st.length : Int) - t) = ((d.st.length - t.toNat : Nat) : Int) := by rw [wrap64 (by omega) (by omega)]; omega
  have w2 : IntKind.i64.wrap (((d.st.length - t.toNat : Nat) : Int) + ((0 : Nat) : Int)) = ((d.st.length - t.toNat : Nat) : Int) := by rw [wrap64 (by omega) (by omega)]; omega
  refine Con.ev 30 T_ok mix Try.func109 rfl rfl rfl rfl [.cell 6 30, .tmp 7] rfl ?_
  conv => whnf
  iterate 2 (refine rq_s (by (rfl)) ?_; conv => whnf)
  (refine br_s (fun hb => ?_) (fun hb => ?_) <;> (try simp only [beq_iff_eq, bne_iff_ne, ne_eq, decide_eq_true_eq, decide_eq_false_iff_not, Int.not_lt, Int.not_le, Bool.false_eq_true, if_false, if_true, beq_eq_false_iff_ne, bne_eq_false_iff_eq, Bool.not_eq_true', Bool.not_eq_false', Int.ofNat_lt, Int.ofNat_le, Int.ofNat_inj, List.length_map, List.length_nil, List.length_cons] at hb) <;> conv => whnf)
  iterate 8 (refine rq_s (by (rfl)) ?_; conv => whnf)
  iterate 3 (refine rows_s (by (rfl)) ?_; conv => whnf)
  rotate_left
  iterate 2 (refine rq_s (by (rfl)) ?_; conv => whnf)
  (refine rq_s (by ((simp only [Bool.and_eq_true, decide_eq_true_eq, List.length_map]; omega))) ?_; conv => whnf)
  (refine rq_s (by ((refine and_s rfl ?_; simp only [decide_eq_true_eq, List.length_map]; omega))) ?_; conv => whnf)
  iterate 3 (refine rq_s (by (rfl)) ?_; conv => whnf)
  (refine rq_s (by ((first | (simp [w1, w2, maxBytes, AV.plain, subA]; done) | (simp [w1, w2, maxBytes, AV.plain, subA]; omega)))) ?_; conv => whnf)
  (refine app0_s ?_; conv => whnf)
  (refine rq_s (by (rfl)) ?_; conv => whnf)
  (refine rq_s (by ((simp only [decide_eq_true_eq, List.length_map, mkS_len, setRow_len]; done))) ?_; conv => whnf)
  (refine rq_s (by ((first | (simp [w1, w2, maxBytes, AV.plain, subA]; done) | (simp [w1, w2, maxBytes, AV.plain, subA]; omega)))) ?_; conv => whnf)
  (refine app0_s ?_; conv => whnf)
  iterate 2 (refine rq_s (by (rfl)) ?_; conv => whnf)
  (refine rq_s (by ((simp only [decide_eq_true_eq, List.length_map, mkS_len, setRow_len]; done))) ?_; conv => whnf)
  iterate 7 (refine rq_s (by (rfl)) ?_; conv => whnf)
  iterate 3 (refine rows_s (by (rfl)) ?_; conv => whnf)
  rotate_left
  all_goals rw [w1, w2] at hb
  · exact ⟨by rw [putF_t (by simp; omega)]; exact Sh.refl _⟩
  · rw [putF_f (by simp; omega)]
    refine ⟨Sh.tup ⟨Sh.agg ⟨?_, Sh.refl _, Sh.refl _, Sh.refl _, Sh.refl _, Sh.refl _, trivial⟩, Sh.refl _, trivial⟩⟩
    refine Sh.trans ?_ (Sh.own_ro (lvl := 1) (by omega) _ _)
    refine sh_eq ?_
    simp [subA, w1, List.take_of_length_le]
theorem takes0 : Con Try.prog 107 [.int .i64 0] (undefs [.int .i64 0]) (.int .i64 1) := by
  refine Con.ev 7 T_ok mix Try.func107 rfl rfl rfl rfl [.tmp 2] rfl ?_
  conv => whnf
  iterate 2 (refine rq_s (by (rfl)) ?_; conv => whnf)
  (refine rq_s (by ((simp only [decide_eq_true_eq, List.length_map, mkS_len, setRow_len]; done))) ?_; conv => whnf)
  (refine rq_s (by (rfl)) ?_; conv => whnf)
  (refine row_s (by (rfl)) ?_; conv => whnf)
  (refine rq_s (by (rfl)) ?_; conv => whnf)
  (refine sh_s ?_; (rfl))
theorem takes1 : Con Try.prog 107 [.int .i64 1] (undefs [.int .i64 1]) (.int .i64 2) := by
  refine Con.ev 7 T_ok mix Try.func107 rfl rfl rfl rfl [.tmp 2] rfl ?_
  conv => whnf
  iterate 2 (refine rq_s (by (rfl)) ?_; conv => whnf)
  (refine rq_s (by ((simp only [decide_eq_true_eq, List.length_map, mkS_len, setRow_len]; done))) ?_; conv => whnf)
  (refine rq_s (by (rfl)) ?_; conv => whnf)
  (refine row_s (by (rfl)) ?_; conv => whnf)
  (refine rq_s (by (rfl)) ?_; conv => whnf)
  (refine sh_s ?_; (rfl))
theorem takes2 : Con Try.prog 107 [.int .i64 2] (undefs [.int .i64 2]) (.int .i64 1) := by
  refine Con.ev 7 T_ok mix Try.func107 rfl rfl rfl rfl [.tmp 2] rfl ?_
  conv => whnf
  iterate 2 (refine rq_s (by (rfl)) ?_; conv => whnf)
  (refine rq_s (by ((simp only [decide_eq_true_eq, List.length_map, mkS_len, setRow_len]; done))) ?_; conv => whnf)
  (refine rq_s (by (rfl)) ?_; conv => whnf)
  (refine row_s (by (rfl)) ?_; conv => whnf)
  (refine rq_s (by (rfl)) ?_; conv => whnf)
  (refine sh_s ?_; (rfl))
theorem takes3 : Con Try.prog 107 [.int .i64 3] (undefs [.int .i64 3]) (.int .i64 0) := by
  refine Con.ev 7 T_ok mix Try.func107 rfl rfl rfl rfl [.tmp 2] rfl ?_
  conv => whnf
  iterate 2 (refine rq_s (by (rfl)) ?_; conv => whnf)
  (refine rq_s (by ((simp only [decide_eq_true_eq, List.length_map, mkS_len, setRow_len]; done))) ?_; conv => whnf)
  (refine rq_s (by (rfl)) ?_; conv => whnf)
  (refine row_s (by (rfl)) ?_; conv => whnf)
  (refine rq_s (by (rfl)) ?_; conv => whnf)
  (refine sh_s ?_; (rfl))
def doF (h : Hst) (a b : Int) : Nat → Hst × Int × Int
  | 0 => if inR b 0 7 = false then (h, 0, -9) else ({ h with ds := h.ds ++ [⟨0, b, 0, h.st.getD b.toNat 0⟩] }, h.st.getD b.toNat 0, 0)
  | 1 => if inR b 0 7 = false then (h, 0, -9) else ({ h with st := h.st.set b.toNat a, ds := h.ds ++ [⟨1, b, a, 0⟩] }, 0, 0)
  | 2 => ({ h with q := h.q.drop 1, ds := h.ds ++ [⟨2, b, 0, h.q.getD 0 0⟩] }, h.q.getD 0 0, 0)
  | _ => ({ h with ds := h.ds ++ [⟨3, 0, 0, h.tk⟩] }, h.tk, 0)

theorem do3 (h : Hst) (hs : smallHost h) (a b : Int) (hd : h.ds.length ≤ 40) : Con Try.prog 108 [hstV h, .int .i64 3, .int .i64 a, .int .i64 b] (undefs [hstV h, .int .i64 3, .int .i64 a, .int .i64 b]) (.tup [hstO (doF h a b 3).1, .int .i64 (doF h a b 3).2.1, .int .i64 (doF h a b 3).2.2]) := by
  refine Con.ev 75 T_ok mix Try.func108 rfl rfl rfl rfl [.cell 8 27, .tmp 9, .tmp 10] rfl ?_
  conv => whnf
  iterate 7 (refine rq_s (by (rfl)) ?_; conv => whnf)
  (refine lend_s ?_; conv => whnf)
  iterate 4 (refine rows_s (by (rfl)) ?_; conv => whnf)
  (refine call_s (c56 _ hs) ?_; conv => whnf)
  iterate 5 (refine fac_s (fun hf => ?_); conv => whnf)
  iterate 3 (refine br_f rfl ?_; conv => whnf)
  iterate 4 (refine rq_s (by (rfl)) ?_; conv => whnf)
  (refine rq_s (by ((simp only [decide_eq_true_eq, List.length_map, mkS_len, setRow_len]; done))) ?_; conv => whnf)
  iterate 2 (refine rq_s (by (rfl)) ?_; conv => whnf)
  (refine rq_s (by ((simp only [decide_eq_true_eq, List.length_map, mkS_len, setRow_len]; done))) ?_; conv => whnf)
  (refine rq_s (by (((simp [maxBytes, subA]; omega)))) ?_; conv => whnf)
  (refine app0_s ?_; conv => whnf)
  (refine rq_s (by (rfl)) ?_; conv => whnf)
  iterate 2 (refine ChkS.mk (by kernel_rfl) ?_; conv => whnf)
  (refine rq_s (by (rfl)) ?_; conv => whnf)
  iterate 5 (refine ChkS.mk (by kernel_rfl) ?_; conv => whnf)
  (refine rq_s (by (rfl)) ?_; conv => whnf)
  (refine rq_s (by ((simp only [decide_eq_true_eq, List.length_map, mkS_len, setRow_len]; done))) ?_; conv => whnf)
  (refine rq_s (by (rfl)) ?_; conv => whnf)
  (refine rq_s (by ((simp only [decide_eq_true_eq, List.length_map, mkS_len, setRow_len]; done))) ?_; conv => whnf)
  (refine rq_s (by (rfl)) ?_; conv => whnf)
  (refine rq_s (by ((simp only [decide_eq_true_eq, List.length_map, mkS_len, setRow_len]; done))) ?_; conv => whnf)
  iterate 2 (refine rq_s (by (rfl)) ?_; conv => whnf)
  (refine rq_s (by ((simp only [decide_eq_true_eq, List.length_map, mkS_len, setRow_len]; done))) ?_; conv => whnf)
  iterate 3 (refine rq_s (by (rfl)) ?_; conv => whnf)
  iterate 3 (refine rows_s (by ((refine sub_all ?_; simp [List.length_map, mkS_len, setRow_len]; done))) ?_; conv => whnf)
  (refine rows_s (by (rfl)) ?_; conv => whnf)
  (focus (refine sh_s ?_; (first | rfl | (simp [doF, hstO, hstC, ownI, ownD, ownB, intR, dealR, subA, List.take_of_length_le]; done))))
theorem do2 (h : Hst) (hs : smallHost h) (a b : Int) (hd : h.ds.length ≤ 40) : Con Try.prog 108 [hstV h, .int .i64 2, .int .i64 a, .int .i64 b] (undefs [hstV h, .int .i64 2, .int .i64 a, .int .i64 b]) (.tup [hstO (doF h a b 2).1, .int .i64 (doF h a b 2).2.1, .int .i64 (doF h a b 2).2.2]) := by
  refine Con.ev 75 T_ok mix Try.func108 rfl rfl rfl rfl [.cell 8 27, .tmp 9, .tmp 10] rfl ?_
  conv => whnf
  iterate 7 (refine rq_s (by (rfl)) ?_; conv => whnf)
  (refine lend_s ?_; conv => whnf)
  iterate 4 (refine rows_s (by (rfl)) ?_; conv => whnf)
  (refine call_s (c56 _ hs) ?_; conv => whnf)
  iterate 5 (refine fac_s (fun hf => ?_); conv => whnf)
  iterate 2 (refine br_f rfl ?_; conv => whnf)
  (refine br_t rfl ?_; conv => whnf)
  iterate 2 (refine rq_s (by (rfl)) ?_; conv => whnf)
  (refine br_s (fun hb => ?_) (fun hb => ?_) <;> (try simp only [beq_iff_eq, bne_iff_ne, ne_eq, decide_eq_true_eq, decide_eq_false_iff_not, Int.not_lt, Int.not_le, Bool.false_eq_true, if_false, if_true, beq_eq_false_iff_ne, bne_eq_false_iff_eq, Bool.not_eq_true', Bool.not_eq_false', Int.ofNat_lt, Int.ofNat_le, Int.ofNat_inj, List.length_map, List.length_nil, List.length_cons] at hb) <;> conv => whnf)
  iterate 2 (refine rq_s (by (rfl)) ?_; conv => whnf)
  (refine rq_s (by ((simp only [decide_eq_true_eq, List.length_map, mkS_len, setRow_len]; done))) ?_; conv => whnf)
  (refine rq_s (by ((refine and_s rfl ?_; simp only [decide_eq_true_eq, List.length_map]; omega))) ?_; conv => whnf)
  (refine row_s (by ((try simp only [Int.toNat_natCast]); exact row_map intR _ _ _ default (by first | omega | (simp; omega) | (have i1 := inR_t (by assumption); omega)))) ?_; conv => whnf)
  iterate 3 (refine rq_s (by (rfl)) ?_; conv => whnf)
  (refine rq_s (by ((simp only [Bool.and_eq_true, decide_eq_true_eq, List.length_map]; omega))) ?_; conv => whnf)
  (refine rq_s (by ((simp only [decide_eq_true_eq, List.length_map, mkS_len, setRow_len]; done))) ?_; conv => whnf)
  iterate 4 (refine rq_s (by (rfl)) ?_; conv => whnf)
  (refine rq_s (by ((simp only [decide_eq_true_eq, List.length_map, mkS_len, setRow_len]; done))) ?_; conv => whnf)
  iterate 2 (refine rq_s (by (rfl)) ?_; conv => whnf)
  (refine rq_s (by ((simp only [decide_eq_true_eq, List.length_map, mkS_len, setRow_len]; done))) ?_; conv => whnf)
  (refine rq_s (by (((simp [maxBytes, subA]; omega)))) ?_; conv => whnf)
  (refine app0_s ?_; conv => whnf)
  (refine rq_s (by (rfl)) ?_; conv => whnf)
  iterate 2 (refine ChkS.mk (by kernel_rfl) ?_; conv => whnf)
  (refine rq_s (by (rfl)) ?_; conv => whnf)
  iterate 5 (refine ChkS.mk (by kernel_rfl) ?_; conv => whnf)
  (refine rq_s (by (rfl)) ?_; conv => whnf)
  (refine rq_s (by ((simp only [decide_eq_true_eq, List.length_map, mkS_len, setRow_len]; done))) ?_; conv => whnf)
  (refine rq_s (by (rfl)) ?_; conv => whnf)
  (refine rq_s (by ((simp only [decide_eq_true_eq, List.length_map, mkS_len, setRow_len]; done))) ?_; conv => whnf)
  (refine rq_s (by (rfl)) ?_; conv => whnf)
  (refine rq_s (by ((simp only [decide_eq_true_eq, List.length_map, mkS_len, setRow_len]; done))) ?_; conv => whnf)
  iterate 2 (refine rq_s (by (rfl)) ?_; conv => whnf)
  (refine rq_s (by ((simp only [decide_eq_true_eq, List.length_map, mkS_len, setRow_len]; done))) ?_; conv => whnf)
  iterate 3 (refine rq_s (by (rfl)) ?_; conv => whnf)
  iterate 3 (refine rows_s (by ((refine sub_all ?_; simp [List.length_map, mkS_len, setRow_len]; done))) ?_; conv => whnf)
  (refine rows_s (by (rfl)) ?_; conv => whnf)
  (focus (refine sh_s ?_; (first | rfl | (simp [doF, hstO, hstC, ownI, ownD, ownB, intR, dealR, subA, List.take_of_length_le]; done))))
  iterate 2 (refine rq_s (by (rfl)) ?_; conv => whnf)
  (refine rq_s (by ((simp only [decide_eq_true_eq, List.length_map, mkS_len, setRow_len]; done))) ?_; conv => whnf)
  iterate 2 (refine rq_s (by (rfl)) ?_; conv => whnf)
  (refine rq_s (by ((simp only [decide_eq_true_eq, List.length_map, mkS_len, setRow_len]; done))) ?_; conv => whnf)
  (refine rq_s (by (((simp [maxBytes, subA]; omega)))) ?_; conv => whnf)
  (refine app0_s ?_; conv => whnf)
  (refine rq_s (by (rfl)) ?_; conv => whnf)
  iterate 2 (refine ChkS.mk (by kernel_rfl) ?_; conv => whnf)
  (refine rq_s (by (rfl)) ?_; conv => whnf)
  iterate 5 (refine ChkS.mk (by kernel_rfl) ?_; conv => whnf)
  (refine rq_s (by (rfl)) ?_; conv => whnf)
  (refine rq_s (by ((simp only [decide_eq_true_eq, List.length_map, mkS_len, setRow_len]; done))) ?_; conv => whnf)
  (refine rq_s (by (rfl)) ?_; conv => whnf)
  (refine rq_s (by ((simp only [decide_eq_true_eq, List.length_map, mkS_len, setRow_len]; done))) ?_; conv => whnf)
  (refine rq_s (by (rfl)) ?_; conv => whnf)
  (refine rq_s (by ((simp only [decide_eq_true_eq, List.length_map, mkS_len, setRow_len]; done))) ?_; conv => whnf)
  iterate 2 (refine rq_s (by (rfl)) ?_; conv => whnf)
  (refine rq_s (by ((simp only [decide_eq_true_eq, List.length_map, mkS_len, setRow_len]; done))) ?_; conv => whnf)
  iterate 3 (refine rq_s (by (rfl)) ?_; conv => whnf)
  iterate 3 (refine rows_s (by ((refine sub_all ?_; simp [List.length_map, mkS_len, setRow_len]; done))) ?_; conv => whnf)
  (refine rows_s (by (rfl)) ?_; conv => whnf)
  rotate_left
  · have q0 : h.q = [] := List.length_eq_zero_iff.1 (by omega)
    exact ⟨by simp [doF, hstO, hstC, ownI, ownD, ownB, intR, dealR, subA, List.take_of_length_le, q0]; exact Sh.refl _⟩
theorem do0 (h : Hst) (hs : smallHost h) (a b : Int) (hst : h.st.length = 8) (hd : h.ds.length ≤ 40) : Con Try.prog 108 [hstV h, .int .i64 0, .int .i64 a, .int .i64 b] (undefs [hstV h, .int .i64 0, .int .i64 a, .int .i64 b]) (.tup [hstO (doF h a b 0).1, .int .i64 (doF h a b 0).2.1, .int .i64 (doF h a b 0).2.2]) := by
  refine Con.ev 75 T_ok mix Try.func108 rfl rfl rfl rfl [.cell 8 27, .tmp 9, .tmp 10] rfl ?_
  conv => whnf
  iterate 7 (refine rq_s (by (rfl)) ?_; conv => whnf)
  (refine lend_s ?_; conv => whnf)
  iterate 4 (refine rows_s (by (rfl)) ?_; conv => whnf)
  (refine call_s (c56 _ hs) ?_; conv => whnf)
  iterate 5 (refine fac_s (fun hf => ?_); conv => whnf)
  (refine br_t rfl ?_; conv => whnf)
  iterate 3 (refine rq_s (by (rfl)) ?_; conv => whnf)
  (refine lend_s ?_; conv => whnf)
  (refine call_s (c54 ..) ?_; conv => whnf)
  (refine br_s (fun hb => ?_) (fun hb => ?_) <;> (try simp only [beq_iff_eq, bne_iff_ne, ne_eq, decide_eq_true_eq, decide_eq_false_iff_not, Int.not_lt, Int.not_le, Bool.false_eq_true, if_false, if_true, beq_eq_false_iff_ne, bne_eq_false_iff_eq, Bool.not_eq_true', Bool.not_eq_false', Int.ofNat_lt, Int.ofNat_le, Int.ofNat_inj, List.length_map, List.length_nil, List.length_cons] at hb) <;> conv => whnf)
  (refine rq_s (by (rfl)) ?_; conv => whnf)
  (refine rq_s (by ((simp only [decide_eq_true_eq, List.length_map, mkS_len, setRow_len]; done))) ?_; conv => whnf)
  (refine rq_s (by (rfl)) ?_; conv => whnf)
  (refine rq_s (by ((simp only [decide_eq_true_eq, List.length_map, mkS_len, setRow_len]; done))) ?_; conv => whnf)
  (refine rq_s (by (rfl)) ?_; conv => whnf)
  (refine rq_s (by ((simp only [decide_eq_true_eq, List.length_map, mkS_len, setRow_len]; done))) ?_; conv => whnf)
  iterate 2 (refine rq_s (by (rfl)) ?_; conv => whnf)
  (refine rq_s (by ((simp only [decide_eq_true_eq, List.length_map, mkS_len, setRow_len]; done))) ?_; conv => whnf)
  iterate 3 (refine rq_s (by (rfl)) ?_; conv => whnf)
  iterate 4 (refine rows_s (by ((refine sub_all ?_; simp [List.length_map, mkS_len, setRow_len]; done))) ?_; conv => whnf)
  (focus (refine sh_s ?_; (first | rfl | (simp [doF, hstO, hstC, ownI, ownD, ownB, intR, dealR, subA, List.take_of_length_le, *]; done))))
  iterate 2 (refine rq_s (by (rfl)) ?_; conv => whnf)
  (refine rq_s (by ((first | (simp [maxBytes, subA]; omega) | (have i1 := inR_t (by assumption); simp [maxBytes, subA]; omega)))) ?_; conv => whnf)
  (refine rq_s (by ((simp only [decide_eq_true_eq, List.length_map, mkS_len, setRow_len]; done))) ?_; conv => whnf)
  (refine rq_s (by ((first | (simp [maxBytes, subA]; omega) | (have i1 := inR_t (by assumption); simp [maxBytes, subA]; omega)))) ?_; conv => whnf)
  (refine row_s (by ((try simp only [Int.toNat_natCast]); exact row_map intR _ _ _ default (by first | omega | (simp; omega) | (have i1 := inR_t (by assumption); omega)))) ?_; conv => whnf)
  iterate 3 (refine rq_s (by (rfl)) ?_; conv => whnf)
  (refine rq_s (by ((simp only [decide_eq_true_eq, List.length_map, mkS_len, setRow_len]; done))) ?_; conv => whnf)
  iterate 2 (refine rq_s (by (rfl)) ?_; conv => whnf)
  (refine rq_s (by ((simp only [decide_eq_true_eq, List.length_map, mkS_len, setRow_len]; done))) ?_; conv => whnf)
  (refine rq_s (by ((first | (simp [maxBytes, subA]; omega) | (have i1 := inR_t (by assumption); simp [maxBytes, subA]; omega)))) ?_; conv => whnf)
  (refine app0_s ?_; conv => whnf)
  (refine rq_s (by (rfl)) ?_; conv => whnf)
  iterate 2 (refine ChkS.mk (by kernel_rfl) ?_; conv => whnf)
  (refine rq_s (by (rfl)) ?_; conv => whnf)
  iterate 5 (refine ChkS.mk (by kernel_rfl) ?_; conv => whnf)
  (refine rq_s (by (rfl)) ?_; conv => whnf)
  (refine rq_s (by ((simp only [decide_eq_true_eq, List.length_map, mkS_len, setRow_len]; done))) ?_; conv => whnf)
  (refine rq_s (by (rfl)) ?_; conv => whnf)
  (refine rq_s (by ((simp only [decide_eq_true_eq, List.length_map, mkS_len, setRow_len]; done))) ?_; conv => whnf)
  (refine rq_s (by (rfl)) ?_; conv => whnf)
  (refine rq_s (by ((simp only [decide_eq_true_eq, List.length_map, mkS_len, setRow_len]; done))) ?_; conv => whnf)
  iterate 2 (refine rq_s (by (rfl)) ?_; conv => whnf)
  (refine rq_s (by ((simp only [decide_eq_true_eq, List.length_map, mkS_len, setRow_len]; done))) ?_; conv => whnf)
  iterate 3 (refine rq_s (by (rfl)) ?_; conv => whnf)
  iterate 3 (refine rows_s (by ((refine sub_all ?_; simp [List.length_map, mkS_len, setRow_len]; done))) ?_; conv => whnf)
  (refine rows_s (by (rfl)) ?_; conv => whnf)
  (focus (refine sh_s ?_; (first | rfl | (simp [doF, hstO, hstC, ownI, ownD, ownB, intR, dealR, subA, List.take_of_length_le, *]; done))))
theorem do1 (h : Hst) (hs : smallHost h) (a b : Int) (hst : h.st.length = 8) (hd : h.ds.length ≤ 40) : Con Try.prog 108 [hstV h, .int .i64 1, .int .i64 a, .int .i64 b] (undefs [hstV h, .int .i64 1, .int .i64 a, .int .i64 b]) (.tup [hstO (doF h a b 1).1, .int .i64 (doF h a b 1).2.1, .int .i64 (doF h a b 1).2.2]) := by
  have m1 : inR b 0 7 = true → setRow (h.st.map intR) b.toNat 0 [.int .i64 0] [.int .i64 a] = (h.st.map intR).set b.toNat [.int .i64 a] := fun e => by
    have e := inR_t e
    rw [setRow_int _ _ _ _ (by omega), List.map_set]
    rfl
  refine Con.ev 75 T_ok mix Try.func108 rfl rfl rfl rfl [.cell 8 27, .tmp 9, .tmp 10] rfl ?_
  conv => whnf
  iterate 7 (refine rq_s (by (rfl)) ?_; conv => whnf)
  (refine lend_s ?_; conv => whnf)
  iterate 4 (refine rows_s (by (rfl)) ?_; conv => whnf)
  (refine call_s (c56 _ hs) ?_; conv => whnf)
  iterate 5 (refine fac_s (fun hf => ?_); conv => whnf)
  (refine br_f rfl ?_; conv => whnf)
  (refine br_t rfl ?_; conv => whnf)
  iterate 3 (refine rq_s (by (rfl)) ?_; conv => whnf)
  (refine lend_s ?_; conv => whnf)
  (refine call_s (c54 ..) ?_; conv => whnf)
  (refine br_s (fun hb => ?_) (fun hb => ?_) <;> (try simp only [beq_iff_eq, bne_iff_ne, ne_eq, decide_eq_true_eq, decide_eq_false_iff_not, Int.not_lt, Int.not_le, Bool.false_eq_true, if_false, if_true, beq_eq_false_iff_ne, bne_eq_false_iff_eq, Bool.not_eq_true', Bool.not_eq_false', Int.ofNat_lt, Int.ofNat_le, Int.ofNat_inj, List.length_map, List.length_nil, List.length_cons] at hb) <;> conv => whnf)
  (refine rq_s (by (rfl)) ?_; conv => whnf)
  (refine rq_s (by ((simp only [decide_eq_true_eq, List.length_map, mkS_len, setRow_len]; done))) ?_; conv => whnf)
  (refine rq_s (by (rfl)) ?_; conv => whnf)
  (refine rq_s (by ((simp only [decide_eq_true_eq, List.length_map, mkS_len, setRow_len]; done))) ?_; conv => whnf)
  (refine rq_s (by (rfl)) ?_; conv => whnf)
  (refine rq_s (by ((simp only [decide_eq_true_eq, List.length_map, mkS_len, setRow_len]; done))) ?_; conv => whnf)
  iterate 2 (refine rq_s (by (rfl)) ?_; conv => whnf)
  (refine rq_s (by ((simp only [decide_eq_true_eq, List.length_map, mkS_len, setRow_len]; done))) ?_; conv => whnf)
  iterate 3 (refine rq_s (by (rfl)) ?_; conv => whnf)
  iterate 4 (refine rows_s (by ((refine sub_all ?_; simp [List.length_map, mkS_len, setRow_len]; done))) ?_; conv => whnf)
  (focus (refine sh_s ?_; (first | rfl | (simp [doF, hstO, hstC, ownI, ownD, ownB, intR, dealR, subA, List.take_of_length_le, *]; done))))
  iterate 3 (refine rq_s (by (rfl)) ?_; conv => whnf)
  (refine rq_s (by ((first | (simp [maxBytes, subA]; omega) | (have i1 := inR_t (by assumption); simp [maxBytes, subA]; omega)))) ?_; conv => whnf)
  (refine rq_s (by ((simp only [decide_eq_true_eq, List.length_map, mkS_len, setRow_len]; done))) ?_; conv => whnf)
  (refine rq_s (by ((first | (simp [maxBytes, subA]; omega) | (have i1 := inR_t (by assumption); simp [maxBytes, subA]; omega)))) ?_; conv => whnf)
  (refine rows_s (by (rfl)) ?_; conv => whnf)
  iterate 2 (refine rq_s (by (rfl)) ?_; conv => whnf)
  (refine rq_s (by ((simp only [decide_eq_true_eq, List.length_map, mkS_len, setRow_len]; done))) ?_; conv => whnf)
  iterate 2 (refine rq_s (by (rfl)) ?_; conv => whnf)
  (refine rq_s (by ((simp only [decide_eq_true_eq, List.length_map, mkS_len, setRow_len]; done))) ?_; conv => whnf)
  (refine rq_s (by ((first | (simp [maxBytes, subA]; omega) | (have i1 := inR_t (by assumption); simp [maxBytes, subA]; omega)))) ?_; conv => whnf)
  (refine app0_s ?_; conv => whnf)
  (refine rq_s (by (rfl)) ?_; conv => whnf)
  iterate 2 (refine ChkS.mk (by kernel_rfl) ?_; conv => whnf)
  (refine rq_s (by (rfl)) ?_; conv => whnf)
  iterate 5 (refine ChkS.mk (by kernel_rfl) ?_; conv => whnf)
  (refine rq_s (by (rfl)) ?_; conv => whnf)
  (refine rq_s (by ((simp only [decide_eq_true_eq, List.length_map, mkS_len, setRow_len]; done))) ?_; conv => whnf)
  (refine rq_s (by (rfl)) ?_; conv => whnf)
  (refine rq_s (by ((simp only [decide_eq_true_eq, List.length_map, mkS_len, setRow_len]; done))) ?_; conv => whnf)
  (refine rq_s (by (rfl)) ?_; conv => whnf)
  (refine rq_s (by ((simp only [decide_eq_true_eq, List.length_map, mkS_len, setRow_len]; done))) ?_; conv => whnf)
  iterate 2 (refine rq_s (by (rfl)) ?_; conv => whnf)
  (refine rq_s (by ((simp only [decide_eq_true_eq, List.length_map, mkS_len, setRow_len]; done))) ?_; conv => whnf)
  iterate 3 (refine rq_s (by (rfl)) ?_; conv => whnf)
  iterate 3 (refine rows_s (by ((refine sub_all ?_; simp [List.length_map, mkS_len, setRow_len]; done))) ?_; conv => whnf)
  (refine rows_s (by (rfl)) ?_; conv => whnf)
  (focus (refine sh_s ?_; (first | rfl | (simp [doF, hstO, hstC, ownI, ownD, ownB, intR, dealR, subA, List.take_of_length_le, *]; done))))
end H5

/- HostCall: the reference. -/
set_option linter.unusedVariables false
set_option linter.unusedSimpArgs false
set_option maxRecDepth 100000
open Go Go.Abs Go.Proofs V1 H1 H2 H3 H4 H5
namespace H6

section
variable {h : Hst} {d : Dat} {c : Nat}
theorem cf_1 (a : h.gr.getD c false = false) : callF h d c = (h, d, -100) := callF_f (call_1 a) (by decide)
theorem cf_2 (a : h.gr.getD c false = true) (b : h.ds.length = 40) : callF h d c = (h, d, -8) := callF_f (call_2 a b) (by decide)
theorem cf0_4 (a : h.gr.getD 0 false = true) (b : ¬ h.ds.length = 40) (e : d.st.length < 1) : callF h d 0 = (h, d, -4) := callF_f (call0_4 a b e) (by decide)
theorem cf1_4 (a : h.gr.getD 1 false = true) (b : ¬ h.ds.length = 40) (e : d.st.length < 2) : callF h d 1 = (h, d, -4) := callF_f (call1_4 a b e) (by decide)
theorem cf2_4 (a : h.gr.getD 2 false = true) (b : ¬ h.ds.length = 40) (e : d.st.length < 1) : callF h d 2 = (h, d, -4) := callF_f (call2_4 a b e) (by decide)
theorem cf3_3 (a : h.gr.getD 3 false = true) (b : ¬ h.ds.length = 40) (e : d.st.length = 32) : callF h d 3 = (h, d, -3) := callF_f (call3_3 a b e) (by decide)
theorem k0 (x : Int) (a : h.gr.getD 0 false = true) (b : ¬ h.ds.length = 40) (e : ¬ d.st.length < 1) (h1 : d.st.length ≤ 32) : callF h d 0 = if (doF h x (topF d) 0).2.2 = 0 then ((doF h x (topF d) 0).1, (putF d 1 [(doF h x (topF d) 0).2.1]).1, 0) else (h, d, (doF h x (topF d) 0).2.2) := by
  cases hin : inR (topF d) 0 7
  · rw [callF_f (call0_9 a b e hin) (by decide)]
    simp [doF, hin]
  · rw [callF_t (call0_0 a b e hin) rfl, putF_f (by simp; omega)]
    simp [doF, hin]
theorem k1 (a : h.gr.getD 1 false = true) (b : ¬ h.ds.length = 40) (e : ¬ d.st.length < 2) (h1 : d.st.length ≤ 32) : callF h d 1 = if (doF h (secF d) (topF d) 1).2.2 = 0 then ((doF h (secF d) (topF d) 1).1, (putF d 2 []).1, 0) else (h, d, (doF h (secF d) (topF d) 1).2.2) := by
  cases hin : inR (topF d) 0 7
  · rw [callF_f (call1_9 a b e hin) (by decide)]
    simp [doF, hin]
  · rw [callF_t (call1_0 a b e hin) rfl, putF_f (by simp; omega)]
    simp [doF, hin]
theorem k2 (x : Int) (a : h.gr.getD 2 false = true) (b : ¬ h.ds.length = 40) (e : ¬ d.st.length < 1) (h1 : d.st.length ≤ 32) : callF h d 2 = ((doF h x (topF d) 2).1, (putF d 1 [(doF h x (topF d) 2).2.1]).1, 0) := by
  rw [callF_t (call2_0 a b e) rfl, putF_f (by simp; omega)]
  simp [doF]
theorem k3 (x y : Int) (a : h.gr.getD 3 false = true) (b : ¬ h.ds.length = 40) (e : ¬ d.st.length = 32) (h1 : d.st.length ≤ 32) : callF h d 3 = ((doF h x y 3).1, (putF d 0 [(doF h x y 3).2.1]).1, 0) := by
  rw [callF_t (call3_0 a b e) rfl, putF_f (by simp; omega)]
  simp [doF]
theorem row_top (z : List AV) (e : 1 ≤ d.st.length) (h1 : d.st.length ≤ 32) : rowA (d.st.map intR) (Int.toNat (IntKind.i64.wrap ((d.st.length : Int) - 1))) z = [.int .i64 (topF d)] := by
  rw [wrap64 (by omega) (by omega), show ((d.st.length : Int) - 1).toNat = d.st.length - 1 by omega]
  exact row_int _ _ _ (by omega)
theorem row_sec (z : List AV) (e : 2 ≤ d.st.length) (h1 : d.st.length ≤ 32) : rowA (d.st.map intR) (Int.toNat (IntKind.i64.wrap ((d.st.length : Int) - 2))) z = [.int .i64 (secF d)] := by
  rw [wrap64 (by omega) (by omega), show ((d.st.length : Int) - 2).toNat = d.st.length - 2 by omega]
  exact row_int _ _ _ (by omega)
end

theorem hst_sh (h : Hst) : Shs [.own 0 [.bool false] (h.gr.map boolR), .own 0 [.int .i64 0] (h.st.map intR), .own 0 [.int .i64 0] (h.q.map intR), .int .i64 h.tk, .own 0 [.int .i64 0, .int .i64 0, .int .i64 0, .int .i64 0] (h.ds.map dealR)] (hstR h) := ⟨Sh.own_ro (by omega) _ _, Sh.own_ro (by omega) _ _, Sh.own_ro (by omega) _ _, Sh.refl _, Sh.own_ro (by omega) _ _, trivial⟩
theorem done_sh (h : Hst) (d : Dat) (n : Int) : Sh (.tup [hstO h, datV d, .int .i64 n]) (.tup [hstV h, datV d, .int .i64 n]) := Sh.tup ⟨Sh.agg (hst_sh h), Sh.refl _, Sh.refl _, trivial⟩
set_option maxHeartbeats 2000000 in
theorem call0 (h : Hst) (d : Dat) (hh : HostOk h) (hd : DataOk d) : Con Try.prog 55 [hstV h, datV d, .int .i64 0] (undefs [hstV h, datV d, .int .i64 0]) (.tup [hstV (callF h d 0).1, datV (callF h d 0).2.1, .int .i64 (callF h d 0).2.2]) := by
  have s1 := small_host hh
  have g1 := hh.gr
  have g2 := hd.st
  refine Con.ev 96 T_ok mix Try.func55 rfl rfl rfl rfl [.cell 6 27, .cell 7 30, .tmp 8] rfl ?_
  conv => whnf
  iterate 5 (refine rq_s (by (rfl)) ?_; conv => whnf)
  (refine rq_s (by ((refine and_s rfl ?_; simp only [decide_eq_true_eq, List.length_map]; omega))) ?_; conv => whnf)
  (refine row_s (by ((try simp only [Int.toNat_natCast]); exact row_map boolR _ _ _ default (by first | omega | (simp; omega)))) ?_; conv => whnf)
  (refine br_s (fun hb => ?_) (fun hb => ?_) <;> (try simp only [beq_iff_eq, bne_iff_ne, ne_eq, decide_eq_true_eq, decide_eq_false_iff_not, Int.not_lt, Int.not_le, Bool.false_eq_true, if_false, if_true, beq_eq_false_iff_ne, bne_eq_false_iff_eq, Bool.not_eq_true', Bool.not_eq_false', Int.ofNat_lt, Int.ofNat_le, Int.ofNat_inj, List.length_map, List.length_nil, List.length_cons] at hb) <;> conv => whnf)
  iterate 6 (refine ChkS.mk (by kernel_rfl) ?_; conv => whnf)
  iterate 14 (refine rq_s (by (rfl)) ?_; conv => whnf)
  iterate 7 (refine rows_s (by (rfl)) ?_; conv => whnf)
  rotate_left
  (refine rq_s (by (rfl)) ?_; conv => whnf)
  (refine br_s (fun hb => ?_) (fun hb => ?_) <;> (try simp only [beq_iff_eq, bne_iff_ne, ne_eq, decide_eq_true_eq, decide_eq_false_iff_not, Int.not_lt, Int.not_le, Bool.false_eq_true, if_false, if_true, beq_eq_false_iff_ne, bne_eq_false_iff_eq, Bool.not_eq_true', Bool.not_eq_false', Int.ofNat_lt, Int.ofNat_le, Int.ofNat_inj, List.length_map, List.length_nil, List.length_cons] at hb) <;> conv => whnf)
  iterate 6 (refine ChkS.mk (by kernel_rfl) ?_; conv => whnf)
  iterate 14 (refine rq_s (by (rfl)) ?_; conv => whnf)
  iterate 7 (refine rows_s (by (rfl)) ?_; conv => whnf)
  rotate_left
  (refine rq_s (by (rfl)) ?_; conv => whnf)
  (refine lend_s ?_; conv => whnf)
  (refine call_s (takes0 ..) ?_; conv => whnf)
  (refine fac_s (fun hf => ?_); conv => whnf)
  (refine br_s (fun hb => ?_) (fun hb => ?_) <;> (try simp only [beq_iff_eq, bne_iff_ne, ne_eq, decide_eq_true_eq, decide_eq_false_iff_not, Int.not_lt, Int.not_le, Bool.false_eq_true, if_false, if_true, beq_eq_false_iff_ne, bne_eq_false_iff_eq, Bool.not_eq_true', Bool.not_eq_false', Int.ofNat_lt, Int.ofNat_le, Int.ofNat_inj, List.length_map, List.length_nil, List.length_cons] at hb) <;> conv => whnf)
  iterate 6 (refine ChkS.mk (by kernel_rfl) ?_; conv => whnf)
  iterate 14 (refine rq_s (by (rfl)) ?_; conv => whnf)
  iterate 7 (refine rows_s (by (rfl)) ?_; conv => whnf)
  rotate_left
  iterate 4 (refine br_f rfl ?_; conv => whnf)
  (refine br_s (fun hb => ?_) (fun hb => ?_) <;> (try simp only [beq_iff_eq, bne_iff_ne, ne_eq, decide_eq_true_eq, decide_eq_false_iff_not, Int.not_lt, Int.not_le, Bool.false_eq_true, if_false, if_true, beq_eq_false_iff_ne, bne_eq_false_iff_eq, Bool.not_eq_true', Bool.not_eq_false', Int.ofNat_lt, Int.ofNat_le, Int.ofNat_inj, List.length_map, List.length_nil, List.length_cons] at hb) <;> conv => whnf)
  (refine rq_s (by (rfl)) ?_; conv => whnf)
  iterate 2 (refine rq_s (by (((first | (simp [maxBytes, subA]; done) | (refine and_s rfl ?_; simp only [decide_eq_true_eq, List.length_map]; rw [wrap64 (by omega) (by omega)]; omega) | (simp only [decide_eq_true_eq, Bool.and_eq_true, List.length_map]; rw [wrap64 (by omega) (by omega)]; omega) | (simp [maxBytes, subA]; omega))))) ?_; conv => whnf)
  (refine row_s (by ((try simp only [Nat.zero_add, List.length_map]); exact row_top _ (by omega) (by omega))) ?_; conv => whnf)
  (refine br_s (fun hb => ?_) (fun hb => ?_) <;> (try simp only [beq_iff_eq, bne_iff_ne, ne_eq, decide_eq_true_eq, decide_eq_false_iff_not, Int.not_lt, Int.not_le, Bool.false_eq_true, if_false, if_true, beq_eq_false_iff_ne, bne_eq_false_iff_eq, Bool.not_eq_true', Bool.not_eq_false', Int.ofNat_lt, Int.ofNat_le, Int.ofNat_inj, List.length_map, List.length_nil, List.length_cons] at hb) <;> conv => whnf)
  (refine rq_s (by (rfl)) ?_; conv => whnf)
  iterate 2 (refine rq_s (by (((first | (simp [maxBytes, subA]; done) | (refine and_s rfl ?_; simp only [decide_eq_true_eq, List.length_map]; rw [wrap64 (by omega) (by omega)]; omega) | (simp only [decide_eq_true_eq, Bool.and_eq_true, List.length_map]; rw [wrap64 (by omega) (by omega)]; omega) | (simp [maxBytes, subA]; omega))))) ?_; conv => whnf)
  (refine row_s (by ((try simp only [Nat.zero_add, List.length_map]); exact row_sec _ (by omega) (by omega))) ?_; conv => whnf)
  iterate 8 (refine rq_s (by (rfl)) ?_; conv => whnf)
  (refine lend_s ?_; conv => whnf)
  iterate 4 (refine rows_s (by (rfl)) ?_; conv => whnf)
  (refine call_s (do0 _ s1 _ _ hh.st hh.ds) ?_; conv => whnf)
  iterate 2 (refine fac_s (fun hf => ?_); conv => whnf)
  (refine br_s (fun hb => ?_) (fun hb => ?_) <;> (try simp only [beq_iff_eq, bne_iff_ne, ne_eq, decide_eq_true_eq, decide_eq_false_iff_not, Int.not_lt, Int.not_le, Bool.false_eq_true, if_false, if_true, beq_eq_false_iff_ne, bne_eq_false_iff_eq, Bool.not_eq_true', Bool.not_eq_false', Int.ofNat_lt, Int.ofNat_le, Int.ofNat_inj, List.length_map, List.length_nil, List.length_cons] at hb) <;> conv => whnf)
  iterate 7 (refine ChkS.mk (by kernel_rfl) ?_; conv => whnf)
  iterate 14 (refine rq_s (by (rfl)) ?_; conv => whnf)
  iterate 7 (refine rows_s (by (rfl)) ?_; conv => whnf)
  rotate_left
  (refine br_f rfl ?_; conv => whnf)
  iterate 3 (refine ChkS.mk (by kernel_rfl) ?_; conv => whnf)
  (refine rq_s (by (rfl)) ?_; conv => whnf)
  (refine call_s (takes0 ..) ?_; conv => whnf)
  iterate 2 (refine ChkS.mk (by kernel_rfl) ?_; conv => whnf)
  (refine rq_s (by (rfl)) ?_; conv => whnf)
  (refine ChkS.mk (by kernel_rfl) ?_; conv => whnf)
  iterate 7 (refine rq_s (by (rfl)) ?_; conv => whnf)
  (refine rq_s (by ((simp only [decide_eq_true_eq, List.length_map, mkS_len, setRow_len]; done))) ?_; conv => whnf)
  (refine rq_s (by (rfl)) ?_; conv => whnf)
  iterate 3 (refine rows_s (by (rfl)) ?_; conv => whnf)
  (refine rows_s (by ((refine sub_all ?_; simp [List.length_map, mkS_len, setRow_len]; done))) ?_; conv => whnf)
  (refine call_s (put _ _ [_] g2 (by first | omega | (dsimp only; omega) | (simp; omega)) (by first | omega | (dsimp only; omega) | (simp; omega)) (by simp)) ?_; conv => whnf)
  iterate 5 (refine ChkS.mk (by kernel_rfl) ?_; conv => whnf)
  iterate 2 (refine fac_s (fun hf => ?_); conv => whnf)
  iterate 6 (refine ChkS.mk (by kernel_rfl) ?_; conv => whnf)
  iterate 2 (refine rq_s (by (rfl)) ?_; conv => whnf)
  (refine rq_s (by ((simp only [decide_eq_true_eq, List.length_map, mkS_len, setRow_len]; done))) ?_; conv => whnf)
  (refine rq_s (by (rfl)) ?_; conv => whnf)
  (refine rq_s (by ((simp only [decide_eq_true_eq, List.length_map, mkS_len, setRow_len]; done))) ?_; conv => whnf)
  (refine rq_s (by (rfl)) ?_; conv => whnf)
  (refine rq_s (by ((simp only [decide_eq_true_eq, List.length_map, mkS_len, setRow_len]; done))) ?_; conv => whnf)
  iterate 2 (refine rq_s (by (rfl)) ?_; conv => whnf)
  (refine rq_s (by ((simp only [decide_eq_true_eq, List.length_map, mkS_len, setRow_len]; done))) ?_; conv => whnf)
  iterate 8 (refine rq_s (by (rfl)) ?_; conv => whnf)
  iterate 4 (refine rows_s (by ((refine sub_all ?_; simp [List.length_map, mkS_len, setRow_len]; done))) ?_; conv => whnf)
  iterate 3 (refine rows_s (by (rfl)) ?_; conv => whnf)
  rotate_left
  iterate 8 (refine rq_s (by (rfl)) ?_; conv => whnf)
  (refine lend_s ?_; conv => whnf)
  iterate 4 (refine rows_s (by (rfl)) ?_; conv => whnf)
  (refine call_s (do0 _ s1 _ _ hh.st hh.ds) ?_; conv => whnf)
  iterate 2 (refine fac_s (fun hf => ?_); conv => whnf)
  (refine br_s (fun hb => ?_) (fun hb => ?_) <;> (try simp only [beq_iff_eq, bne_iff_ne, ne_eq, decide_eq_true_eq, decide_eq_false_iff_not, Int.not_lt, Int.not_le, Bool.false_eq_true, if_false, if_true, beq_eq_false_iff_ne, bne_eq_false_iff_eq, Bool.not_eq_true', Bool.not_eq_false', Int.ofNat_lt, Int.ofNat_le, Int.ofNat_inj, List.length_map, List.length_nil, List.length_cons] at hb) <;> conv => whnf)
  iterate 7 (refine ChkS.mk (by kernel_rfl) ?_; conv => whnf)
  iterate 14 (refine rq_s (by (rfl)) ?_; conv => whnf)
  iterate 7 (refine rows_s (by (rfl)) ?_; conv => whnf)
  rotate_left
  (refine br_f rfl ?_; conv => whnf)
  iterate 3 (refine ChkS.mk (by kernel_rfl) ?_; conv => whnf)
  (refine rq_s (by (rfl)) ?_; conv => whnf)
  (refine call_s (takes0 ..) ?_; conv => whnf)
  iterate 2 (refine ChkS.mk (by kernel_rfl) ?_; conv => whnf)
  (refine rq_s (by (rfl)) ?_; conv => whnf)
  (refine ChkS.mk (by kernel_rfl) ?_; conv => whnf)
  iterate 7 (refine rq_s (by (rfl)) ?_; conv => whnf)
  (refine rq_s (by ((simp only [decide_eq_true_eq, List.length_map, mkS_len, setRow_len]; done))) ?_; conv => whnf)
  (refine rq_s (by (rfl)) ?_; conv => whnf)
  iterate 3 (refine rows_s (by (rfl)) ?_; conv => whnf)
  (refine rows_s (by ((refine sub_all ?_; simp [List.length_map, mkS_len, setRow_len]; done))) ?_; conv => whnf)
  (refine call_s (put _ _ [_] g2 (by first | omega | (dsimp only; omega) | (simp; omega)) (by first | omega | (dsimp only; omega) | (simp; omega)) (by simp)) ?_; conv => whnf)
  iterate 5 (refine ChkS.mk (by kernel_rfl) ?_; conv => whnf)
  iterate 2 (refine fac_s (fun hf => ?_); conv => whnf)
  iterate 6 (refine ChkS.mk (by kernel_rfl) ?_; conv => whnf)
  iterate 2 (refine rq_s (by (rfl)) ?_; conv => whnf)
  (refine rq_s (by ((simp only [decide_eq_true_eq, List.length_map, mkS_len, setRow_len]; done))) ?_; conv => whnf)
  (refine rq_s (by (rfl)) ?_; conv => whnf)
  (refine rq_s (by ((simp only [decide_eq_true_eq, List.length_map, mkS_len, setRow_len]; done))) ?_; conv => whnf)
  (refine rq_s (by (rfl)) ?_; conv => whnf)
  (refine rq_s (by ((simp only [decide_eq_true_eq, List.length_map, mkS_len, setRow_len]; done))) ?_; conv => whnf)
  iterate 2 (refine rq_s (by (rfl)) ?_; conv => whnf)
  (refine rq_s (by ((simp only [decide_eq_true_eq, List.length_map, mkS_len, setRow_len]; done))) ?_; conv => whnf)
  iterate 8 (refine rq_s (by (rfl)) ?_; conv => whnf)
  iterate 4 (refine rows_s (by ((refine sub_all ?_; simp [List.length_map, mkS_len, setRow_len]; done))) ?_; conv => whnf)
  iterate 3 (refine rows_s (by (rfl)) ?_; conv => whnf)
  rotate_left
  (refine br_s (fun hb => ?_) (fun hb => ?_) <;> (try simp only [beq_iff_eq, bne_iff_ne, ne_eq, decide_eq_true_eq, decide_eq_false_iff_not, Int.not_lt, Int.not_le, Bool.false_eq_true, if_false, if_true, beq_eq_false_iff_ne, bne_eq_false_iff_eq, Bool.not_eq_true', Bool.not_eq_false', Int.ofNat_lt, Int.ofNat_le, Int.ofNat_inj, List.length_map, List.length_nil, List.length_cons] at hb) <;> conv => whnf)
  (refine rq_s (by (rfl)) ?_; conv => whnf)
  iterate 2 (refine rq_s (by ((refine and_s rfl ?_; simp only [decide_eq_true_eq, List.length_map]; omega))) ?_; conv => whnf)
  (refine row_s (by ((try simp only [Nat.zero_add, List.length_map]); exact row_sec _ (by omega) (by omega))) ?_; conv => whnf)
  iterate 8 (refine rq_s (by (rfl)) ?_; conv => whnf)
  (refine lend_s ?_; conv => whnf)
  iterate 4 (refine rows_s (by (rfl)) ?_; conv => whnf)
  (refine call_s (do0 _ s1 _ _ hh.st hh.ds) ?_; conv => whnf)
  iterate 2 (refine fac_s (fun hf => ?_); conv => whnf)
  iterate 2 (refine br_f rfl ?_; conv => whnf)
  iterate 3 (refine ChkS.mk (by kernel_rfl) ?_; conv => whnf)
  (refine rq_s (by (rfl)) ?_; conv => whnf)
  (refine call_s (takes0 ..) ?_; conv => whnf)
  iterate 2 (refine ChkS.mk (by kernel_rfl) ?_; conv => whnf)
  (refine rq_s (by (rfl)) ?_; conv => whnf)
  (refine ChkS.mk (by kernel_rfl) ?_; conv => whnf)
  iterate 7 (refine rq_s (by (rfl)) ?_; conv => whnf)
  (refine rq_s (by ((simp only [decide_eq_true_eq, List.length_map, mkS_len, setRow_len]; done))) ?_; conv => whnf)
  (refine rq_s (by (rfl)) ?_; conv => whnf)
  iterate 3 (refine rows_s (by (rfl)) ?_; conv => whnf)
  (refine rows_s (by ((refine sub_all ?_; simp [List.length_map, mkS_len, setRow_len]; done))) ?_; conv => whnf)
  (refine call_s (put _ _ [_] g2 (by first | omega | (dsimp only; omega) | (simp; omega)) (by first | omega | (dsimp only; omega) | (simp; omega)) (by simp)) ?_; conv => whnf)
  iterate 5 (refine ChkS.mk (by kernel_rfl) ?_; conv => whnf)
  iterate 2 (refine fac_s (fun hf => ?_); conv => whnf)
  iterate 6 (refine ChkS.mk (by kernel_rfl) ?_; conv => whnf)
  iterate 2 (refine rq_s (by (rfl)) ?_; conv => whnf)
  (refine rq_s (by ((simp only [decide_eq_true_eq, List.length_map, mkS_len, setRow_len]; done))) ?_; conv => whnf)
  (refine rq_s (by (rfl)) ?_; conv => whnf)
  (refine rq_s (by ((simp only [decide_eq_true_eq, List.length_map, mkS_len, setRow_len]; done))) ?_; conv => whnf)
  (refine rq_s (by (rfl)) ?_; conv => whnf)
  (refine rq_s (by ((simp only [decide_eq_true_eq, List.length_map, mkS_len, setRow_len]; done))) ?_; conv => whnf)
  iterate 2 (refine rq_s (by (rfl)) ?_; conv => whnf)
  (refine rq_s (by ((simp only [decide_eq_true_eq, List.length_map, mkS_len, setRow_len]; done))) ?_; conv => whnf)
  iterate 8 (refine rq_s (by (rfl)) ?_; conv => whnf)
  iterate 4 (refine rows_s (by ((refine sub_all ?_; simp [List.length_map, mkS_len, setRow_len]; done))) ?_; conv => whnf)
  iterate 3 (refine rows_s (by (rfl)) ?_; conv => whnf)
  rotate_left
  iterate 8 (refine rq_s (by (rfl)) ?_; conv => whnf)
  (refine lend_s ?_; conv => whnf)
  iterate 4 (refine rows_s (by (rfl)) ?_; conv => whnf)
  (refine call_s (do0 _ s1 _ _ hh.st hh.ds) ?_; conv => whnf)
  iterate 2 (refine fac_s (fun hf => ?_); conv => whnf)
  iterate 2 (refine br_f rfl ?_; conv => whnf)
  iterate 3 (refine ChkS.mk (by kernel_rfl) ?_; conv => whnf)
  (refine rq_s (by (rfl)) ?_; conv => whnf)
  (refine call_s (takes0 ..) ?_; conv => whnf)
  iterate 2 (refine ChkS.mk (by kernel_rfl) ?_; conv => whnf)
  (refine rq_s (by (rfl)) ?_; conv => whnf)
  (refine ChkS.mk (by kernel_rfl) ?_; conv => whnf)
  iterate 7 (refine rq_s (by (rfl)) ?_; conv => whnf)
  (refine rq_s (by ((simp only [decide_eq_true_eq, List.length_map, mkS_len, setRow_len]; done))) ?_; conv => whnf)
  (refine rq_s (by (rfl)) ?_; conv => whnf)
  iterate 3 (refine rows_s (by (rfl)) ?_; conv => whnf)
  (refine rows_s (by ((refine sub_all ?_; simp [List.length_map, mkS_len, setRow_len]; done))) ?_; conv => whnf)
  (refine call_s (put _ _ [_] g2 (by first | omega | (dsimp only; omega) | (simp; omega)) (by first | omega | (dsimp only; omega) | (simp; omega)) (by simp)) ?_; conv => whnf)
  iterate 5 (refine ChkS.mk (by kernel_rfl) ?_; conv => whnf)
  iterate 2 (refine fac_s (fun hf => ?_); conv => whnf)
  iterate 6 (refine ChkS.mk (by kernel_rfl) ?_; conv => whnf)
  iterate 2 (refine rq_s (by (rfl)) ?_; conv => whnf)
  (refine rq_s (by ((simp only [decide_eq_true_eq, List.length_map, mkS_len, setRow_len]; done))) ?_; conv => whnf)
  (refine rq_s (by (rfl)) ?_; conv => whnf)
  (refine rq_s (by ((simp only [decide_eq_true_eq, List.length_map, mkS_len, setRow_len]; done))) ?_; conv => whnf)
  (refine rq_s (by (rfl)) ?_; conv => whnf)
  (refine rq_s (by ((simp only [decide_eq_true_eq, List.length_map, mkS_len, setRow_len]; done))) ?_; conv => whnf)
  iterate 2 (refine rq_s (by (rfl)) ?_; conv => whnf)
  (refine rq_s (by ((simp only [decide_eq_true_eq, List.length_map, mkS_len, setRow_len]; done))) ?_; conv => whnf)
  iterate 8 (refine rq_s (by (rfl)) ?_; conv => whnf)
  iterate 4 (refine rows_s (by ((refine sub_all ?_; simp [List.length_map, mkS_len, setRow_len]; done))) ?_; conv => whnf)
  iterate 3 (refine rows_s (by (rfl)) ?_; conv => whnf)
  rotate_left
  all_goals first
    | (exfalso; omega)
    | exact ⟨by rw [cf_1 (by assumption)]; exact Sh.refl _⟩
    | exact ⟨by rw [cf_2 (by assumption) (by omega)]; exact Sh.refl _⟩
    | exact ⟨by rw [cf0_4 (by assumption) (by omega) (by omega)]; exact Sh.refl _⟩
    | exact ⟨by rw [k0 (secF d) (by assumption) (by omega) (by omega) (by omega), if_pos (by assumption)]; exact done_sh _ _ _⟩
    | exact ⟨by rw [k0 (secF d) (by assumption) (by omega) (by omega) (by omega), if_neg (by assumption)]; exact Sh.refl _⟩
    | exact ⟨by rw [k0 0 (by assumption) (by omega) (by omega) (by omega), if_pos (by assumption)]; exact done_sh _ _ _⟩
    | exact ⟨by rw [k0 0 (by assumption) (by omega) (by omega) (by omega), if_neg (by assumption)]; exact Sh.refl _⟩
set_option maxHeartbeats 2000000 in
theorem call1 (h : Hst) (d : Dat) (hh : HostOk h) (hd : DataOk d) : Con Try.prog 55 [hstV h, datV d, .int .i64 1] (undefs [hstV h, datV d, .int .i64 1]) (.tup [hstV (callF h d 1).1, datV (callF h d 1).2.1, .int .i64 (callF h d 1).2.2]) := by
  have s1 := small_host hh
  have g1 := hh.gr
  have g2 := hd.st
  refine Con.ev 96 T_ok mix Try.func55 rfl rfl rfl rfl [.cell 6 27, .cell 7 30, .tmp 8] rfl ?_
  conv => whnf
  iterate 5 (refine rq_s (by (rfl)) ?_; conv => whnf)
  (refine rq_s (by ((refine and_s rfl ?_; simp only [decide_eq_true_eq, List.length_map]; omega))) ?_; conv => whnf)
  (refine row_s (by ((try simp only [Int.toNat_natCast]); exact row_map boolR _ _ _ default (by first | omega | (simp; omega)))) ?_; conv => whnf)
  (refine br_s (fun hb => ?_) (fun hb => ?_) <;> (try simp only [beq_iff_eq, bne_iff_ne, ne_eq, decide_eq_true_eq, decide_eq_false_iff_not, Int.not_lt, Int.not_le, Bool.false_eq_true, if_false, if_true, beq_eq_false_iff_ne, bne_eq_false_iff_eq, Bool.not_eq_true', Bool.not_eq_false', Int.ofNat_lt, Int.ofNat_le, Int.ofNat_inj, List.length_map, List.length_nil, List.length_cons] at hb) <;> conv => whnf)
  iterate 6 (refine ChkS.mk (by kernel_rfl) ?_; conv => whnf)
  iterate 14 (refine rq_s (by (rfl)) ?_; conv => whnf)
  iterate 7 (refine rows_s (by (rfl)) ?_; conv => whnf)
  rotate_left
  (refine rq_s (by (rfl)) ?_; conv => whnf)
  (refine br_s (fun hb => ?_) (fun hb => ?_) <;> (try simp only [beq_iff_eq, bne_iff_ne, ne_eq, decide_eq_true_eq, decide_eq_false_iff_not, Int.not_lt, Int.not_le, Bool.false_eq_true, if_false, if_true, beq_eq_false_iff_ne, bne_eq_false_iff_eq, Bool.not_eq_true', Bool.not_eq_false', Int.ofNat_lt, Int.ofNat_le, Int.ofNat_inj, List.length_map, List.length_nil, List.length_cons] at hb) <;> conv => whnf)
  iterate 6 (refine ChkS.mk (by kernel_rfl) ?_; conv => whnf)
  iterate 14 (refine rq_s (by (rfl)) ?_; conv => whnf)
  iterate 7 (refine rows_s (by (rfl)) ?_; conv => whnf)
  rotate_left
  (refine rq_s (by (rfl)) ?_; conv => whnf)
  (refine lend_s ?_; conv => whnf)
  (refine call_s (takes1 ..) ?_; conv => whnf)
  (refine fac_s (fun hf => ?_); conv => whnf)
  (refine br_s (fun hb => ?_) (fun hb => ?_) <;> (try simp only [beq_iff_eq, bne_iff_ne, ne_eq, decide_eq_true_eq, decide_eq_false_iff_not, Int.not_lt, Int.not_le, Bool.false_eq_true, if_false, if_true, beq_eq_false_iff_ne, bne_eq_false_iff_eq, Bool.not_eq_true', Bool.not_eq_false', Int.ofNat_lt, Int.ofNat_le, Int.ofNat_inj, List.length_map, List.length_nil, List.length_cons] at hb) <;> conv => whnf)
  iterate 6 (refine ChkS.mk (by kernel_rfl) ?_; conv => whnf)
  iterate 14 (refine rq_s (by (rfl)) ?_; conv => whnf)
  iterate 7 (refine rows_s (by (rfl)) ?_; conv => whnf)
  rotate_left
  iterate 4 (refine br_f rfl ?_; conv => whnf)
  (refine br_s (fun hb => ?_) (fun hb => ?_) <;> (try simp only [beq_iff_eq, bne_iff_ne, ne_eq, decide_eq_true_eq, decide_eq_false_iff_not, Int.not_lt, Int.not_le, Bool.false_eq_true, if_false, if_true, beq_eq_false_iff_ne, bne_eq_false_iff_eq, Bool.not_eq_true', Bool.not_eq_false', Int.ofNat_lt, Int.ofNat_le, Int.ofNat_inj, List.length_map, List.length_nil, List.length_cons] at hb) <;> conv => whnf)
  (refine rq_s (by (rfl)) ?_; conv => whnf)
  iterate 2 (refine rq_s (by (((first | (simp [maxBytes, subA]; done) | (refine and_s rfl ?_; simp only [decide_eq_true_eq, List.length_map]; rw [wrap64 (by omega) (by omega)]; omega) | (simp only [decide_eq_true_eq, Bool.and_eq_true, List.length_map]; rw [wrap64 (by omega) (by omega)]; omega) | (simp [maxBytes, subA]; omega))))) ?_; conv => whnf)
  (refine row_s (by ((try simp only [Nat.zero_add, List.length_map]); exact row_top _ (by omega) (by omega))) ?_; conv => whnf)
  (refine br_s (fun hb => ?_) (fun hb => ?_) <;> (try simp only [beq_iff_eq, bne_iff_ne, ne_eq, decide_eq_true_eq, decide_eq_false_iff_not, Int.not_lt, Int.not_le, Bool.false_eq_true, if_false, if_true, beq_eq_false_iff_ne, bne_eq_false_iff_eq, Bool.not_eq_true', Bool.not_eq_false', Int.ofNat_lt, Int.ofNat_le, Int.ofNat_inj, List.length_map, List.length_nil, List.length_cons] at hb) <;> conv => whnf)
  (refine rq_s (by (rfl)) ?_; conv => whnf)
  iterate 2 (refine rq_s (by (((first | (simp [maxBytes, subA]; done) | (refine and_s rfl ?_; simp only [decide_eq_true_eq, List.length_map]; rw [wrap64 (by omega) (by omega)]; omega) | (simp only [decide_eq_true_eq, Bool.and_eq_true, List.length_map]; rw [wrap64 (by omega) (by omega)]; omega) | (simp [maxBytes, subA]; omega))))) ?_; conv => whnf)
  (refine row_s (by ((try simp only [Nat.zero_add, List.length_map]); exact row_sec _ (by omega) (by omega))) ?_; conv => whnf)
  iterate 8 (refine rq_s (by (rfl)) ?_; conv => whnf)
  (refine lend_s ?_; conv => whnf)
  iterate 4 (refine rows_s (by (rfl)) ?_; conv => whnf)
  (refine call_s (do1 _ s1 _ _ hh.st hh.ds) ?_; conv => whnf)
  iterate 2 (refine fac_s (fun hf => ?_); conv => whnf)
  (refine br_s (fun hb => ?_) (fun hb => ?_) <;> (try simp only [beq_iff_eq, bne_iff_ne, ne_eq, decide_eq_true_eq, decide_eq_false_iff_not, Int.not_lt, Int.not_le, Bool.false_eq_true, if_false, if_true, beq_eq_false_iff_ne, bne_eq_false_iff_eq, Bool.not_eq_true', Bool.not_eq_false', Int.ofNat_lt, Int.ofNat_le, Int.ofNat_inj, List.length_map, List.length_nil, List.length_cons] at hb) <;> conv => whnf)
  iterate 7 (refine ChkS.mk (by kernel_rfl) ?_; conv => whnf)
  iterate 14 (refine rq_s (by (rfl)) ?_; conv => whnf)
  iterate 7 (refine rows_s (by (rfl)) ?_; conv => whnf)
  rotate_left
  (refine br_t rfl ?_; conv => whnf)
  iterate 8 (refine rq_s (by (rfl)) ?_; conv => whnf)
  (refine lend_s ?_; conv => whnf)
  iterate 3 (refine rows_s (by (rfl)) ?_; conv => whnf)
  (refine call_s (putE _ _ g2 (by first | omega | (dsimp only; omega) | (simp; omega)) (by first | omega | (dsimp only; omega) | (simp; omega))) ?_; conv => whnf)
  (refine fac_s (fun hf => ?_); conv => whnf)
  iterate 6 (refine ChkS.mk (by kernel_rfl) ?_; conv => whnf)
  iterate 2 (refine rq_s (by (rfl)) ?_; conv => whnf)
  (refine rq_s (by ((simp only [decide_eq_true_eq, List.length_map, mkS_len, setRow_len]; done))) ?_; conv => whnf)
  (refine rq_s (by (rfl)) ?_; conv => whnf)
  (refine rq_s (by ((simp only [decide_eq_true_eq, List.length_map, mkS_len, setRow_len]; done))) ?_; conv => whnf)
  (refine rq_s (by (rfl)) ?_; conv => whnf)
  (refine rq_s (by ((simp only [decide_eq_true_eq, List.length_map, mkS_len, setRow_len]; done))) ?_; conv => whnf)
  iterate 2 (refine rq_s (by (rfl)) ?_; conv => whnf)
  (refine rq_s (by ((simp only [decide_eq_true_eq, List.length_map, mkS_len, setRow_len]; done))) ?_; conv => whnf)
  iterate 8 (refine rq_s (by (rfl)) ?_; conv => whnf)
  iterate 4 (refine rows_s (by ((refine sub_all ?_; simp [List.length_map, mkS_len, setRow_len]; done))) ?_; conv => whnf)
  iterate 3 (refine rows_s (by (rfl)) ?_; conv => whnf)
  rotate_left
  iterate 8 (refine rq_s (by (rfl)) ?_; conv => whnf)
  (refine lend_s ?_; conv => whnf)
  iterate 4 (refine rows_s (by (rfl)) ?_; conv => whnf)
  (refine call_s (do1 _ s1 _ _ hh.st hh.ds) ?_; conv => whnf)
  iterate 2 (refine fac_s (fun hf => ?_); conv => whnf)
  (refine br_s (fun hb => ?_) (fun hb => ?_) <;> (try simp only [beq_iff_eq, bne_iff_ne, ne_eq, decide_eq_true_eq, decide_eq_false_iff_not, Int.not_lt, Int.not_le, Bool.false_eq_true, if_false, if_true, beq_eq_false_iff_ne, bne_eq_false_iff_eq, Bool.not_eq_true', Bool.not_eq_false', Int.ofNat_lt, Int.ofNat_le, Int.ofNat_inj, List.length_map, List.length_nil, List.length_cons] at hb) <;> conv => whnf)
  iterate 7 (refine ChkS.mk (by kernel_rfl) ?_; conv => whnf)
  iterate 14 (refine rq_s (by (rfl)) ?_; conv => whnf)
  iterate 7 (refine rows_s (by (rfl)) ?_; conv => whnf)
  rotate_left
  (refine br_t rfl ?_; conv => whnf)
  iterate 8 (refine rq_s (by (rfl)) ?_; conv => whnf)
  (refine lend_s ?_; conv => whnf)
  iterate 3 (refine rows_s (by (rfl)) ?_; conv => whnf)
  (refine call_s (putE _ _ g2 (by first | omega | (dsimp only; omega) | (simp; omega)) (by first | omega | (dsimp only; omega) | (simp; omega))) ?_; conv => whnf)
  (refine fac_s (fun hf => ?_); conv => whnf)
  iterate 6 (refine ChkS.mk (by kernel_rfl) ?_; conv => whnf)
  iterate 2 (refine rq_s (by (rfl)) ?_; conv => whnf)
  (refine rq_s (by ((simp only [decide_eq_true_eq, List.length_map, mkS_len, setRow_len]; done))) ?_; conv => whnf)
  (refine rq_s (by (rfl)) ?_; conv => whnf)
  (refine rq_s (by ((simp only [decide_eq_true_eq, List.length_map, mkS_len, setRow_len]; done))) ?_; conv => whnf)
  (refine rq_s (by (rfl)) ?_; conv => whnf)
  (refine rq_s (by ((simp only [decide_eq_true_eq, List.length_map, mkS_len, setRow_len]; done))) ?_; conv => whnf)
  iterate 2 (refine rq_s (by (rfl)) ?_; conv => whnf)
  (refine rq_s (by ((simp only [decide_eq_true_eq, List.length_map, mkS_len, setRow_len]; done))) ?_; conv => whnf)
  iterate 8 (refine rq_s (by (rfl)) ?_; conv => whnf)
  iterate 4 (refine rows_s (by ((refine sub_all ?_; simp [List.length_map, mkS_len, setRow_len]; done))) ?_; conv => whnf)
  iterate 3 (refine rows_s (by (rfl)) ?_; conv => whnf)
  rotate_left
  (refine br_s (fun hb => ?_) (fun hb => ?_) <;> (try simp only [beq_iff_eq, bne_iff_ne, ne_eq, decide_eq_true_eq, decide_eq_false_iff_not, Int.not_lt, Int.not_le, Bool.false_eq_true, if_false, if_true, beq_eq_false_iff_ne, bne_eq_false_iff_eq, Bool.not_eq_true', Bool.not_eq_false', Int.ofNat_lt, Int.ofNat_le, Int.ofNat_inj, List.length_map, List.length_nil, List.length_cons] at hb) <;> conv => whnf)
  (refine rq_s (by (rfl)) ?_; conv => whnf)
  iterate 2 (refine rq_s (by ((refine and_s rfl ?_; simp only [decide_eq_true_eq, List.length_map]; omega))) ?_; conv => whnf)
  (refine row_s (by ((try simp only [Nat.zero_add, List.length_map]); exact row_sec _ (by omega) (by omega))) ?_; conv => whnf)
  iterate 8 (refine rq_s (by (rfl)) ?_; conv => whnf)
  (refine lend_s ?_; conv => whnf)
  iterate 4 (refine rows_s (by (rfl)) ?_; conv => whnf)
  (refine call_s (do1 _ s1 _ _ hh.st hh.ds) ?_; conv => whnf)
  iterate 2 (refine fac_s (fun hf => ?_); conv => whnf)
  (refine br_f rfl ?_; conv => whnf)
  (refine br_t rfl ?_; conv => whnf)
  iterate 8 (refine rq_s (by (rfl)) ?_; conv => whnf)
  (refine lend_s ?_; conv => whnf)
  iterate 3 (refine rows_s (by (rfl)) ?_; conv => whnf)
  (refine call_s (putE _ _ g2 (by first | omega | (dsimp only; omega) | (simp; omega)) (by first | omega | (dsimp only; omega) | (simp; omega))) ?_; conv => whnf)
  (refine fac_s (fun hf => ?_); conv => whnf)
  iterate 6 (refine ChkS.mk (by kernel_rfl) ?_; conv => whnf)
  iterate 2 (refine rq_s (by (rfl)) ?_; conv => whnf)
  (refine rq_s (by ((simp only [decide_eq_true_eq, List.length_map, mkS_len, setRow_len]; done))) ?_; conv => whnf)
  (refine rq_s (by (rfl)) ?_; conv => whnf)
  (refine rq_s (by ((simp only [decide_eq_true_eq, List.length_map, mkS_len, setRow_len]; done))) ?_; conv => whnf)
  (refine rq_s (by (rfl)) ?_; conv => whnf)
  (refine rq_s (by ((simp only [decide_eq_true_eq, List.length_map, mkS_len, setRow_len]; done))) ?_; conv => whnf)
  iterate 2 (refine rq_s (by (rfl)) ?_; conv => whnf)
  (refine rq_s (by ((simp only [decide_eq_true_eq, List.length_map, mkS_len, setRow_len]; done))) ?_; conv => whnf)
  iterate 8 (refine rq_s (by (rfl)) ?_; conv => whnf)
  iterate 4 (refine rows_s (by ((refine sub_all ?_; simp [List.length_map, mkS_len, setRow_len]; done))) ?_; conv => whnf)
  iterate 3 (refine rows_s (by (rfl)) ?_; conv => whnf)
  rotate_left
  iterate 8 (refine rq_s (by (rfl)) ?_; conv => whnf)
  (refine lend_s ?_; conv => whnf)
  iterate 4 (refine rows_s (by (rfl)) ?_; conv => whnf)
  (refine call_s (do1 _ s1 _ _ hh.st hh.ds) ?_; conv => whnf)
  iterate 2 (refine fac_s (fun hf => ?_); conv => whnf)
  (refine br_f rfl ?_; conv => whnf)
  (refine br_t rfl ?_; conv => whnf)
  iterate 8 (refine rq_s (by (rfl)) ?_; conv => whnf)
  (refine lend_s ?_; conv => whnf)
  iterate 3 (refine rows_s (by (rfl)) ?_; conv => whnf)
  (refine call_s (putE _ _ g2 (by first | omega | (dsimp only; omega) | (simp; omega)) (by first | omega | (dsimp only; omega) | (simp; omega))) ?_; conv => whnf)
  (refine fac_s (fun hf => ?_); conv => whnf)
  iterate 6 (refine ChkS.mk (by kernel_rfl) ?_; conv => whnf)
  iterate 2 (refine rq_s (by (rfl)) ?_; conv => whnf)
  (refine rq_s (by ((simp only [decide_eq_true_eq, List.length_map, mkS_len, setRow_len]; done))) ?_; conv => whnf)
  (refine rq_s (by (rfl)) ?_; conv => whnf)
  (refine rq_s (by ((simp only [decide_eq_true_eq, List.length_map, mkS_len, setRow_len]; done))) ?_; conv => whnf)
  (refine rq_s (by (rfl)) ?_; conv => whnf)
  (refine rq_s (by ((simp only [decide_eq_true_eq, List.length_map, mkS_len, setRow_len]; done))) ?_; conv => whnf)
  iterate 2 (refine rq_s (by (rfl)) ?_; conv => whnf)
  (refine rq_s (by ((simp only [decide_eq_true_eq, List.length_map, mkS_len, setRow_len]; done))) ?_; conv => whnf)
  iterate 8 (refine rq_s (by (rfl)) ?_; conv => whnf)
  iterate 4 (refine rows_s (by ((refine sub_all ?_; simp [List.length_map, mkS_len, setRow_len]; done))) ?_; conv => whnf)
  iterate 3 (refine rows_s (by (rfl)) ?_; conv => whnf)
  rotate_left
  all_goals first
    | (exfalso; omega)
    | exact ⟨by rw [cf_1 (by assumption)]; exact Sh.refl _⟩
    | exact ⟨by rw [cf_2 (by assumption) (by omega)]; exact Sh.refl _⟩
    | exact ⟨by rw [cf1_4 (by assumption) (by omega) (by omega)]; exact Sh.refl _⟩
    | exact ⟨by rw [k1 (by assumption) (by omega) (by omega) (by omega), if_pos (by assumption)]; exact done_sh _ _ _⟩
    | exact ⟨by rw [k1 (by assumption) (by omega) (by omega) (by omega), if_neg (by assumption)]; exact Sh.refl _⟩
set_option maxHeartbeats 2000000 in
theorem call2 (h : Hst) (d : Dat) (hh : HostOk h) (hd : DataOk d) : Con Try.prog 55 [hstV h, datV d, .int .i64 2] (undefs [hstV h, datV d, .int .i64 2]) (.tup [hstV (callF h d 2).1, datV (callF h d 2).2.1, .int .i64 (callF h d 2).2.2]) := by
  have s1 := small_host hh
  have g1 := hh.gr
  have g2 := hd.st
  refine Con.ev 96 T_ok mix Try.func55 rfl rfl rfl rfl [.cell 6 27, .cell 7 30, .tmp 8] rfl ?_
  conv => whnf
  iterate 5 (refine rq_s (by (rfl)) ?_; conv => whnf)
  (refine rq_s (by ((refine and_s rfl ?_; simp only [decide_eq_true_eq, List.length_map]; omega))) ?_; conv => whnf)
  (refine row_s (by ((try simp only [Int.toNat_natCast]); exact row_map boolR _ _ _ default (by first | omega | (simp; omega)))) ?_; conv => whnf)
  (refine br_s (fun hb => ?_) (fun hb => ?_) <;> (try simp only [beq_iff_eq, bne_iff_ne, ne_eq, decide_eq_true_eq, decide_eq_false_iff_not, Int.not_lt, Int.not_le, Bool.false_eq_true, if_false, if_true, beq_eq_false_iff_ne, bne_eq_false_iff_eq, Bool.not_eq_true', Bool.not_eq_false', Int.ofNat_lt, Int.ofNat_le, Int.ofNat_inj, List.length_map, List.length_nil, List.length_cons] at hb) <;> conv => whnf)
  iterate 6 (refine ChkS.mk (by kernel_rfl) ?_; conv => whnf)
  iterate 14 (refine rq_s (by (rfl)) ?_; conv => whnf)
  iterate 7 (refine rows_s (by (rfl)) ?_; conv => whnf)
  rotate_left
  (refine rq_s (by (rfl)) ?_; conv => whnf)
  (refine br_s (fun hb => ?_) (fun hb => ?_) <;> (try simp only [beq_iff_eq, bne_iff_ne, ne_eq, decide_eq_true_eq, decide_eq_false_iff_not, Int.not_lt, Int.not_le, Bool.false_eq_true, if_false, if_true, beq_eq_false_iff_ne, bne_eq_false_iff_eq, Bool.not_eq_true', Bool.not_eq_false', Int.ofNat_lt, Int.ofNat_le, Int.ofNat_inj, List.length_map, List.length_nil, List.length_cons] at hb) <;> conv => whnf)
  iterate 6 (refine ChkS.mk (by kernel_rfl) ?_; conv => whnf)
  iterate 14 (refine rq_s (by (rfl)) ?_; conv => whnf)
  iterate 7 (refine rows_s (by (rfl)) ?_; conv => whnf)
  rotate_left
  (refine rq_s (by (rfl)) ?_; conv => whnf)
  (refine lend_s ?_; conv => whnf)
  (refine call_s (takes2 ..) ?_; conv => whnf)
  (refine fac_s (fun hf => ?_); conv => whnf)
  (refine br_s (fun hb => ?_) (fun hb => ?_) <;> (try simp only [beq_iff_eq, bne_iff_ne, ne_eq, decide_eq_true_eq, decide_eq_false_iff_not, Int.not_lt, Int.not_le, Bool.false_eq_true, if_false, if_true, beq_eq_false_iff_ne, bne_eq_false_iff_eq, Bool.not_eq_true', Bool.not_eq_false', Int.ofNat_lt, Int.ofNat_le, Int.ofNat_inj, List.length_map, List.length_nil, List.length_cons] at hb) <;> conv => whnf)
  iterate 6 (refine ChkS.mk (by kernel_rfl) ?_; conv => whnf)
  iterate 14 (refine rq_s (by (rfl)) ?_; conv => whnf)
  iterate 7 (refine rows_s (by (rfl)) ?_; conv => whnf)
  rotate_left
  iterate 4 (refine br_f rfl ?_; conv => whnf)
  (refine br_s (fun hb => ?_) (fun hb => ?_) <;> (try simp only [beq_iff_eq, bne_iff_ne, ne_eq, decide_eq_true_eq, decide_eq_false_iff_not, Int.not_lt, Int.not_le, Bool.false_eq_true, if_false, if_true, beq_eq_false_iff_ne, bne_eq_false_iff_eq, Bool.not_eq_true', Bool.not_eq_false', Int.ofNat_lt, Int.ofNat_le, Int.ofNat_inj, List.length_map, List.length_nil, List.length_cons] at hb) <;> conv => whnf)
  (refine rq_s (by (rfl)) ?_; conv => whnf)
  iterate 2 (refine rq_s (by (((first | (simp [maxBytes, subA]; done) | (refine and_s rfl ?_; simp only [decide_eq_true_eq, List.length_map]; rw [wrap64 (by omega) (by omega)]; omega) | (simp only [decide_eq_true_eq, Bool.and_eq_true, List.length_map]; rw [wrap64 (by omega) (by omega)]; omega) | (simp [maxBytes, subA]; omega))))) ?_; conv => whnf)
  (refine row_s (by ((try simp only [Nat.zero_add, List.length_map]); exact row_top _ (by omega) (by omega))) ?_; conv => whnf)
  (refine br_s (fun hb => ?_) (fun hb => ?_) <;> (try simp only [beq_iff_eq, bne_iff_ne, ne_eq, decide_eq_true_eq, decide_eq_false_iff_not, Int.not_lt, Int.not_le, Bool.false_eq_true, if_false, if_true, beq_eq_false_iff_ne, bne_eq_false_iff_eq, Bool.not_eq_true', Bool.not_eq_false', Int.ofNat_lt, Int.ofNat_le, Int.ofNat_inj, List.length_map, List.length_nil, List.length_cons] at hb) <;> conv => whnf)
  (refine rq_s (by (rfl)) ?_; conv => whnf)
  iterate 2 (refine rq_s (by (((first | (simp [maxBytes, subA]; done) | (refine and_s rfl ?_; simp only [decide_eq_true_eq, List.length_map]; rw [wrap64 (by omega) (by omega)]; omega) | (simp only [decide_eq_true_eq, Bool.and_eq_true, List.length_map]; rw [wrap64 (by omega) (by omega)]; omega) | (simp [maxBytes, subA]; omega))))) ?_; conv => whnf)
  (refine row_s (by ((try simp only [Nat.zero_add, List.length_map]); exact row_sec _ (by omega) (by omega))) ?_; conv => whnf)
  iterate 8 (refine rq_s (by (rfl)) ?_; conv => whnf)
  (refine lend_s ?_; conv => whnf)
  iterate 4 (refine rows_s (by (rfl)) ?_; conv => whnf)
  (refine call_s (do2 _ s1 _ _ hh.ds) ?_; conv => whnf)
  iterate 2 (refine fac_s (fun hf => ?_); conv => whnf)
  iterate 2 (refine br_f rfl ?_; conv => whnf)
  iterate 3 (refine ChkS.mk (by kernel_rfl) ?_; conv => whnf)
  (refine rq_s (by (rfl)) ?_; conv => whnf)
  (refine call_s (takes2 ..) ?_; conv => whnf)
  iterate 2 (refine ChkS.mk (by kernel_rfl) ?_; conv => whnf)
  (refine rq_s (by (rfl)) ?_; conv => whnf)
  (refine ChkS.mk (by kernel_rfl) ?_; conv => whnf)
  iterate 7 (refine rq_s (by (rfl)) ?_; conv => whnf)
  (refine rq_s (by ((simp only [decide_eq_true_eq, List.length_map, mkS_len, setRow_len]; done))) ?_; conv => whnf)
  (refine rq_s (by (rfl)) ?_; conv => whnf)
  iterate 3 (refine rows_s (by (rfl)) ?_; conv => whnf)
  (refine rows_s (by ((refine sub_all ?_; simp [List.length_map, mkS_len, setRow_len]; done))) ?_; conv => whnf)
  (refine call_s (put _ _ [_] g2 (by first | omega | (dsimp only; omega) | (simp; omega)) (by first | omega | (dsimp only; omega) | (simp; omega)) (by simp)) ?_; conv => whnf)
  iterate 5 (refine ChkS.mk (by kernel_rfl) ?_; conv => whnf)
  iterate 2 (refine fac_s (fun hf => ?_); conv => whnf)
  iterate 6 (refine ChkS.mk (by kernel_rfl) ?_; conv => whnf)
  iterate 2 (refine rq_s (by (rfl)) ?_; conv => whnf)
  (refine rq_s (by ((simp only [decide_eq_true_eq, List.length_map, mkS_len, setRow_len]; done))) ?_; conv => whnf)
  (refine rq_s (by (rfl)) ?_; conv => whnf)
  (refine rq_s (by ((simp only [decide_eq_true_eq, List.length_map, mkS_len, setRow_len]; done))) ?_; conv => whnf)
  (refine rq_s (by (rfl)) ?_; conv => whnf)
  (refine rq_s (by ((simp only [decide_eq_true_eq, List.length_map, mkS_len, setRow_len]; done))) ?_; conv => whnf)
  iterate 2 (refine rq_s (by (rfl)) ?_; conv => whnf)
  (refine rq_s (by ((simp only [decide_eq_true_eq, List.length_map, mkS_len, setRow_len]; done))) ?_; conv => whnf)
  iterate 8 (refine rq_s (by (rfl)) ?_; conv => whnf)
  iterate 4 (refine rows_s (by ((refine sub_all ?_; simp [List.length_map, mkS_len, setRow_len]; done))) ?_; conv => whnf)
  iterate 3 (refine rows_s (by (rfl)) ?_; conv => whnf)
  rotate_left
  iterate 8 (refine rq_s (by (rfl)) ?_; conv => whnf)
  (refine lend_s ?_; conv => whnf)
  iterate 4 (refine rows_s (by (rfl)) ?_; conv => whnf)
  (refine call_s (do2 _ s1 _ _ hh.ds) ?_; conv => whnf)
  iterate 2 (refine fac_s (fun hf => ?_); conv => whnf)
  iterate 2 (refine br_f rfl ?_; conv => whnf)
  iterate 3 (refine ChkS.mk (by kernel_rfl) ?_; conv => whnf)
  (refine rq_s (by (rfl)) ?_; conv => whnf)
  (refine call_s (takes2 ..) ?_; conv => whnf)
  iterate 2 (refine ChkS.mk (by kernel_rfl) ?_; conv => whnf)
  (refine rq_s (by (rfl)) ?_; conv => whnf)
  (refine ChkS.mk (by kernel_rfl) ?_; conv => whnf)
  iterate 7 (refine rq_s (by (rfl)) ?_; conv => whnf)
  (refine rq_s (by ((simp only [decide_eq_true_eq, List.length_map, mkS_len, setRow_len]; done))) ?_; conv => whnf)
  (refine rq_s (by (rfl)) ?_; conv => whnf)
  iterate 3 (refine rows_s (by (rfl)) ?_; conv => whnf)
  (refine rows_s (by ((refine sub_all ?_; simp [List.length_map, mkS_len, setRow_len]; done))) ?_; conv => whnf)
  (refine call_s (put _ _ [_] g2 (by first | omega | (dsimp only; omega) | (simp; omega)) (by first | omega | (dsimp only; omega) | (simp; omega)) (by simp)) ?_; conv => whnf)
  iterate 5 (refine ChkS.mk (by kernel_rfl) ?_; conv => whnf)
  iterate 2 (refine fac_s (fun hf => ?_); conv => whnf)
  iterate 6 (refine ChkS.mk (by kernel_rfl) ?_; conv => whnf)
  iterate 2 (refine rq_s (by (rfl)) ?_; conv => whnf)
  (refine rq_s (by ((simp only [decide_eq_true_eq, List.length_map, mkS_len, setRow_len]; done))) ?_; conv => whnf)
  (refine rq_s (by (rfl)) ?_; conv => whnf)
  (refine rq_s (by ((simp only [decide_eq_true_eq, List.length_map, mkS_len, setRow_len]; done))) ?_; conv => whnf)
  (refine rq_s (by (rfl)) ?_; conv => whnf)
  (refine rq_s (by ((simp only [decide_eq_true_eq, List.length_map, mkS_len, setRow_len]; done))) ?_; conv => whnf)
  iterate 2 (refine rq_s (by (rfl)) ?_; conv => whnf)
  (refine rq_s (by ((simp only [decide_eq_true_eq, List.length_map, mkS_len, setRow_len]; done))) ?_; conv => whnf)
  iterate 8 (refine rq_s (by (rfl)) ?_; conv => whnf)
  iterate 4 (refine rows_s (by ((refine sub_all ?_; simp [List.length_map, mkS_len, setRow_len]; done))) ?_; conv => whnf)
  iterate 3 (refine rows_s (by (rfl)) ?_; conv => whnf)
  rotate_left
  (refine br_s (fun hb => ?_) (fun hb => ?_) <;> (try simp only [beq_iff_eq, bne_iff_ne, ne_eq, decide_eq_true_eq, decide_eq_false_iff_not, Int.not_lt, Int.not_le, Bool.false_eq_true, if_false, if_true, beq_eq_false_iff_ne, bne_eq_false_iff_eq, Bool.not_eq_true', Bool.not_eq_false', Int.ofNat_lt, Int.ofNat_le, Int.ofNat_inj, List.length_map, List.length_nil, List.length_cons] at hb) <;> conv => whnf)
  (refine rq_s (by (rfl)) ?_; conv => whnf)
  iterate 2 (refine rq_s (by ((refine and_s rfl ?_; simp only [decide_eq_true_eq, List.length_map]; omega))) ?_; conv => whnf)
  (refine row_s (by ((try simp only [Nat.zero_add, List.length_map]); exact row_sec _ (by omega) (by omega))) ?_; conv => whnf)
  iterate 8 (refine rq_s (by (rfl)) ?_; conv => whnf)
  (refine lend_s ?_; conv => whnf)
  iterate 4 (refine rows_s (by (rfl)) ?_; conv => whnf)
  (refine call_s (do2 _ s1 _ _ hh.ds) ?_; conv => whnf)
  iterate 2 (refine fac_s (fun hf => ?_); conv => whnf)
  iterate 2 (refine br_f rfl ?_; conv => whnf)
  iterate 3 (refine ChkS.mk (by kernel_rfl) ?_; conv => whnf)
  (refine rq_s (by (rfl)) ?_; conv => whnf)
  (refine call_s (takes2 ..) ?_; conv => whnf)
  iterate 2 (refine ChkS.mk (by kernel_rfl) ?_; conv => whnf)
  (refine rq_s (by (rfl)) ?_; conv => whnf)
  (refine ChkS.mk (by kernel_rfl) ?_; conv => whnf)
  iterate 7 (refine rq_s (by (rfl)) ?_; conv => whnf)
  (refine rq_s (by ((simp only [decide_eq_true_eq, List.length_map, mkS_len, setRow_len]; done))) ?_; conv => whnf)
  (refine rq_s (by (rfl)) ?_; conv => whnf)
  iterate 3 (refine rows_s (by (rfl)) ?_; conv => whnf)
  (refine rows_s (by ((refine sub_all ?_; simp [List.length_map, mkS_len, setRow_len]; done))) ?_; conv => whnf)
  (refine call_s (put _ _ [_] g2 (by first | omega | (dsimp only; omega) | (simp; omega)) (by first | omega | (dsimp only; omega) | (simp; omega)) (by simp)) ?_; conv => whnf)
  iterate 5 (refine ChkS.mk (by kernel_rfl) ?_; conv => whnf)
  iterate 2 (refine fac_s (fun hf => ?_); conv => whnf)
  iterate 6 (refine ChkS.mk (by kernel_rfl) ?_; conv => whnf)
  iterate 2 (refine rq_s (by (rfl)) ?_; conv => whnf)
  (refine rq_s (by ((simp only [decide_eq_true_eq, List.length_map, mkS_len, setRow_len]; done))) ?_; conv => whnf)
  (refine rq_s (by (rfl)) ?_; conv => whnf)
  (refine rq_s (by ((simp only [decide_eq_true_eq, List.length_map, mkS_len, setRow_len]; done))) ?_; conv => whnf)
  (refine rq_s (by (rfl)) ?_; conv => whnf)
  (refine rq_s (by ((simp only [decide_eq_true_eq, List.length_map, mkS_len, setRow_len]; done))) ?_; conv => whnf)
  iterate 2 (refine rq_s (by (rfl)) ?_; conv => whnf)
  (refine rq_s (by ((simp only [decide_eq_true_eq, List.length_map, mkS_len, setRow_len]; done))) ?_; conv => whnf)
  iterate 8 (refine rq_s (by (rfl)) ?_; conv => whnf)
  iterate 4 (refine rows_s (by ((refine sub_all ?_; simp [List.length_map, mkS_len, setRow_len]; done))) ?_; conv => whnf)
  iterate 3 (refine rows_s (by (rfl)) ?_; conv => whnf)
  rotate_left
  iterate 8 (refine rq_s (by (rfl)) ?_; conv => whnf)
  (refine lend_s ?_; conv => whnf)
  iterate 4 (refine rows_s (by (rfl)) ?_; conv => whnf)
  (refine call_s (do2 _ s1 _ _ hh.ds) ?_; conv => whnf)
  iterate 2 (refine fac_s (fun hf => ?_); conv => whnf)
  iterate 2 (refine br_f rfl ?_; conv => whnf)
  iterate 3 (refine ChkS.mk (by kernel_rfl) ?_; conv => whnf)
  (refine rq_s (by (rfl)) ?_; conv => whnf)
  (refine call_s (takes2 ..) ?_; conv => whnf)
  iterate 2 (refine ChkS.mk (by kernel_rfl) ?_; conv => whnf)
  (refine rq_s (by (rfl)) ?_; conv => whnf)
  (refine ChkS.mk (by kernel_rfl) ?_; conv => whnf)
  iterate 7 (refine rq_s (by (rfl)) ?_; conv => whnf)
  (refine rq_s (by ((simp only [decide_eq_true_eq, List.length_map, mkS_len, setRow_len]; done))) ?_; conv => whnf)
  (refine rq_s (by (rfl)) ?_; conv => whnf)
  iterate 3 (refine rows_s (by (rfl)) ?_; conv => whnf)
  (refine rows_s (by ((refine sub_all ?_; simp [List.length_map, mkS_len, setRow_len]; done))) ?_; conv => whnf)
  (refine call_s (put _ _ [_] g2 (by first | omega | (dsimp only; omega) | (simp; omega)) (by first | omega | (dsimp only; omega) | (simp; omega)) (by simp)) ?_; conv => whnf)
  iterate 5 (refine ChkS.mk (by kernel_rfl) ?_; conv => whnf)
  iterate 2 (refine fac_s (fun hf => ?_); conv => whnf)
  iterate 6 (refine ChkS.mk (by kernel_rfl) ?_; conv => whnf)
  iterate 2 (refine rq_s (by (rfl)) ?_; conv => whnf)
  (refine rq_s (by ((simp only [decide_eq_true_eq, List.length_map, mkS_len, setRow_len]; done))) ?_; conv => whnf)
  (refine rq_s (by (rfl)) ?_; conv => whnf)
  (refine rq_s (by ((simp only [decide_eq_true_eq, List.length_map, mkS_len, setRow_len]; done))) ?_; conv => whnf)
  (refine rq_s (by (rfl)) ?_; conv => whnf)
  (refine rq_s (by ((simp only [decide_eq_true_eq, List.length_map, mkS_len, setRow_len]; done))) ?_; conv => whnf)
  iterate 2 (refine rq_s (by (rfl)) ?_; conv => whnf)
  (refine rq_s (by ((simp only [decide_eq_true_eq, List.length_map, mkS_len, setRow_len]; done))) ?_; conv => whnf)
  iterate 8 (refine rq_s (by (rfl)) ?_; conv => whnf)
  iterate 4 (refine rows_s (by ((refine sub_all ?_; simp [List.length_map, mkS_len, setRow_len]; done))) ?_; conv => whnf)
  iterate 3 (refine rows_s (by (rfl)) ?_; conv => whnf)
  rotate_left
  all_goals first
    | (exfalso; omega)
    | exact ⟨by rw [cf_1 (by assumption)]; exact Sh.refl _⟩
    | exact ⟨by rw [cf_2 (by assumption) (by omega)]; exact Sh.refl _⟩
    | exact ⟨by rw [cf2_4 (by assumption) (by omega) (by omega)]; exact Sh.refl _⟩
    | exact ⟨by rw [k2 (secF d) (by assumption) (by omega) (by omega) (by omega)]; exact done_sh _ _ _⟩
    | exact ⟨by rw [k2 0 (by assumption) (by omega) (by omega) (by omega)]; exact done_sh _ _ _⟩
set_option maxHeartbeats 2000000 in
theorem call3 (h : Hst) (d : Dat) (hh : HostOk h) (hd : DataOk d) : Con Try.prog 55 [hstV h, datV d, .int .i64 3] (undefs [hstV h, datV d, .int .i64 3]) (.tup [hstV (callF h d 3).1, datV (callF h d 3).2.1, .int .i64 (callF h d 3).2.2]) := by
  have s1 := small_host hh
  have g1 := hh.gr
  have g2 := hd.st
  refine Con.ev 96 T_ok mix Try.func55 rfl rfl rfl rfl [.cell 6 27, .cell 7 30, .tmp 8] rfl ?_
  conv => whnf
  iterate 5 (refine rq_s (by (rfl)) ?_; conv => whnf)
  (refine rq_s (by ((refine and_s rfl ?_; simp only [decide_eq_true_eq, List.length_map]; omega))) ?_; conv => whnf)
  (refine row_s (by ((try simp only [Int.toNat_natCast]); exact row_map boolR _ _ _ default (by first | omega | (simp; omega)))) ?_; conv => whnf)
  (refine br_s (fun hb => ?_) (fun hb => ?_) <;> (try simp only [beq_iff_eq, bne_iff_ne, ne_eq, decide_eq_true_eq, decide_eq_false_iff_not, Int.not_lt, Int.not_le, Bool.false_eq_true, if_false, if_true, beq_eq_false_iff_ne, bne_eq_false_iff_eq, Bool.not_eq_true', Bool.not_eq_false', Int.ofNat_lt, Int.ofNat_le, Int.ofNat_inj, List.length_map, List.length_nil, List.length_cons] at hb) <;> conv => whnf)
  iterate 6 (refine ChkS.mk (by kernel_rfl) ?_; conv => whnf)
  iterate 14 (refine rq_s (by (rfl)) ?_; conv => whnf)
  iterate 7 (refine rows_s (by (rfl)) ?_; conv => whnf)
  rotate_left
  (refine rq_s (by (rfl)) ?_; conv => whnf)
  (refine br_s (fun hb => ?_) (fun hb => ?_) <;> (try simp only [beq_iff_eq, bne_iff_ne, ne_eq, decide_eq_true_eq, decide_eq_false_iff_not, Int.not_lt, Int.not_le, Bool.false_eq_true, if_false, if_true, beq_eq_false_iff_ne, bne_eq_false_iff_eq, Bool.not_eq_true', Bool.not_eq_false', Int.ofNat_lt, Int.ofNat_le, Int.ofNat_inj, List.length_map, List.length_nil, List.length_cons] at hb) <;> conv => whnf)
  iterate 6 (refine ChkS.mk (by kernel_rfl) ?_; conv => whnf)
  iterate 14 (refine rq_s (by (rfl)) ?_; conv => whnf)
  iterate 7 (refine rows_s (by (rfl)) ?_; conv => whnf)
  rotate_left
  (refine rq_s (by (rfl)) ?_; conv => whnf)
  (refine lend_s ?_; conv => whnf)
  (refine call_s (takes3 ..) ?_; conv => whnf)
  (refine fac_s (fun hf => ?_); conv => whnf)
  (refine br_f rfl ?_; conv => whnf)
  iterate 2 (refine br_t rfl ?_; conv => whnf)
  (refine br_s (fun hb => ?_) (fun hb => ?_) <;> (try simp only [beq_iff_eq, bne_iff_ne, ne_eq, decide_eq_true_eq, decide_eq_false_iff_not, Int.not_lt, Int.not_le, Bool.false_eq_true, if_false, if_true, beq_eq_false_iff_ne, bne_eq_false_iff_eq, Bool.not_eq_true', Bool.not_eq_false', Int.ofNat_lt, Int.ofNat_le, Int.ofNat_inj, List.length_map, List.length_nil, List.length_cons] at hb) <;> conv => whnf)
  iterate 6 (refine ChkS.mk (by kernel_rfl) ?_; conv => whnf)
  iterate 14 (refine rq_s (by (rfl)) ?_; conv => whnf)
  iterate 7 (refine rows_s (by (rfl)) ?_; conv => whnf)
  rotate_left
  (refine br_s (fun hb => ?_) (fun hb => ?_) <;> (try simp only [beq_iff_eq, bne_iff_ne, ne_eq, decide_eq_true_eq, decide_eq_false_iff_not, Int.not_lt, Int.not_le, Bool.false_eq_true, if_false, if_true, beq_eq_false_iff_ne, bne_eq_false_iff_eq, Bool.not_eq_true', Bool.not_eq_false', Int.ofNat_lt, Int.ofNat_le, Int.ofNat_inj, List.length_map, List.length_nil, List.length_cons] at hb) <;> conv => whnf)
  (refine rq_s (by (rfl)) ?_; conv => whnf)
  iterate 2 (refine rq_s (by (((first | (simp [maxBytes, subA]; done) | (refine and_s rfl ?_; simp only [decide_eq_true_eq, List.length_map]; rw [wrap64 (by omega) (by omega)]; omega) | (simp only [decide_eq_true_eq, Bool.and_eq_true, List.length_map]; rw [wrap64 (by omega) (by omega)]; omega) | (simp [maxBytes, subA]; omega))))) ?_; conv => whnf)
  (refine row_s (by ((try simp only [Nat.zero_add, List.length_map]); exact row_top _ (by omega) (by omega))) ?_; conv => whnf)
  (refine br_s (fun hb => ?_) (fun hb => ?_) <;> (try simp only [beq_iff_eq, bne_iff_ne, ne_eq, decide_eq_true_eq, decide_eq_false_iff_not, Int.not_lt, Int.not_le, Bool.false_eq_true, if_false, if_true, beq_eq_false_iff_ne, bne_eq_false_iff_eq, Bool.not_eq_true', Bool.not_eq_false', Int.ofNat_lt, Int.ofNat_le, Int.ofNat_inj, List.length_map, List.length_nil, List.length_cons] at hb) <;> conv => whnf)
  (refine rq_s (by (rfl)) ?_; conv => whnf)
  iterate 2 (refine rq_s (by (((first | (simp [maxBytes, subA]; done) | (refine and_s rfl ?_; simp only [decide_eq_true_eq, List.length_map]; rw [wrap64 (by omega) (by omega)]; omega) | (simp only [decide_eq_true_eq, Bool.and_eq_true, List.length_map]; rw [wrap64 (by omega) (by omega)]; omega) | (simp [maxBytes, subA]; omega))))) ?_; conv => whnf)
  (refine row_s (by ((try simp only [Nat.zero_add, List.length_map]); exact row_sec _ (by omega) (by omega))) ?_; conv => whnf)
  iterate 8 (refine rq_s (by (rfl)) ?_; conv => whnf)
  (refine lend_s ?_; conv => whnf)
  iterate 4 (refine rows_s (by (rfl)) ?_; conv => whnf)
  (refine call_s (do3 _ s1 _ _ hh.ds) ?_; conv => whnf)
  iterate 2 (refine fac_s (fun hf => ?_); conv => whnf)
  iterate 2 (refine br_f rfl ?_; conv => whnf)
  iterate 3 (refine ChkS.mk (by kernel_rfl) ?_; conv => whnf)
  (refine rq_s (by (rfl)) ?_; conv => whnf)
  (refine call_s (takes3 ..) ?_; conv => whnf)
  iterate 2 (refine ChkS.mk (by kernel_rfl) ?_; conv => whnf)
  (refine rq_s (by (rfl)) ?_; conv => whnf)
  (refine ChkS.mk (by kernel_rfl) ?_; conv => whnf)
  iterate 7 (refine rq_s (by (rfl)) ?_; conv => whnf)
  (refine rq_s (by ((simp only [decide_eq_true_eq, List.length_map, mkS_len, setRow_len]; done))) ?_; conv => whnf)
  (refine rq_s (by (rfl)) ?_; conv => whnf)
  iterate 3 (refine rows_s (by (rfl)) ?_; conv => whnf)
  (refine rows_s (by ((refine sub_all ?_; simp [List.length_map, mkS_len, setRow_len]; done))) ?_; conv => whnf)
  (refine call_s (put _ _ [_] g2 (by first | omega | (dsimp only; omega) | (simp; omega)) (by first | omega | (dsimp only; omega) | (simp; omega)) (by simp)) ?_; conv => whnf)
  iterate 5 (refine ChkS.mk (by kernel_rfl) ?_; conv => whnf)
  iterate 2 (refine fac_s (fun hf => ?_); conv => whnf)
  iterate 6 (refine ChkS.mk (by kernel_rfl) ?_; conv => whnf)
  iterate 2 (refine rq_s (by (rfl)) ?_; conv => whnf)
  (refine rq_s (by ((simp only [decide_eq_true_eq, List.length_map, mkS_len, setRow_len]; done))) ?_; conv => whnf)
  (refine rq_s (by (rfl)) ?_; conv => whnf)
  (refine rq_s (by ((simp only [decide_eq_true_eq, List.length_map, mkS_len, setRow_len]; done))) ?_; conv => whnf)
  (refine rq_s (by (rfl)) ?_; conv => whnf)
  (refine rq_s (by ((simp only [decide_eq_true_eq, List.length_map, mkS_len, setRow_len]; done))) ?_; conv => whnf)
  iterate 2 (refine rq_s (by (rfl)) ?_; conv => whnf)
  (refine rq_s (by ((simp only [decide_eq_true_eq, List.length_map, mkS_len, setRow_len]; done))) ?_; conv => whnf)
  iterate 8 (refine rq_s (by (rfl)) ?_; conv => whnf)
  iterate 4 (refine rows_s (by ((refine sub_all ?_; simp [List.length_map, mkS_len, setRow_len]; done))) ?_; conv => whnf)
  iterate 3 (refine rows_s (by (rfl)) ?_; conv => whnf)
  rotate_left
  iterate 8 (refine rq_s (by (rfl)) ?_; conv => whnf)
  (refine lend_s ?_; conv => whnf)
  iterate 4 (refine rows_s (by (rfl)) ?_; conv => whnf)
  (refine call_s (do3 _ s1 _ _ hh.ds) ?_; conv => whnf)
  iterate 2 (refine fac_s (fun hf => ?_); conv => whnf)
  iterate 2 (refine br_f rfl ?_; conv => whnf)
  iterate 3 (refine ChkS.mk (by kernel_rfl) ?_; conv => whnf)
  (refine rq_s (by (rfl)) ?_; conv => whnf)
  (refine call_s (takes3 ..) ?_; conv => whnf)
  iterate 2 (refine ChkS.mk (by kernel_rfl) ?_; conv => whnf)
  (refine rq_s (by (rfl)) ?_; conv => whnf)
  (refine ChkS.mk (by kernel_rfl) ?_; conv => whnf)
  iterate 7 (refine rq_s (by (rfl)) ?_; conv => whnf)
  (refine rq_s (by ((simp only [decide_eq_true_eq, List.length_map, mkS_len, setRow_len]; done))) ?_; conv => whnf)
  (refine rq_s (by (rfl)) ?_; conv => whnf)
  iterate 3 (refine rows_s (by (rfl)) ?_; conv => whnf)
  (refine rows_s (by ((refine sub_all ?_; simp [List.length_map, mkS_len, setRow_len]; done))) ?_; conv => whnf)
  (refine call_s (put _ _ [_] g2 (by first | omega | (dsimp only; omega) | (simp; omega)) (by first | omega | (dsimp only; omega) | (simp; omega)) (by simp)) ?_; conv => whnf)
  iterate 5 (refine ChkS.mk (by kernel_rfl) ?_; conv => whnf)
  iterate 2 (refine fac_s (fun hf => ?_); conv => whnf)
  iterate 6 (refine ChkS.mk (by kernel_rfl) ?_; conv => whnf)
  iterate 2 (refine rq_s (by (rfl)) ?_; conv => whnf)
  (refine rq_s (by ((simp only [decide_eq_true_eq, List.length_map, mkS_len, setRow_len]; done))) ?_; conv => whnf)
  (refine rq_s (by (rfl)) ?_; conv => whnf)
  (refine rq_s (by ((simp only [decide_eq_true_eq, List.length_map, mkS_len, setRow_len]; done))) ?_; conv => whnf)
  (refine rq_s (by (rfl)) ?_; conv => whnf)
  (refine rq_s (by ((simp only [decide_eq_true_eq, List.length_map, mkS_len, setRow_len]; done))) ?_; conv => whnf)
  iterate 2 (refine rq_s (by (rfl)) ?_; conv => whnf)
  (refine rq_s (by ((simp only [decide_eq_true_eq, List.length_map, mkS_len, setRow_len]; done))) ?_; conv => whnf)
  iterate 8 (refine rq_s (by (rfl)) ?_; conv => whnf)
  iterate 4 (refine rows_s (by ((refine sub_all ?_; simp [List.length_map, mkS_len, setRow_len]; done))) ?_; conv => whnf)
  iterate 3 (refine rows_s (by (rfl)) ?_; conv => whnf)
  rotate_left
  (refine br_s (fun hb => ?_) (fun hb => ?_) <;> (try simp only [beq_iff_eq, bne_iff_ne, ne_eq, decide_eq_true_eq, decide_eq_false_iff_not, Int.not_lt, Int.not_le, Bool.false_eq_true, if_false, if_true, beq_eq_false_iff_ne, bne_eq_false_iff_eq, Bool.not_eq_true', Bool.not_eq_false', Int.ofNat_lt, Int.ofNat_le, Int.ofNat_inj, List.length_map, List.length_nil, List.length_cons] at hb) <;> conv => whnf)
  (refine rq_s (by (rfl)) ?_; conv => whnf)
  iterate 2 (refine rq_s (by ((refine and_s rfl ?_; simp only [decide_eq_true_eq, List.length_map]; omega))) ?_; conv => whnf)
  (refine row_s (by ((try simp only [Nat.zero_add, List.length_map]); exact row_sec _ (by omega) (by omega))) ?_; conv => whnf)
  iterate 8 (refine rq_s (by (rfl)) ?_; conv => whnf)
  (refine lend_s ?_; conv => whnf)
  iterate 4 (refine rows_s (by (rfl)) ?_; conv => whnf)
  (refine call_s (do3 _ s1 _ _ hh.ds) ?_; conv => whnf)
  iterate 2 (refine fac_s (fun hf => ?_); conv => whnf)
  iterate 2 (refine br_f rfl ?_; conv => whnf)
  iterate 3 (refine ChkS.mk (by kernel_rfl) ?_; conv => whnf)
  (refine rq_s (by (rfl)) ?_; conv => whnf)
  (refine call_s (takes3 ..) ?_; conv => whnf)
  iterate 2 (refine ChkS.mk (by kernel_rfl) ?_; conv => whnf)
  (refine rq_s (by (rfl)) ?_; conv => whnf)
  (refine ChkS.mk (by kernel_rfl) ?_; conv => whnf)
  iterate 7 (refine rq_s (by (rfl)) ?_; conv => whnf)
  (refine rq_s (by ((simp only [decide_eq_true_eq, List.length_map, mkS_len, setRow_len]; done))) ?_; conv => whnf)
  (refine rq_s (by (rfl)) ?_; conv => whnf)
  iterate 3 (refine rows_s (by (rfl)) ?_; conv => whnf)
  (refine rows_s (by ((refine sub_all ?_; simp [List.length_map, mkS_len, setRow_len]; done))) ?_; conv => whnf)
  (refine call_s (put _ _ [_] g2 (by first | omega | (dsimp only; omega) | (simp; omega)) (by first | omega | (dsimp only; omega) | (simp; omega)) (by simp)) ?_; conv => whnf)
  iterate 5 (refine ChkS.mk (by kernel_rfl) ?_; conv => whnf)
  iterate 2 (refine fac_s (fun hf => ?_); conv => whnf)
  iterate 6 (refine ChkS.mk (by kernel_rfl) ?_; conv => whnf)
  iterate 2 (refine rq_s (by (rfl)) ?_; conv => whnf)
  (refine rq_s (by ((simp only [decide_eq_true_eq, List.length_map, mkS_len, setRow_len]; done))) ?_; conv => whnf)
  (refine rq_s (by (rfl)) ?_; conv => whnf)
  (refine rq_s (by ((simp only [decide_eq_true_eq, List.length_map, mkS_len, setRow_len]; done))) ?_; conv => whnf)
  (refine rq_s (by (rfl)) ?_; conv => whnf)
  (refine rq_s (by ((simp only [decide_eq_true_eq, List.length_map, mkS_len, setRow_len]; done))) ?_; conv => whnf)
  iterate 2 (refine rq_s (by (rfl)) ?_; conv => whnf)
  (refine rq_s (by ((simp only [decide_eq_true_eq, List.length_map, mkS_len, setRow_len]; done))) ?_; conv => whnf)
  iterate 8 (refine rq_s (by (rfl)) ?_; conv => whnf)
  iterate 4 (refine rows_s (by ((refine sub_all ?_; simp [List.length_map, mkS_len, setRow_len]; done))) ?_; conv => whnf)
  iterate 3 (refine rows_s (by (rfl)) ?_; conv => whnf)
  rotate_left
  iterate 8 (refine rq_s (by (rfl)) ?_; conv => whnf)
  (refine lend_s ?_; conv => whnf)
  iterate 4 (refine rows_s (by (rfl)) ?_; conv => whnf)
  (refine call_s (do3 _ s1 _ _ hh.ds) ?_; conv => whnf)
  iterate 2 (refine fac_s (fun hf => ?_); conv => whnf)
  iterate 2 (refine br_f rfl ?_; conv => whnf)
  iterate 3 (refine ChkS.mk (by kernel_rfl) ?_; conv => whnf)
  (refine rq_s (by (rfl)) ?_; conv => whnf)
  (refine call_s (takes3 ..) ?_; conv => whnf)
  iterate 2 (refine ChkS.mk (by kernel_rfl) ?_; conv => whnf)
  (refine rq_s (by (rfl)) ?_; conv => whnf)
  (refine ChkS.mk (by kernel_rfl) ?_; conv => whnf)
  iterate 7 (refine rq_s (by (rfl)) ?_; conv => whnf)
  (refine rq_s (by ((simp only [decide_eq_true_eq, List.length_map, mkS_len, setRow_len]; done))) ?_; conv => whnf)
  (refine rq_s (by (rfl)) ?_; conv => whnf)
  iterate 3 (refine rows_s (by (rfl)) ?_; conv => whnf)
  (refine rows_s (by ((refine sub_all ?_; simp [List.length_map, mkS_len, setRow_len]; done))) ?_; conv => whnf)
  (refine call_s (put _ _ [_] g2 (by first | omega | (dsimp only; omega) | (simp; omega)) (by first | omega | (dsimp only; omega) | (simp; omega)) (by simp)) ?_; conv => whnf)
  iterate 5 (refine ChkS.mk (by kernel_rfl) ?_; conv => whnf)
  iterate 2 (refine fac_s (fun hf => ?_); conv => whnf)
  iterate 6 (refine ChkS.mk (by kernel_rfl) ?_; conv => whnf)
  iterate 2 (refine rq_s (by (rfl)) ?_; conv => whnf)
  (refine rq_s (by ((simp only [decide_eq_true_eq, List.length_map, mkS_len, setRow_len]; done))) ?_; conv => whnf)
  (refine rq_s (by (rfl)) ?_; conv => whnf)
  (refine rq_s (by ((simp only [decide_eq_true_eq, List.length_map, mkS_len, setRow_len]; done))) ?_; conv => whnf)
  (refine rq_s (by (rfl)) ?_; conv => whnf)
  (refine rq_s (by ((simp only [decide_eq_true_eq, List.length_map, mkS_len, setRow_len]; done))) ?_; conv => whnf)
  iterate 2 (refine rq_s (by (rfl)) ?_; conv => whnf)
  (refine rq_s (by ((simp only [decide_eq_true_eq, List.length_map, mkS_len, setRow_len]; done))) ?_; conv => whnf)
  iterate 8 (refine rq_s (by (rfl)) ?_; conv => whnf)
  iterate 4 (refine rows_s (by ((refine sub_all ?_; simp [List.length_map, mkS_len, setRow_len]; done))) ?_; conv => whnf)
  iterate 3 (refine rows_s (by (rfl)) ?_; conv => whnf)
  rotate_left
  all_goals first
    | (exfalso; omega)
    | exact ⟨by rw [cf_1 (by assumption)]; exact Sh.refl _⟩
    | exact ⟨by rw [cf_2 (by assumption) (by omega)]; exact Sh.refl _⟩
    | exact ⟨by rw [cf3_3 (by assumption) (by omega) (by omega)]; exact Sh.refl _⟩
    | exact ⟨by rw [k3 (secF d) (topF d) (by assumption) (by omega) (by omega) (by omega)]; exact done_sh _ _ _⟩
    | exact ⟨by rw [k3 0 (topF d) (by assumption) (by omega) (by omega) (by omega)]; exact done_sh _ _ _⟩
    | exact ⟨by rw [k3 0 0 (by assumption) (by omega) (by omega) (by omega)]; exact done_sh _ _ _⟩
theorem scall (h : Hst) (d : Dat) (c : Int) (hh : hostOK h = true) (hd : dataOK d = true) (hc : inR c 0 3 = true) : Con Try.prog 55 [hstV h, datV d, .int .i64 c] (undefs [hstV h, datV d, .int .i64 c]) (.tup [hstV (callF h d c.toNat).1, datV (callF h d c.toNat).2.1, .int .i64 (callF h d c.toNat).2.2]) := by
  have e := inR_t hc
  have hh := (hostOK_iff h).1 hh
  have hd := (dataOK_iff d).1 hd
  have : c = 0 ∨ c = 1 ∨ c = 2 ∨ c = 3 := by omega
  rcases this with rfl | rfl | rfl | rfl
  · exact call0 h d hh hd
  · exact call1 h d hh hd
  · exact call2 h d hh hd
  · exact call3 h d hh hd
theorem small_B (h : Hst) (d : Dat) (h1 : h.gr.length ≤ 1000) (h2 : h.st.length ≤ 1000) (h3 : h.q.length ≤ 1000) (h4 : h.ds.length ≤ 1000) (d1 : d.st.length ≤ 1000) (d2 : d.bk.length ≤ 1000) (d3 : d.ce.length ≤ 1000) (d4 : d.ou.length ≤ 1000) (c : Nat) : smallHost (callB h d c).1 ∧ smallData (callB h d c).2.1 := by
  unfold callB
  split
  all_goals (repeat' split)
  all_goals refine ⟨⟨?_, ?_, ?_, ?_⟩, ?_, ?_, ?_, ?_⟩ <;> simp only [List.length_append, List.length_take, List.length_set, List.length_drop, List.length_cons, List.length_nil] <;> omega
theorem small_call {h : Hst} {d : Dat} {c : Int} (hh : hostOK h = true) (hd : dataOK d = true) (hc : inR c 0 3 = true) : smallHost (callF h d c.toNat).1 ∧ smallData (callF h d c.toNat).2.1 := by
  have hh := (hostOK_iff h).1 hh
  have hd := (dataOK_iff d).1 hd
  have s := And.intro (small_host hh) (small_data hd)
  have b := small_B h d (by have := hh.gr; omega) (by have := hh.st; omega) (by have := hh.q; omega) (by have := hh.ds; omega) (by have := hd.st; omega) (by have := hd.bk; omega) (by have := hd.ce; omega) (by have := hd.ou; omega) c.toNat
  unfold callF
  split
  · unfold callI
    split
    · exact s
    · split
      · exact s
      · exact b
  · exact s
set_option maxHeartbeats 2000000 in
theorem c10 (h : Hst) (d : Dat) (c : Int) : Con Try.prog 10 [hstV h, datV d, .int .i64 c] (undefs [hstV h, datV d, .int .i64 c]) (hcV (hostCallF h d c)) := by
  refine Con.ev 41 T_ok mix Try.func10 rfl rfl rfl rfl [.cell 6 27, .cell 7 30, .tmp 8, .tmp 9] rfl ?_
  conv => whnf
  iterate 7 (refine rq_s (by (rfl)) ?_; conv => whnf)
  (refine lend_s ?_; conv => whnf)
  iterate 4 (refine rows_s (by (rfl)) ?_; conv => whnf)
  (refine call_s (c52 ..) ?_; conv => whnf)
  (refine br_s (fun hb => ?_) (fun hb => ?_) <;> (try simp only [beq_iff_eq, bne_iff_ne, ne_eq, decide_eq_true_eq, decide_eq_false_iff_not, Int.not_lt, Int.not_le, Bool.false_eq_true, if_false, if_true, beq_eq_false_iff_ne, bne_eq_false_iff_eq, Bool.not_eq_true', Bool.not_eq_false', Int.ofNat_lt, Int.ofNat_le, Int.ofNat_inj, List.length_map, List.length_nil, List.length_cons] at hb) <;> conv => whnf)
  iterate 4 (refine br_t rfl ?_; conv => whnf)
  iterate 17 (refine rq_s (by (rfl)) ?_; conv => whnf)
  rotate_left
  (refine br_f rfl ?_; conv => whnf)
  iterate 6 (refine rq_s (by (rfl)) ?_; conv => whnf)
  (refine lend_s ?_; conv => whnf)
  iterate 3 (refine rows_s (by (rfl)) ?_; conv => whnf)
  (refine call_s (c53 ..) ?_; conv => whnf)
  (refine br_f rfl ?_; conv => whnf)
  (refine br_s (fun hb => ?_) (fun hb => ?_) <;> (try simp only [beq_iff_eq, bne_iff_ne, ne_eq, decide_eq_true_eq, decide_eq_false_iff_not, Int.not_lt, Int.not_le, Bool.false_eq_true, if_false, if_true, beq_eq_false_iff_ne, bne_eq_false_iff_eq, Bool.not_eq_true', Bool.not_eq_false', Int.ofNat_lt, Int.ofNat_le, Int.ofNat_inj, List.length_map, List.length_nil, List.length_cons] at hb) <;> conv => whnf)
  iterate 17 (refine rq_s (by (rfl)) ?_; conv => whnf)
  rotate_left
  iterate 3 (refine rq_s (by (rfl)) ?_; conv => whnf)
  (refine lend_s ?_; conv => whnf)
  (refine call_s (c54 ..) ?_; conv => whnf)
  (refine br_s (fun hb => ?_) (fun hb => ?_) <;> (try simp only [beq_iff_eq, bne_iff_ne, ne_eq, decide_eq_true_eq, decide_eq_false_iff_not, Int.not_lt, Int.not_le, Bool.false_eq_true, if_false, if_true, beq_eq_false_iff_ne, bne_eq_false_iff_eq, Bool.not_eq_true', Bool.not_eq_false', Int.ofNat_lt, Int.ofNat_le, Int.ofNat_inj, List.length_map, List.length_nil, List.length_cons] at hb) <;> conv => whnf)
  iterate 17 (refine rq_s (by (rfl)) ?_; conv => whnf)
  rotate_left
  iterate 12 (refine rq_s (by (rfl)) ?_; conv => whnf)
  (refine lend_s ?_; conv => whnf)
  iterate 7 (refine rows_s (by (rfl)) ?_; conv => whnf)
  (refine call_s (scall _ _ _ (by assumption) (by assumption) (by assumption)) ?_; conv => whnf)
  (refine fac_s (fun hf => ?_); conv => whnf)
  iterate 2 (refine ChkS.mk (by kernel_rfl) ?_; conv => whnf)
  iterate 5 (refine rq_s (by (rfl)) ?_; conv => whnf)
  iterate 4 (refine rows_s (by (rfl)) ?_; conv => whnf)
  (refine call_s (c56 _ (small_call (by assumption) (by assumption) (by assumption)).1) ?_; conv => whnf)
  iterate 2 (refine ChkS.mk (by kernel_rfl) ?_; conv => whnf)
  iterate 6 (refine rq_s (by (rfl)) ?_; conv => whnf)
  iterate 3 (refine rows_s (by (rfl)) ?_; conv => whnf)
  (refine call_s (c57 _ (small_call (by assumption) (by assumption) (by assumption)).2) ?_; conv => whnf)
  iterate 6 (refine ChkS.mk (by kernel_rfl) ?_; conv => whnf)
  iterate 11 (refine fac_s (fun hf => ?_); conv => whnf)
  iterate 2 (refine rq_s (by (rfl)) ?_; conv => whnf)
  (refine rq_s (by ((simp only [decide_eq_true_eq, List.length_map, mkS_len, setRow_len]; done))) ?_; conv => whnf)
  (refine rq_s (by (rfl)) ?_; conv => whnf)
  (refine rq_s (by ((simp only [decide_eq_true_eq, List.length_map, mkS_len, setRow_len]; done))) ?_; conv => whnf)
  (refine rq_s (by (rfl)) ?_; conv => whnf)
  (refine rq_s (by ((simp only [decide_eq_true_eq, List.length_map, mkS_len, setRow_len]; done))) ?_; conv => whnf)
  iterate 2 (refine rq_s (by (rfl)) ?_; conv => whnf)
  (refine rq_s (by ((simp only [decide_eq_true_eq, List.length_map, mkS_len, setRow_len]; done))) ?_; conv => whnf)
  (refine rq_s (by (rfl)) ?_; conv => whnf)
  (refine rq_s (by ((simp only [decide_eq_true_eq, List.length_map, mkS_len, setRow_len]; done))) ?_; conv => whnf)
  (refine rq_s (by (rfl)) ?_; conv => whnf)
  (refine rq_s (by ((simp only [decide_eq_true_eq, List.length_map, mkS_len, setRow_len]; done))) ?_; conv => whnf)
  (refine rq_s (by (rfl)) ?_; conv => whnf)
  (refine rq_s (by ((simp only [decide_eq_true_eq, List.length_map, mkS_len, setRow_len]; done))) ?_; conv => whnf)
  iterate 6 (refine rq_s (by (rfl)) ?_; conv => whnf)
  iterate 7 (refine rows_s (by ((refine sub_all ?_; simp [List.length_map, mkS_len, setRow_len]; done))) ?_; conv => whnf)
  rotate_left
  all_goals first
    | exact ⟨by rw [hc_bad (by assumption)]; exact zero_sh _⟩
    | exact ⟨by rw [hc_bad2 (by assumption)]; exact zero_sh _⟩
    | exact ⟨by rw [hc_kind (by assumption) (by assumption) (by assumption)]; exact zero_sh _⟩
    | exact ⟨by rw [hc_go (by assumption) (by assumption) (by assumption)]; exact Sh.refl _⟩
end H6
