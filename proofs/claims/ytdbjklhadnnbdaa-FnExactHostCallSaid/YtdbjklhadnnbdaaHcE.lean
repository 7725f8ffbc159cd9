/- HostCall: the reference's parts. -/
import Derived.Test.YtdbjklhadnnbdaaHcC
set_option linter.unusedVariables false
set_option linter.unusedSimpArgs false
set_option maxRecDepth 100000
open Go Go.Abs Go.Proofs V1 H1 H2 H3
namespace H5

theorem putF_t {d : Dat} {t : Nat} {l : List Int} (e : d.st.length - t + l.length > 32) : putF d t l = (d, -3) := by rw [putF, if_pos e]
theorem putF_f {d : Dat} {t : Nat} {l : List Int} (e : ¬ d.st.length - t + l.length > 32) : putF d t l = ({ d with st := d.st.take (d.st.length - t) ++ l }, 0) := by rw [putF, if_neg e]
theorem sh_eq {x y : AV} (h : x = y) : Sh x y := h ▸ Sh.refl x
theorem own_ro_map {α : Type} {n : Nat} (hn : n ≤ 1) {z : List AV} {f : α → List AV} {xs ys : List α} (e : xs = ys) : Sh (.own n z (xs.map f)) (.ro z (ys.map f)) := e ▸ Sh.own_ro hn _ _
theorem put (d : Dat) (t : Int) (l : List Int) (h : d.st.length ≤ 32) (h0 : 0 ≤ t) (ht : t ≤ d.st.length) (hl : l.length ≤ 4) : Con Try.prog 109 [datV d, .int .i64 t, roI l] (undefs [datV d, .int .i64 t, roI l]) (.tup [datV (putF d t.toNat l).1, .int .i64 (putF d t.toNat l).2]) := by
  have w1 : IntKind.i64.wrap ((d.st.length : Int) - t) = ((d.st.length - t.toNat : Nat) : Int) := by rw [wrap64 (by omega) (by omega)]; omega
  have w2 : IntKind.i64.wrap (((d.st.length - t.toNat : Nat) : Int) + l.length) = ((d.st.length - t.toNat + l.length : Nat) : Int) := by rw [wrap64 (by omega) (by omega)]; omega
  refine Con.ev 30 T_ok mix Try.func109 rfl rfl rfl rfl [.cell 6 30, .tmp 7] rfl ?_
  conv => whnf
  iterate 2 (refine rq_s (by (rfl)) ?_; conv => whnf)
  (refine br_s (fun hb => ?_) (fun hb => ?_) <;> (try simp only [beq_iff_eq, bne_iff_ne, ne_eq, decide_eq_true_eq, decide_eq_false_iff_not, Int.not_lt, Int.not_le, Bool.false_eq_true, if_false, if_true, beq_eq_false_iff_ne, bne_eq_false_iff_eq, Bool.not_eq_true', Bool.not_eq_false', Int.ofNat_lt, Int.ofNat_le, Int.ofNat_inj, List.length_map, List.length_nil, List.length_cons] at hb) <;> conv => whnf)
  iterate 8 (refine rq_s (by (rfl)) ?_; conv => whnf)
  iterate 3 (refine rows_s (by (rfl)) ?_; conv => whnf)
  rotate_left
  iterate 2 (refine rq_s (by (rfl)) ?_; conv => whnf)
  (refine rq_s (by ((simp only [Bool.and_eq_true, decide_eq_true_eq, List.length_map]; omega))) ?_; conv => whnf)
  (refine rq_s (by ((refine and_s rfl ?_; simp only [decide_eq_true_eq, List.length_map]; omega))) ?_; conv => whnf)
  iterate 3 (refine rq_s (by (rfl)) ?_; conv => whnf)
  (refine rq_s (by ((first | (simp [w1, w2, maxBytes, AV.plain, subA]; done) | (simp [w1, w2, maxBytes, AV.plain, subA]; omega)))) ?_; conv => whnf)
  iterate 2 (refine rq_s (by (rfl)) ?_; conv => whnf)
  (refine rq_s (by ((simp only [decide_eq_true_eq, List.length_map, mkS_len, setRow_len]; done))) ?_; conv => whnf)
  (refine rq_s (by ((first | (simp [w1, w2, maxBytes, AV.plain, subA]; done) | (simp [w1, w2, maxBytes, AV.plain, subA]; omega)))) ?_; conv => whnf)
  iterate 2 (refine rq_s (by (rfl)) ?_; conv => whnf)
  (refine rq_s (by ((simp only [decide_eq_true_eq, List.length_map, mkS_len, setRow_len]; done))) ?_; conv => whnf)
  iterate 7 (refine rq_s (by (rfl)) ?_; conv => whnf)
  iterate 3 (refine rows_s (by (rfl)) ?_; conv => whnf)
  rotate_left
  all_goals rw [w1, w2] at hb
  · exact ⟨by rw [putF_t (by omega)]; exact Sh.refl _⟩
  · rw [putF_f (by omega)]
    refine ⟨Sh.tup ⟨Sh.agg ⟨?_, Sh.refl _, Sh.refl _, Sh.refl _, Sh.refl _, Sh.refl _, trivial⟩, Sh.refl _, trivial⟩⟩
    refine Sh.trans ?_ (Sh.own_ro (lvl := 1) (by omega) _ _)
    refine sh_eq ?_
    simp [subA, w1, List.take_of_length_le]
theorem putE (d : Dat) (t : Int) (h : d.st.length ≤ 32) (h0 : 0 ≤ t) (ht : t ≤ d.st.length) : Con Try.prog 109 [datV d, .int .i64 t, AV.emp] (undefs [datV d, .int .i64 t, AV.emp]) (.tup [datV (putF d t.toNat []).1, .int .i64 (putF d t.toNat []).2]) := by
  have w1 : IntKind.i64.wrap ((d.st.length : Int) - t) = ((d.st.length - t.toNat : Nat) : Int) := by rw [wrap64 (by omega) (by omega)]; omega
  have w2 : IntKind.i64.wrap (((d.st.length - t.toNat : Nat) : Int) + ((0 : Nat) : Int)) = ((d.st.length - t.toNat : Nat) : Int) := by rw [wrap64 (by omega) (by omega)]; omega
  refine Con.ev 30 T_ok mix Try.func109 rfl rfl rfl rfl [.cell 6 30, .tmp 7] rfl ?_
  conv => whnf
  iterate 2 (refine rq_s (by (rfl)) ?_; conv => whnf)
  (refine br_s (fun hb => ?_) (fun hb => ?_) <;> (try simp only [beq_iff_eq, bne_iff_ne, ne_eq, decide_eq_true_eq, decide_eq_false_iff_not, Int.not_lt, Int.not_le, Bool.false_eq_true, if_false, if_true, beq_eq_false_iff_ne, bne_eq_false_iff_eq, Bool.not_eq_true', Bool.not_eq_false', Int.ofNat_lt, Int.ofNat_le, Int.ofNat_inj, List.length_map, List.length_nil, List.length_cons] at hb) <;> conv => whnf)
  iterate 8 (refine rq_s (by (rfl)) ?_; conv => whnf)
  iterate 3 (refine rows_s (by (rfl)) ?_; conv => whnf)
  rotate_left
  iterate 2 (refine rq_s (by (rfl)) ?_; conv => whnf)
  (refine rq_s (by ((simp only [Bool.and_eq_true, decide_eq_true_eq, List.length_map]; omega))) ?_; conv => whnf)
  (refine rq_s (by ((refine and_s rfl ?_; simp only [decide_eq_true_eq, List.length_map]; omega))) ?_; conv => whnf)
  iterate 3 (refine rq_s (by (rfl)) ?_; conv => whnf)
  (refine rq_s (by ((first | (simp [w1, w2, maxBytes, AV.plain, subA]; done) | (simp [w1, w2, maxBytes, AV.plain, subA]; omega)))) ?_; conv => whnf)
  (refine rq_s (by (rfl)) ?_; conv => whnf)
  (refine rq_s (by ((simp only [decide_eq_true_eq, List.length_map, mkS_len, setRow_len]; done))) ?_; conv => whnf)
  (refine rq_s (by ((first | (simp [w1, w2, maxBytes, AV.plain, subA]; done) | (simp [w1, w2, maxBytes, AV.plain, subA]; omega)))) ?_; conv => whnf)
  iterate 2 (refine rq_s (by (rfl)) ?_; conv => whnf)
  (refine rq_s (by ((simp only [decide_eq_true_eq, List.length_map, mkS_len, setRow_len]; done))) ?_; conv => whnf)
  iterate 7 (refine rq_s (by (rfl)) ?_; conv => whnf)
  iterate 3 (refine rows_s (by (rfl)) ?_; conv => whnf)
  rotate_left
  all_goals rw [w1, w2] at hb
  · exact ⟨by rw [putF_t (by simp; omega)]; exact Sh.refl _⟩
  · rw [putF_f (by simp; omega)]
    refine ⟨Sh.tup ⟨Sh.agg ⟨?_, Sh.refl _, Sh.refl _, Sh.refl _, Sh.refl _, Sh.refl _, trivial⟩, Sh.refl _, trivial⟩⟩
    refine Sh.trans ?_ (Sh.own_ro (lvl := 1) (by omega) _ _)
    refine sh_eq ?_
    simp [subA, w1, List.take_of_length_le]
theorem takes0 : Con Try.prog 107 [.int .i64 0] (undefs [.int .i64 0]) (.int .i64 1) := by
  refine Con.ev 7 T_ok mix Try.func107 rfl rfl rfl rfl [.tmp 2] rfl ?_
  conv => whnf
  iterate 2 (refine rq_s (by (rfl)) ?_; conv => whnf)
  (refine rq_s (by ((simp only [decide_eq_true_eq, List.length_map, mkS_len, setRow_len]; done))) ?_; conv => whnf)
  (refine rq_s (by (rfl)) ?_; conv => whnf)
  (refine row_s (by (rfl)) ?_; conv => whnf)
  (refine rq_s (by (rfl)) ?_; conv => whnf)
  (refine sh_s ?_; (rfl))
theorem takes1 : Con Try.prog 107 [.int .i64 1] (undefs [.int .i64 1]) (.int .i64 2) := by
  refine Con.ev 7 T_ok mix Try.func107 rfl rfl rfl rfl [.tmp 2] rfl ?_
  conv => whnf
  iterate 2 (refine rq_s (by (rfl)) ?_; conv => whnf)
  (refine rq_s (by ((simp only [decide_eq_true_eq, List.length_map, mkS_len, setRow_len]; done))) ?_; conv => whnf)
  (refine rq_s (by (rfl)) ?_; conv => whnf)
  (refine row_s (by (rfl)) ?_; conv => whnf)
  (refine rq_s (by (rfl)) ?_; conv => whnf)
  (refine sh_s ?_; (rfl))
theorem takes2 : Con Try.prog 107 [.int .i64 2] (undefs [.int .i64 2]) (.int .i64 1) := by
  refine Con.ev 7 T_ok mix Try.func107 rfl rfl rfl rfl [.tmp 2] rfl ?_
  conv => whnf
  iterate 2 (refine rq_s (by (rfl)) ?_; conv => whnf)
  (refine rq_s (by ((simp only [decide_eq_true_eq, List.length_map, mkS_len, setRow_len]; done))) ?_; conv => whnf)
  (refine rq_s (by (rfl)) ?_; conv => whnf)
  (refine row_s (by (rfl)) ?_; conv => whnf)
  (refine rq_s (by (rfl)) ?_; conv => whnf)
  (refine sh_s ?_; (rfl))
theorem takes3 : Con Try.prog 107 [.int .i64 3] (undefs [.int .i64 3]) (.int .i64 0) := by
  refine Con.ev 7 T_ok mix Try.func107 rfl rfl rfl rfl [.tmp 2] rfl ?_
  conv => whnf
  iterate 2 (refine rq_s (by (rfl)) ?_; conv => whnf)
  (refine rq_s (by ((simp only [decide_eq_true_eq, List.length_map, mkS_len, setRow_len]; done))) ?_; conv => whnf)
  (refine rq_s (by (rfl)) ?_; conv => whnf)
  (refine row_s (by (rfl)) ?_; conv => whnf)
  (refine rq_s (by (rfl)) ?_; conv => whnf)
  (refine sh_s ?_; (rfl))
def doF (h : Hst) (a b : Int) : Nat → Hst × Int × Int
  | 0 => if inR b 0 7 = false then (h, 0, -9) else ({ h with ds := h.ds ++ [⟨0, b, 0, h.st.getD b.toNat 0⟩] }, h.st.getD b.toNat 0, 0)
  | 1 => if inR b 0 7 = false then (h, 0, -9) else ({ h with st := h.st.set b.toNat a, ds := h.ds ++ [⟨1, b, a, 0⟩] }, 0, 0)
  | 2 => ({ h with q := h.q.drop 1, ds := h.ds ++ [⟨2, b, 0, h.q.getD 0 0⟩] }, h.q.getD 0 0, 0)
  | _ => ({ h with ds := h.ds ++ [⟨3, 0, 0, h.tk⟩] }, h.tk, 0)

theorem do3 (h : Hst) (hs : smallHost h) (a b : Int) (hd : h.ds.length ≤ 40) : Con Try.prog 108 [hstV h, .int .i64 3, .int .i64 a, .int .i64 b] (undefs [hstV h, .int .i64 3, .int .i64 a, .int .i64 b]) (.tup [hstO (doF h a b 3).1, .int .i64 (doF h a b 3).2.1, .int .i64 (doF h a b 3).2.2]) := by
  refine Con.ev 75 T_ok mix Try.func108 rfl rfl rfl rfl [.cell 8 27, .tmp 9, .tmp 10] rfl ?_
  conv => whnf
  iterate 7 (refine rq_s (by (rfl)) ?_; conv => whnf)
  (refine lend_s ?_; conv => whnf)
  iterate 4 (refine rows_s (by (rfl)) ?_; conv => whnf)
  (refine call_s (c56 _ hs) ?_; conv => whnf)
  iterate 5 (refine fac_s (fun hf => ?_); conv => whnf)
  iterate 3 (refine br_f rfl ?_; conv => whnf)
  iterate 4 (refine rq_s (by (rfl)) ?_; conv => whnf)
  (refine rq_s (by ((simp only [decide_eq_true_eq, List.length_map, mkS_len, setRow_len]; done))) ?_; conv => whnf)
  iterate 2 (refine rq_s (by (rfl)) ?_; conv => whnf)
  (refine rq_s (by ((simp only [decide_eq_true_eq, List.length_map, mkS_len, setRow_len]; done))) ?_; conv => whnf)
  (refine rq_s (by (((simp [maxBytes, subA]; omega)))) ?_; conv => whnf)
  (refine rq_s (by (rfl)) ?_; conv => whnf)
  iterate 2 (refine ChkS.mk (by kernel_rfl) ?_; conv => whnf)
  (refine rq_s (by (rfl)) ?_; conv => whnf)
  iterate 5 (refine ChkS.mk (by kernel_rfl) ?_; conv => whnf)
  (refine rq_s (by (rfl)) ?_; conv => whnf)
  (refine rq_s (by ((simp only [decide_eq_true_eq, List.length_map, mkS_len, setRow_len]; done))) ?_; conv => whnf)
  (refine rq_s (by (rfl)) ?_; conv => whnf)
  (refine rq_s (by ((simp only [decide_eq_true_eq, List.length_map, mkS_len, setRow_len]; done))) ?_; conv => whnf)
  (refine rq_s (by (rfl)) ?_; conv => whnf)
  (refine rq_s (by ((simp only [decide_eq_true_eq, List.length_map, mkS_len, setRow_len]; done))) ?_; conv => whnf)
  iterate 2 (refine rq_s (by (rfl)) ?_; conv => whnf)
  (refine rq_s (by ((simp only [decide_eq_true_eq, List.length_map, mkS_len, setRow_len]; done))) ?_; conv => whnf)
  iterate 3 (refine rq_s (by (rfl)) ?_; conv => whnf)
  iterate 3 (refine rows_s (by ((refine sub_all ?_; simp [List.length_map, mkS_len, setRow_len]; done))) ?_; conv => whnf)
  (refine rows_s (by (rfl)) ?_; conv => whnf)
  (focus (refine sh_s ?_; (first | rfl | (simp [doF, hstO, hstC, ownI, ownD, ownB, intR, dealR, subA, List.take_of_length_le]; done))))
theorem do2 (h : Hst) (hs : smallHost h) (a b : Int) (hd : h.ds.length ≤ 40) : Con Try.prog 108 [hstV h, .int .i64 2, .int .i64 a, .int .i64 b] (undefs [hstV h, .int .i64 2, .int .i64 a, .int .i64 b]) (.tup [hstO (doF h a b 2).1, .int .i64 (doF h a b 2).2.1, .int .i64 (doF h a b 2).2.2]) := by
  refine Con.ev 75 T_ok mix Try.func108 rfl rfl rfl rfl [.cell 8 27, .tmp 9, .tmp 10] rfl ?_
  conv => whnf
  iterate 7 (refine rq_s (by (rfl)) ?_; conv => whnf)
  (refine lend_s ?_; conv => whnf)
  iterate 4 (refine rows_s (by (rfl)) ?_; conv => whnf)
  (refine call_s (c56 _ hs) ?_; conv => whnf)
  iterate 5 (refine fac_s (fun hf => ?_); conv => whnf)
  iterate 2 (refine br_f rfl ?_; conv => whnf)
  (refine br_t rfl ?_; conv => whnf)
  iterate 2 (refine rq_s (by (rfl)) ?_; conv => whnf)
  (refine br_s (fun hb => ?_) (fun hb => ?_) <;> (try simp only [beq_iff_eq, bne_iff_ne, ne_eq, decide_eq_true_eq, decide_eq_false_iff_not, Int.not_lt, Int.not_le, Bool.false_eq_true, if_false, if_true, beq_eq_false_iff_ne, bne_eq_false_iff_eq, Bool.not_eq_true', Bool.not_eq_false', Int.ofNat_lt, Int.ofNat_le, Int.ofNat_inj, List.length_map, List.length_nil, List.length_cons] at hb) <;> conv => whnf)
  iterate 2 (refine rq_s (by (rfl)) ?_; conv => whnf)
  (refine rq_s (by ((simp only [decide_eq_true_eq, List.length_map, mkS_len, setRow_len]; done))) ?_; conv => whnf)
  (refine rq_s (by ((refine and_s rfl ?_; simp only [decide_eq_true_eq, List.length_map]; omega))) ?_; conv => whnf)
  (refine row_s (by ((try simp only [Int.toNat_natCast]); exact row_map intR _ _ _ default (by first | omega | (simp; omega) | (have i1 := inR_t (by assumption); omega)))) ?_; conv => whnf)
  iterate 3 (refine rq_s (by (rfl)) ?_; conv => whnf)
  (refine rq_s (by ((simp only [Bool.and_eq_true, decide_eq_true_eq, List.length_map]; omega))) ?_; conv => whnf)
  (refine rq_s (by ((simp only [decide_eq_true_eq, List.length_map, mkS_len, setRow_len]; done))) ?_; conv => whnf)
  iterate 4 (refine rq_s (by (rfl)) ?_; conv => whnf)
  (refine rq_s (by ((simp only [decide_eq_true_eq, List.length_map, mkS_len, setRow_len]; done))) ?_; conv => whnf)
  iterate 2 (refine rq_s (by (rfl)) ?_; conv => whnf)
  (refine rq_s (by ((simp only [decide_eq_true_eq, List.length_map, mkS_len, setRow_len]; done))) ?_; conv => whnf)
  (refine rq_s (by (((simp [maxBytes, subA]; omega)))) ?_; conv => whnf)
  (refine rq_s (by (rfl)) ?_; conv => whnf)
  iterate 2 (refine ChkS.mk (by kernel_rfl) ?_; conv => whnf)
  (refine rq_s (by (rfl)) ?_; conv => whnf)
  iterate 5 (refine ChkS.mk (by kernel_rfl) ?_; conv => whnf)
  (refine rq_s (by (rfl)) ?_; conv => whnf)
  (refine rq_s (by ((simp only [decide_eq_true_eq, List.length_map, mkS_len, setRow_len]; done))) ?_; conv => whnf)
  (refine rq_s (by (rfl)) ?_; conv => whnf)
  (refine rq_s (by ((simp only [decide_eq_true_eq, List.length_map, mkS_len, setRow_len]; done))) ?_; conv => whnf)
  (refine rq_s (by (rfl)) ?_; conv => whnf)
  (refine rq_s (by ((simp only [decide_eq_true_eq, List.length_map, mkS_len, setRow_len]; done))) ?_; conv => whnf)
  iterate 2 (refine rq_s (by (rfl)) ?_; conv => whnf)
  (refine rq_s (by ((simp only [decide_eq_true_eq, List.length_map, mkS_len, setRow_len]; done))) ?_; conv => whnf)
  iterate 3 (refine rq_s (by (rfl)) ?_; conv => whnf)
  iterate 3 (refine rows_s (by ((refine sub_all ?_; simp [List.length_map, mkS_len, setRow_len]; done))) ?_; conv => whnf)
  (refine rows_s (by (rfl)) ?_; conv => whnf)
  (focus (refine sh_s ?_; (first | rfl | (simp [doF, hstO, hstC, ownI, ownD, ownB, intR, dealR, subA, List.take_of_length_le]; done))))
  iterate 2 (refine rq_s (by (rfl)) ?_; conv => whnf)
  (refine rq_s (by ((simp only [decide_eq_true_eq, List.length_map, mkS_len, setRow_len]; done))) ?_; conv => whnf)
  iterate 2 (refine rq_s (by (rfl)) ?_; conv => whnf)
  (refine rq_s (by ((simp only [decide_eq_true_eq, List.length_map, mkS_len, setRow_len]; done))) ?_; conv => whnf)
  (refine rq_s (by (((simp [maxBytes, subA]; omega)))) ?_; conv => whnf)
  (refine rq_s (by (rfl)) ?_; conv => whnf)
  iterate 2 (refine ChkS.mk (by kernel_rfl) ?_; conv => whnf)
  (refine rq_s (by (rfl)) ?_; conv => whnf)
  iterate 5 (refine ChkS.mk (by kernel_rfl) ?_; conv => whnf)
  (refine rq_s (by (rfl)) ?_; conv => whnf)
  (refine rq_s (by ((simp only [decide_eq_true_eq, List.length_map, mkS_len, setRow_len]; done))) ?_; conv => whnf)
  (refine rq_s (by (rfl)) ?_; conv => whnf)
  (refine rq_s (by ((simp only [decide_eq_true_eq, List.length_map, mkS_len, setRow_len]; done))) ?_; conv => whnf)
  (refine rq_s (by (rfl)) ?_; conv => whnf)
  (refine rq_s (by ((simp only [decide_eq_true_eq, List.length_map, mkS_len, setRow_len]; done))) ?_; conv => whnf)
  iterate 2 (refine rq_s (by (rfl)) ?_; conv => whnf)
  (refine rq_s (by ((simp only [decide_eq_true_eq, List.length_map, mkS_len, setRow_len]; done))) ?_; conv => whnf)
  iterate 3 (refine rq_s (by (rfl)) ?_; conv => whnf)
  iterate 3 (refine rows_s (by ((refine sub_all ?_; simp [List.length_map, mkS_len, setRow_len]; done))) ?_; conv => whnf)
  (refine rows_s (by (rfl)) ?_; conv => whnf)
  rotate_left
  · have q0 : h.q = [] := List.length_eq_zero_iff.1 (by omega)
    exact ⟨by simp [doF, hstO, hstC, ownI, ownD, ownB, intR, dealR, subA, List.take_of_length_le, q0]; exact Sh.refl _⟩
theorem do0 (h : Hst) (hs : smallHost h) (a b : Int) (hst : h.st.length = 8) (hd : h.ds.length ≤ 40) : Con Try.prog 108 [hstV h, .int .i64 0, .int .i64 a, .int .i64 b] (undefs [hstV h, .int .i64 0, .int .i64 a, .int .i64 b]) (.tup [hstO (doF h a b 0).1, .int .i64 (doF h a b 0).2.1, .int .i64 (doF h a b 0).2.2]) := by
  refine Con.ev 75 T_ok mix Try.func108 rfl rfl rfl rfl [.cell 8 27, .tmp 9, .tmp 10] rfl ?_
  conv => whnf
  iterate 7 (refine rq_s (by (rfl)) ?_; conv => whnf)
  (refine lend_s ?_; conv => whnf)
  iterate 4 (refine rows_s (by (rfl)) ?_; conv => whnf)
  (refine call_s (c56 _ hs) ?_; conv => whnf)
  iterate 5 (refine fac_s (fun hf => ?_); conv => whnf)
  (refine br_t rfl ?_; conv => whnf)
  iterate 3 (refine rq_s (by (rfl)) ?_; conv => whnf)
  (refine lend_s ?_; conv => whnf)
  (refine call_s (c54 ..) ?_; conv => whnf)
  (refine br_s (fun hb => ?_) (fun hb => ?_) <;> (try simp only [beq_iff_eq, bne_iff_ne, ne_eq, decide_eq_true_eq, decide_eq_false_iff_not, Int.not_lt, Int.not_le, Bool.false_eq_true, if_false, if_true, beq_eq_false_iff_ne, bne_eq_false_iff_eq, Bool.not_eq_true', Bool.not_eq_false', Int.ofNat_lt, Int.ofNat_le, Int.ofNat_inj, List.length_map, List.length_nil, List.length_cons] at hb) <;> conv => whnf)
  (refine rq_s (by (rfl)) ?_; conv => whnf)
  (refine rq_s (by ((simp only [decide_eq_true_eq, List.length_map, mkS_len, setRow_len]; done))) ?_; conv => whnf)
  (refine rq_s (by (rfl)) ?_; conv => whnf)
  (refine rq_s (by ((simp only [decide_eq_true_eq, List.length_map, mkS_len, setRow_len]; done))) ?_; conv => whnf)
  (refine rq_s (by (rfl)) ?_; conv => whnf)
  (refine rq_s (by ((simp only [decide_eq_true_eq, List.length_map, mkS_len, setRow_len]; done))) ?_; conv => whnf)
  iterate 2 (refine rq_s (by (rfl)) ?_; conv => whnf)
  (refine rq_s (by ((simp only [decide_eq_true_eq, List.length_map, mkS_len, setRow_len]; done))) ?_; conv => whnf)
  iterate 3 (refine rq_s (by (rfl)) ?_; conv => whnf)
  iterate 4 (refine rows_s (by ((refine sub_all ?_; simp [List.length_map, mkS_len, setRow_len]; done))) ?_; conv => whnf)
  (focus (refine sh_s ?_; (first | rfl | (simp [doF, hstO, hstC, ownI, ownD, ownB, intR, dealR, subA, List.take_of_length_le, *]; done))))
  iterate 2 (refine rq_s (by (rfl)) ?_; conv => whnf)
  (refine rq_s (by ((first | (simp [maxBytes, subA]; omega) | (have i1 := inR_t (by assumption); simp [maxBytes, subA]; omega)))) ?_; conv => whnf)
  (refine rq_s (by ((simp only [decide_eq_true_eq, List.length_map, mkS_len, setRow_len]; done))) ?_; conv => whnf)
  (refine rq_s (by ((first | (simp [maxBytes, subA]; omega) | (have i1 := inR_t (by assumption); simp [maxBytes, subA]; omega)))) ?_; conv => whnf)
  (refine row_s (by ((try simp only [Int.toNat_natCast]); exact row_map intR _ _ _ default (by first | omega | (simp; omega) | (have i1 := inR_t (by assumption); omega)))) ?_; conv => whnf)
  iterate 3 (refine rq_s (by (rfl)) ?_; conv => whnf)
  (refine rq_s (by ((simp only [decide_eq_true_eq, List.length_map, mkS_len, setRow_len]; done))) ?_; conv => whnf)
  iterate 2 (refine rq_s (by (rfl)) ?_; conv => whnf)
  (refine rq_s (by ((simp only [decide_eq_true_eq, List.length_map, mkS_len, setRow_len]; done))) ?_; conv => whnf)
  (refine rq_s (by ((first | (simp [maxBytes, subA]; omega) | (have i1 := inR_t (by assumption); simp [maxBytes, subA]; omega)))) ?_; conv => whnf)
  (refine rq_s (by (rfl)) ?_; conv => whnf)
  iterate 2 (refine ChkS.mk (by kernel_rfl) ?_; conv => whnf)
  (refine rq_s (by (rfl)) ?_; conv => whnf)
  iterate 5 (refine ChkS.mk (by kernel_rfl) ?_; conv => whnf)
  (refine rq_s (by (rfl)) ?_; conv => whnf)
  (refine rq_s (by ((simp only [decide_eq_true_eq, List.length_map, mkS_len, setRow_len]; done))) ?_; conv => whnf)
  (refine rq_s (by (rfl)) ?_; conv => whnf)
  (refine rq_s (by ((simp only [decide_eq_true_eq, List.length_map, mkS_len, setRow_len]; done))) ?_; conv => whnf)
  (refine rq_s (by (rfl)) ?_; conv => whnf)
  (refine rq_s (by ((simp only [decide_eq_true_eq, List.length_map, mkS_len, setRow_len]; done))) ?_; conv => whnf)
  iterate 2 (refine rq_s (by (rfl)) ?_; conv => whnf)
  (refine rq_s (by ((simp only [decide_eq_true_eq, List.length_map, mkS_len, setRow_len]; done))) ?_; conv => whnf)
  iterate 3 (refine rq_s (by (rfl)) ?_; conv => whnf)
  iterate 3 (refine rows_s (by ((refine sub_all ?_; simp [List.length_map, mkS_len, setRow_len]; done))) ?_; conv => whnf)
  (refine rows_s (by (rfl)) ?_; conv => whnf)
  (focus (refine sh_s ?_; (first | rfl | (simp [doF, hstO, hstC, ownI, ownD, ownB, intR, dealR, subA, List.take_of_length_le, *]; done))))
theorem do1 (h : Hst) (hs : smallHost h) (a b : Int) (hst : h.st.length = 8) (hd : h.ds.length ≤ 40) : Con Try.prog 108 [hstV h, .int .i64 1, .int .i64 a, .int .i64 b] (undefs [hstV h, .int .i64 1, .int .i64 a, .int .i64 b]) (.tup [hstO (doF h a b 1).1, .int .i64 (doF h a b 1).2.1, .int .i64 (doF h a b 1).2.2]) := by
  have m1 : inR b 0 7 = true → setRow (h.st.map intR) b.toNat 0 [.int .i64 0] [.int .i64 a] = (h.st.map intR).set b.toNat [.int .i64 a] := fun e => by
    have e := inR_t e
    rw [setRow_int _ _ _ _ (by omega), List.map_set]
    rfl
  refine Con.ev 75 T_ok mix Try.func108 rfl rfl rfl rfl [.cell 8 27, .tmp 9, .tmp 10] rfl ?_
  conv => whnf
  iterate 7 (refine rq_s (by (rfl)) ?_; conv => whnf)
  (refine lend_s ?_; conv => whnf)
  iterate 4 (refine rows_s (by (rfl)) ?_; conv => whnf)
  (refine call_s (c56 _ hs) ?_; conv => whnf)
  iterate 5 (refine fac_s (fun hf => ?_); conv => whnf)
  (refine br_f rfl ?_; conv => whnf)
  (refine br_t rfl ?_; conv => whnf)
  iterate 3 (refine rq_s (by (rfl)) ?_; conv => whnf)
  (refine lend_s ?_; conv => whnf)
  (refine call_s (c54 ..) ?_; conv => whnf)
  (refine br_s (fun hb => ?_) (fun hb => ?_) <;> (try simp only [beq_iff_eq, bne_iff_ne, ne_eq, decide_eq_true_eq, decide_eq_false_iff_not, Int.not_lt, Int.not_le, Bool.false_eq_true, if_false, if_true, beq_eq_false_iff_ne, bne_eq_false_iff_eq, Bool.not_eq_true', Bool.not_eq_false', Int.ofNat_lt, Int.ofNat_le, Int.ofNat_inj, List.length_map, List.length_nil, List.length_cons] at hb) <;> conv => whnf)
  (refine rq_s (by (rfl)) ?_; conv => whnf)
  (refine rq_s (by ((simp only [decide_eq_true_eq, List.length_map, mkS_len, setRow_len]; done))) ?_; conv => whnf)
  (refine rq_s (by (rfl)) ?_; conv => whnf)
  (refine rq_s (by ((simp only [decide_eq_true_eq, List.length_map, mkS_len, setRow_len]; done))) ?_; conv => whnf)
  (refine rq_s (by (rfl)) ?_; conv => whnf)
  (refine rq_s (by ((simp only [decide_eq_true_eq, List.length_map, mkS_len, setRow_len]; done))) ?_; conv => whnf)
  iterate 2 (refine rq_s (by (rfl)) ?_; conv => whnf)
  (refine rq_s (by ((simp only [decide_eq_true_eq, List.length_map, mkS_len, setRow_len]; done))) ?_; conv => whnf)
  iterate 3 (refine rq_s (by (rfl)) ?_; conv => whnf)
  iterate 4 (refine rows_s (by ((refine sub_all ?_; simp [List.length_map, mkS_len, setRow_len]; done))) ?_; conv => whnf)
  (focus (refine sh_s ?_; (first | rfl | (simp [doF, hstO, hstC, ownI, ownD, ownB, intR, dealR, subA, List.take_of_length_le, *]; done))))
  iterate 3 (refine rq_s (by (rfl)) ?_; conv => whnf)
  (refine rq_s (by ((first | (simp [maxBytes, subA]; omega) | (have i1 := inR_t (by assumption); simp [maxBytes, subA]; omega)))) ?_; conv => whnf)
  (refine rq_s (by ((simp only [decide_eq_true_eq, List.length_map, mkS_len, setRow_len]; done))) ?_; conv => whnf)
  (refine rq_s (by ((first | (simp [maxBytes, subA]; omega) | (have i1 := inR_t (by assumption); simp [maxBytes, subA]; omega)))) ?_; conv => whnf)
  iterate 2 (refine rq_s (by (rfl)) ?_; conv => whnf)
  (refine rq_s (by ((simp only [decide_eq_true_eq, List.length_map, mkS_len, setRow_len]; done))) ?_; conv => whnf)
  iterate 2 (refine rq_s (by (rfl)) ?_; conv => whnf)
  (refine rq_s (by ((simp only [decide_eq_true_eq, List.length_map, mkS_len, setRow_len]; done))) ?_; conv => whnf)
  (refine rq_s (by ((first | (simp [maxBytes, subA]; omega) | (have i1 := inR_t (by assumption); simp [maxBytes, subA]; omega)))) ?_; conv => whnf)
  (refine rq_s (by (rfl)) ?_; conv => whnf)
  iterate 2 (refine ChkS.mk (by kernel_rfl) ?_; conv => whnf)
  (refine rq_s (by (rfl)) ?_; conv => whnf)
  iterate 5 (refine ChkS.mk (by kernel_rfl) ?_; conv => whnf)
  (refine rq_s (by (rfl)) ?_; conv => whnf)
  (refine rq_s (by ((simp only [decide_eq_true_eq, List.length_map, mkS_len, setRow_len]; done))) ?_; conv => whnf)
  (refine rq_s (by (rfl)) ?_; conv => whnf)
  (refine rq_s (by ((simp only [decide_eq_true_eq, List.length_map, mkS_len, setRow_len]; done))) ?_; conv => whnf)
  (refine rq_s (by (rfl)) ?_; conv => whnf)
  (refine rq_s (by ((simp only [decide_eq_true_eq, List.length_map, mkS_len, setRow_len]; done))) ?_; conv => whnf)
  iterate 2 (refine rq_s (by (rfl)) ?_; conv => whnf)
  (refine rq_s (by ((simp only [decide_eq_true_eq, List.length_map, mkS_len, setRow_len]; done))) ?_; conv => whnf)
  iterate 3 (refine rq_s (by (rfl)) ?_; conv => whnf)
  iterate 3 (refine rows_s (by ((refine sub_all ?_; simp [List.length_map, mkS_len, setRow_len]; done))) ?_; conv => whnf)
  (refine rows_s (by (rfl)) ?_; conv => whnf)
  (focus (refine sh_s ?_; (first | rfl | (simp [doF, hstO, hstC, ownI, ownD, ownB, intR, dealR, subA, List.take_of_length_le, *]; done))))
