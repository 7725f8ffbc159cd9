import Derived.Test.YtidkogijdlfjpaaGreatDoorApF
import Derived.Test.YtidkogijdlfjpaaGreatDoorApV
import Derived.Test.YtidkogijdlfjpaaGreatDoorAbs6
import Derived.Test.YtidkogijdlfjpaaGreatDoorRows
import Derived.Test.YtidkogijdlfjpaaGreatDoorTie
import Derived.Test.YtidkogijdlfjpaaGreatDoorCards
import Derived.SevenTiedAt
import Derived.LaidMore
import Derived.LaidLaws
import Derived.Lay
import Derived.Test.YtidkogijdlfjpaaGreatDoorAbs8
/- ApplyPrim: the reference's contract, and the law. -/
set_option linter.unusedVariables false
set_option linter.unusedSimpArgs false
set_option maxRecDepth 100000
open Go Go.Abs Go.Proofs V1 H1 F1 F2 T1 T2 T3 P1 P2 P3 P4 P5 P6 P7 P8 P9 P10 P11 P12 P13 P14 P15 P16 P17 P18 P19 P20
namespace P21




theorem c8 (d : Dat) (p fl : Int) : Con Tryz.prog 8 [datV d, .int .i64 p, .int .i64 fl] (undefs [datV d, .int .i64 p, .int .i64 fl]) (apV (applyF d p fl)) := by
  by_cases h1 : dataOK d = true
  rotate_left
  · rw [Bool.not_eq_true] at h1
    have k1 := c28 d
    rw [h1] at k1
    rw [applyF, if_pos h1]
    refine Con.ev 36 T_ok mix Tryz.func8 rfl rfl rfl rfl [.cell 6 26, .tmp 7, .tmp 8] rfl ?_
    conv => whnf
    iterate 7 (apply rq_s rfl;conv=>whnf)
    (apply lend_s;conv=>whnf)
    iterate 3 (apply rows_s rfl;conv=>whnf)
    (refine call_s (k1 ..) ?_;conv=>whnf)
    (apply br_t rfl;conv=>whnf)
    iterate 10 (apply rq_s rfl;conv=>whnf)
    rotate_left
    exact ⟨sh_dat0 _ _⟩
  have k1 := c28 d
  rw [h1] at k1
  have hd := (dataOK_iff d).1 h1
  by_cases h2 : inR p 1 52 = true
  rotate_left
  · rw [Bool.not_eq_true] at h2
    have g2 : (!inR p 1 52) = true := by rw [h2]; rfl
    rw [applyF, if_neg (by simp [h1]), if_pos h2]
    refine Con.ev 36 T_ok mix Tryz.func8 rfl rfl rfl rfl [.cell 6 26, .tmp 7, .tmp 8] rfl ?_
    conv => whnf
    iterate 7 (apply rq_s rfl;conv=>whnf)
    (apply lend_s;conv=>whnf)
    iterate 3 (apply rows_s rfl;conv=>whnf)
    (refine call_s (k1 ..) ?_;conv=>whnf)
    (apply br_f rfl;conv=>whnf)
    (apply rq_s rfl;conv=>whnf)
    (apply lend_s;conv=>whnf)
    (refine call_s (c29 ..) ?_;conv=>whnf)
    (apply br_t (by assumption);conv=>whnf)
    iterate 10 (apply rq_s rfl;conv=>whnf)
    rotate_left
    exact ⟨sh_dat0 _ _⟩
  have g2 : (!inR p 1 52) = false := by rw [h2]; rfl
  have i2 := inR_t h2
  by_cases h3 : inR fl 0 d.bk.length = true
  rotate_left
  · rw [Bool.not_eq_true] at h3
    have g3 : (!inR fl 0 ((d.bk.map intR).length : Nat)) = true := by rw [List.length_map, h3]; rfl
    rw [applyF, if_neg (by simp [h1]), if_neg (by simp [h2]), if_pos h3]
    refine Con.ev 36 T_ok mix Tryz.func8 rfl rfl rfl rfl [.cell 6 26, .tmp 7, .tmp 8] rfl ?_
    conv => whnf
    iterate 7 (apply rq_s rfl;conv=>whnf)
    (apply lend_s;conv=>whnf)
    iterate 3 (apply rows_s rfl;conv=>whnf)
    (refine call_s (k1 ..) ?_;conv=>whnf)
    (apply br_f rfl;conv=>whnf)
    (apply rq_s rfl;conv=>whnf)
    (apply lend_s;conv=>whnf)
    (refine call_s (c29 ..) ?_;conv=>whnf)
    (apply br_f (by assumption);conv=>whnf)
    iterate 4 (apply rq_s rfl;conv=>whnf)
    (apply lend_s;conv=>whnf)
    (refine call_s (c30 ..) ?_;conv=>whnf)
    (apply br_t (by assumption);conv=>whnf)
    iterate 10 (apply rq_s rfl;conv=>whnf)
    rotate_left
    exact ⟨sh_dat0 _ _⟩
  have g3 : (!inR fl 0 ((d.bk.map intR).length : Nat)) = false := by rw [List.length_map, h3]; rfl
  have k2 := c31 p.toNat (by unfold P52; omega) d fl hd (inR_t h3)
  rw [Int.toNat_of_nonneg (by omega)] at k2
  have k3 := c32 (primF TX p.toNat fl d).1 (small_ok (prim_ok hd))
  rw [applyF, if_neg (by simp [h1]), if_neg (by simp [h2]), if_neg (by simp [h3])]
  generalize primF TX p.toNat fl d = x at k2 k3
  refine Con.ev 36 T_ok mix Tryz.func8 rfl rfl rfl rfl [.cell 6 26, .tmp 7, .tmp 8] rfl ?_
  conv => whnf
  iterate 7 (apply rq_s rfl;conv=>whnf)
  (apply lend_s;conv=>whnf)
  iterate 3 (apply rows_s rfl;conv=>whnf)
  (refine call_s (k1 ..) ?_;conv=>whnf)
  (apply br_f rfl;conv=>whnf)
  (apply rq_s rfl;conv=>whnf)
  (apply lend_s;conv=>whnf)
  (refine call_s (c29 ..) ?_;conv=>whnf)
  (apply br_f (by assumption);conv=>whnf)
  iterate 4 (apply rq_s rfl;conv=>whnf)
  (apply lend_s;conv=>whnf)
  (refine call_s (c30 ..) ?_;conv=>whnf)
  (apply br_f (by assumption);conv=>whnf)
  iterate 8 (apply rq_s rfl;conv=>whnf)
  (apply lend_s;conv=>whnf)
  iterate 3 (apply rows_s rfl;conv=>whnf)
  (refine call_s (k2 ..) ?_;conv=>whnf)
  (refine fac_s (fun hf => ?_);conv=>whnf)
  iterate 6 (apply rq_s rfl;conv=>whnf)
  (apply lend_s;conv=>whnf)
  iterate 3 (apply rows_s rfl;conv=>whnf)
  (refine call_s (k3 ..) ?_;conv=>whnf)
  iterate 6 (refine fac_s (fun hf => ?_);conv=>whnf)
  (apply rq_s rfl;conv=>whnf)
  (apply rq_s (by simp only [lnm, mkS_len, setRow_len, mkData, ownI]; done);conv=>whnf)
  (apply rq_s rfl;conv=>whnf)
  (apply rq_s (by simp only [lnm, mkS_len, setRow_len, mkData, ownI]; done);conv=>whnf)
  (apply rq_s rfl;conv=>whnf)
  (apply rq_s (by simp only [lnm, mkS_len, setRow_len, mkData, ownI]; done);conv=>whnf)
  iterate 6 (apply rq_s rfl;conv=>whnf)
  iterate 3 (refine rows_s (by ((refine sub_all ?_; simp [List.length_map, mkS_len, setRow_len, mkData, ownI]; done))) ?_;conv=>whnf)
  rotate_left
  exact sh_s rfl
theorem small_ap {d : Dat} {p fl : Int} : smallData (applyF d p fl).1 := by
  have z : smallData dat0 := by simp [smallData, dat0]
  unfold applyF
  by_cases h1 : dataOK d = false
  · rw [if_pos h1]; exact z
  rw [if_neg h1]
  by_cases h2 : inR p 1 52 = false
  · rw [if_pos h2]; exact z
  rw [if_neg h2]
  by_cases h3 : inR fl 0 d.bk.length = false
  · rw [if_pos h3]; exact z
  rw [if_neg h3]
  exact small_ok (prim_ok ((dataOK_iff d).1 (by simpa using h1)))
set_option maxHeartbeats 40000000 in
theorem law (d : Dat) (p fl : Int) : Con Tryz.prog 3 [datV d, .int .i64 p, .int .i64 fl] (undefs [datV d, .int .i64 p, .int .i64 fl]) (.bool true) := by
  have k1 := c10 d p fl
  have k2 := c8 d p fl
  have k3 := small_ap (d := d) (p := p) (fl := fl)
  generalize applyF d p fl = r at k1 k2 k3
  obtain ⟨d', t, e⟩ := r
  dsimp only [apV] at k1 k2 k3
  have n2 := lenData_le k3
  have eD : ∀ a : Dat, Con Tryz.prog 11 [datV a, datV a] (undefs [datV a, datV a]) (.bool true) := fun a => by simpa using c11 a a
  have q2 := c13 (mkData d' 1) 1 (by omega) (by rw [lenData_mk]; omega)
  rw [heldData_mk d' 1 (by omega)] at q2
  refine Con.evFK [(0, [1, 2, 3, 6]), (1, [1, 2, 3, 6, 7]), (2, [1, 2, 3, 6, 7]), (3, [1, 2, 3, 6, 25]), (4, [1, 2, 3, 6]), (5, [1, 2, 3, 6, 8, 9, 10]), (6, [1, 2, 3, 6, 8, 9, 10, 11]), (7, [1, 2, 3, 6, 8, 9, 10, 11, 12, 13, 14]), (8, [1, 2, 3, 6, 8, 9, 10, 11, 12, 13, 14, 58]), (9, [1, 2, 3, 6, 8, 9, 10, 11, 12, 13, 14]), (10, [1, 2, 3, 6, 8, 9, 10, 11, 12, 13, 14, 63]), (11, [1, 2, 3, 6, 8, 9, 10, 11, 12, 13, 14]), (12, [1, 2, 3, 6, 8, 9, 10, 11, 12, 13, 14, 15]), (13, [1, 2, 3, 6, 8, 9, 10, 12, 13, 14, 15]), (14, [1, 2, 3, 6, 8, 9, 10, 12, 84]), (15, [1, 2, 3, 6, 8, 9, 10, 12]), (16, [1, 2, 3, 6, 8, 9, 10, 12, 16]), (17, [1, 2, 3, 6, 8, 9, 10, 12, 16]), (18, [1, 2, 3, 6, 8, 9, 10, 12, 16, 17]), (19, [1, 2, 3, 6, 8, 9, 10, 12, 16, 17]), (20, [1, 2, 3, 6, 8, 9, 10, 12, 16, 17, 92]), (21, [1, 2, 3, 6, 8, 9, 10, 12, 16, 17]), (22, [1, 2, 3, 6, 8, 9, 10, 12, 16, 17, 95]), (23, [1, 2, 3, 6, 8, 9, 10, 12, 16, 17]), (24, [6, 8, 9, 10, 12, 16, 17, 18, 19, 20]), (25, [6, 12, 16, 17, 118]), (26, [6, 12, 16, 17]), (27, [6, 12, 16, 17]), (28, [6, 16, 17]), (29, [6, 16, 17, 123]), (30, [6, 16, 17]), (31, [6, 126]), (32, [6]), (33, [6])] 127 T_ok mix Tryz.func3 rfl rfl rfl rfl [.tmp 6] rfl fun ⟨hy, _⟩ => ?_
  have y1 := facts_len fun j => hy (j + 1) (roI d.st) (by simp [datR])
  have y2 := facts_len fun j => hy (j + 1) (roI d.bk) (by simp [datR])
  have y3 := facts_len fun j => hy (j + 1) (roI d.ce) (by simp [datR])
  have y4 := facts_str fun j => hy (j + 1) (.str d.ou) (by simp [datR])
  clear hy
  conv => whnf
  iterate 8 (apply rq_s rfl;conv=>whnf)
  (apply lend_s;conv=>whnf)
  iterate 3 (apply rows_s rfl;conv=>whnf)
  (refine call_s (c7 d ..) ?_;conv=>whnf)
  (refine fac_s (fun hf => ?_);conv=>whnf)
  (refine br_s ?_ ?_ <;> intro hb <;> (try simp only [cln] at hb) <;> conv=>whnf)
  (apply rq_s rfl;conv=>whnf)
  (refine sh_s ?_; (rfl))
  iterate 6 (apply rq_s rfl;conv=>whnf)
  (apply lend_s;conv=>whnf)
  iterate 3 (apply rows_s rfl;conv=>whnf)
  rotate_left
  have a3 : 0 ≤ szData d 1048576 := by omega
  obtain ⟨_, s2⟩ := smallData_of (by omega) (by omega) y1 y2 y3 y4 a3
  have n4 := lenData_le s2
  (refine call_s (c9 _ s2) ?_;conv=>whnf)
  (apply rq_s (by simp only [lnm, mkS_len, setRow_len, mkData, ownI]; done);conv=>whnf)
  (apply rq_s rfl;conv=>whnf)
  (apply rq_s (by simp only [lnm, mkS_len, setRow_len, mkData, ownI]; done);conv=>whnf)
  (apply rq_s rfl;conv=>whnf)
  (apply rq_s (by simp only [lnm, mkS_len, setRow_len, mkData, ownI]; done);conv=>whnf)
  iterate 6 (apply rq_s rfl;conv=>whnf)
  (apply lend_s;conv=>whnf)
  iterate 3 (refine rows_s (by ((refine sub_all ?_; simp [List.length_map, mkS_len, setRow_len, mkData, ownI]; done))) ?_;conv=>whnf)
  (refine call_s (k2 ..) ?_;conv=>whnf)
  iterate 8 (refine fac_s (fun hf => ?_);conv=>whnf)
  iterate 6 (apply rq_s rfl;conv=>whnf)
  (apply lend_s;conv=>whnf)
  iterate 3 (apply rows_s rfl;conv=>whnf)
  (refine call_s (c9 _ s2) ?_;conv=>whnf)
  iterate 6 (refine fac_s (fun hf => ?_);conv=>whnf)
  (apply rq_s (by simp only [lnm, mkS_len, setRow_len, mkData, ownI]; done);conv=>whnf)
  (apply rq_s rfl;conv=>whnf)
  (apply rq_s (by simp only [lnm, mkS_len, setRow_len, mkData, ownI]; done);conv=>whnf)
  (apply rq_s rfl;conv=>whnf)
  (apply rq_s (by simp only [lnm, mkS_len, setRow_len, mkData, ownI]; done);conv=>whnf)
  iterate 6 (apply rq_s rfl;conv=>whnf)
  (apply lend_s;conv=>whnf)
  iterate 3 (refine rows_s (by ((refine sub_all ?_; simp [List.length_map, mkS_len, setRow_len, mkData, ownI]; done))) ?_;conv=>whnf)
  (refine call_s (k1 ..) ?_;conv=>whnf)
  iterate 2 (refine fac_s (fun hf => ?_);conv=>whnf)
  (apply rq_s (by simp only [lnm, mkS_len, setRow_len, mkData, ownI]; done);conv=>whnf)
  (apply rq_s rfl;conv=>whnf)
  (apply rq_s (by simp only [lnm, mkS_len, setRow_len, mkData, ownI]; done);conv=>whnf)
  (apply rq_s rfl;conv=>whnf)
  (apply rq_s (by simp only [lnm, mkS_len, setRow_len, mkData, ownI]; done);conv=>whnf)
  iterate 4 (apply rq_s rfl;conv=>whnf)
  (apply rq_s (by simp only [lnm, mkS_len, setRow_len, mkData, ownI]; done);conv=>whnf)
  (apply rq_s rfl;conv=>whnf)
  (apply rq_s (by simp only [lnm, mkS_len, setRow_len, mkData, ownI]; done);conv=>whnf)
  (apply rq_s rfl;conv=>whnf)
  (apply rq_s (by simp only [lnm, mkS_len, setRow_len, mkData, ownI]; done);conv=>whnf)
  iterate 4 (apply rq_s rfl;conv=>whnf)
  (apply lend_s;conv=>whnf)
  iterate 6 (refine rows_s (by ((refine sub_all ?_; simp [List.length_map, mkS_len, setRow_len, mkData, ownI]; done))) ?_;conv=>whnf)
  (refine call_s (eD d' ..) ?_;conv=>whnf)
  iterate 3 (apply br_f rfl;conv=>whnf)
  (focus (apply br_f (by (simp; done));conv=>whnf))
  iterate 2 (apply br_f rfl;conv=>whnf)
  (focus (apply br_f (by (simp; done));conv=>whnf))
  iterate 3 (refine ChkS.mk (by kernel_rfl) ?_;conv=>whnf)
  iterate 6 (apply rq_s rfl;conv=>whnf)
  iterate 3 (apply rows_s rfl;conv=>whnf)
  (refine call_s (c9 _ s2) ?_;conv=>whnf)
  (refine ChkS.mk (by kernel_rfl) ?_;conv=>whnf)
  (apply rq_s (by simp only [lnm, mkS_len, setRow_len, mkData, ownI]; done);conv=>whnf)
  (apply rq_s rfl;conv=>whnf)
  (apply rq_s (by simp only [lnm, mkS_len, setRow_len, mkData, ownI]; done);conv=>whnf)
  (apply rq_s rfl;conv=>whnf)
  (apply rq_s (by simp only [lnm, mkS_len, setRow_len, mkData, ownI]; done);conv=>whnf)
  iterate 4 (apply rq_s rfl;conv=>whnf)
  (apply rq_s (by simp only [lnm, mkS_len, setRow_len, mkData, ownI]; done);conv=>whnf)
  (apply rq_s rfl;conv=>whnf)
  (apply rq_s (by simp only [lnm, mkS_len, setRow_len, mkData, ownI]; done);conv=>whnf)
  (apply rq_s rfl;conv=>whnf)
  (apply rq_s (by simp only [lnm, mkS_len, setRow_len, mkData, ownI]; done);conv=>whnf)
  iterate 4 (apply rq_s rfl;conv=>whnf)
  iterate 6 (refine rows_s (by ((refine sub_all ?_; simp [List.length_map, mkS_len, setRow_len, mkData, ownI]; done))) ?_;conv=>whnf)
  (refine call_s (eD d ..) ?_;conv=>whnf)
  iterate 2 (refine ChkS.mk (by kernel_rfl) ?_;conv=>whnf)
  iterate 6 (refine fac_s (fun hf => ?_);conv=>whnf)
  (apply br_f rfl;conv=>whnf)
  (apply rq_s (by simp only [lnm, mkS_len, setRow_len, mkData, ownI]; done);conv=>whnf)
  (apply rq_s rfl;conv=>whnf)
  (apply rq_s (by simp only [lnm, mkS_len, setRow_len, mkData, ownI]; done);conv=>whnf)
  (apply rq_s rfl;conv=>whnf)
  (apply rq_s (by simp only [lnm, mkS_len, setRow_len, mkData, ownI]; done);conv=>whnf)
  iterate 5 (apply rq_s rfl;conv=>whnf)
  (refine handA_s 12 ?_;conv=>whnf)
  (apply rq_s rfl;conv=>whnf)
  iterate 3 (apply rq_s (by simp only [lnm, mkS_len, setRow_len, mkData, ownI]; done);conv=>whnf)
  iterate 3 (apply rows_s rfl;conv=>whnf)
  (refine handAc_s (f := 12) (c12 d 1 (by omega) (by omega) ..) (by simp [szOk, List.length_map, mkS_len, setRow_len, mkData, ownI]) ?_;conv=>whnf)
  (refine fac_s (fun hf => ?_);conv=>whnf)
  iterate 3 (apply br_f rfl;conv=>whnf)
  (apply rq_s (by simp only [lnm, mkS_len, setRow_len, mkData, ownI]; done);conv=>whnf)
  (apply rq_s rfl;conv=>whnf)
  (apply rq_s (by simp only [lnm, mkS_len, setRow_len, mkData, ownI]; done);conv=>whnf)
  (apply rq_s rfl;conv=>whnf)
  (apply rq_s (by simp only [lnm, mkS_len, setRow_len, mkData, ownI]; done);conv=>whnf)
  iterate 4 (apply rq_s rfl;conv=>whnf)
  (apply rq_s (by simp only [lnm, mkS_len, setRow_len, mkData, ownI]; done);conv=>whnf)
  (apply rq_s rfl;conv=>whnf)
  (apply rq_s (by simp only [lnm, mkS_len, setRow_len, mkData, ownI]; done);conv=>whnf)
  (apply rq_s rfl;conv=>whnf)
  (apply rq_s (by simp only [lnm, mkS_len, setRow_len, mkData, ownI]; done);conv=>whnf)
  iterate 4 (apply rq_s rfl;conv=>whnf)
  (apply lend_s;conv=>whnf)
  iterate 6 (refine rows_s (by ((refine sub_all ?_; simp [List.length_map, mkS_len, setRow_len, mkData, ownI]; done))) ?_;conv=>whnf)
  (refine call_s (eD d' ..) ?_;conv=>whnf)
  iterate 4 (apply br_f rfl;conv=>whnf)
  (focus (apply br_f (by (simp; done));conv=>whnf))
  iterate 2 (apply br_f rfl;conv=>whnf)
  (focus (apply br_f (by (simp; done));conv=>whnf))
  (apply rq_s (by simp only [lnm, mkS_len, setRow_len, mkData, ownI]; done);conv=>whnf)
  (apply rq_s rfl;conv=>whnf)
  (apply rq_s (by simp only [lnm, mkS_len, setRow_len, mkData, ownI]; done);conv=>whnf)
  (apply rq_s rfl;conv=>whnf)
  (apply rq_s (by simp only [lnm, mkS_len, setRow_len, mkData, ownI]; done);conv=>whnf)
  iterate 5 (apply rq_s rfl;conv=>whnf)
  (refine handA_s 12 ?_;conv=>whnf)
  (apply rq_s rfl;conv=>whnf)
  iterate 3 (apply rq_s (by simp only [lnm, mkS_len, setRow_len, mkData, ownI]; done);conv=>whnf)
  iterate 3 (apply rows_s rfl;conv=>whnf)
  (refine handAc_s (f := 12) (c12 d' 1 (by omega) (by omega) ..) (by simp [szOk, List.length_map, mkS_len, setRow_len, mkData, ownI]) ?_;conv=>whnf)
  (refine fac_s (fun hf => ?_);conv=>whnf)
  (apply rq_s (by simp only [lnm, mkS_len, setRow_len, mkData, ownI]; done);conv=>whnf)
  (apply rq_s rfl;conv=>whnf)
  (apply rq_s (by simp only [lnm, mkS_len, setRow_len, mkData, ownI]; done);conv=>whnf)
  (apply rq_s rfl;conv=>whnf)
  (apply rq_s (by simp only [lnm, mkS_len, setRow_len, mkData, ownI]; done);conv=>whnf)
  iterate 5 (apply rq_s rfl;conv=>whnf)
  (apply lend_s;conv=>whnf)
  iterate 3 (refine rows_s (by ((refine sub_all ?_; simp [List.length_map, mkS_len, setRow_len, mkData, ownI]; done))) ?_;conv=>whnf)
  (refine call_s (q2 ..) ?_;conv=>whnf)
  (refine fac_s (fun hf => ?_);conv=>whnf)
  (apply br_f rfl;conv=>whnf)
  (focus (apply br_f (by (simp; done));conv=>whnf))
  iterate 6 (apply rq_s rfl;conv=>whnf)
  (apply lend_s;conv=>whnf)
  iterate 3 (apply rows_s rfl;conv=>whnf)
  (refine call_s (c9 _ s2) ?_;conv=>whnf)
  (apply rq_s (by simp only [lnm, mkS_len, setRow_len, mkData, ownI]; done);conv=>whnf)
  (apply rq_s rfl;conv=>whnf)
  (apply rq_s (by simp only [lnm, mkS_len, setRow_len, mkData, ownI]; done);conv=>whnf)
  (apply rq_s rfl;conv=>whnf)
  (apply rq_s (by simp only [lnm, mkS_len, setRow_len, mkData, ownI]; done);conv=>whnf)
  iterate 6 (apply rq_s rfl;conv=>whnf)
  (apply lend_s;conv=>whnf)
  iterate 3 (refine rows_s (by ((refine sub_all ?_; simp [List.length_map, mkS_len, setRow_len, mkData, ownI]; done))) ?_;conv=>whnf)
  (refine call_s (k1 ..) ?_;conv=>whnf)
  iterate 8 (refine fac_s (fun hf => ?_);conv=>whnf)
  (apply rq_s (by simp only [lnm, mkS_len, setRow_len, mkData, ownI]; done);conv=>whnf)
  (apply rq_s rfl;conv=>whnf)
  (apply rq_s (by simp only [lnm, mkS_len, setRow_len, mkData, ownI]; done);conv=>whnf)
  (apply rq_s rfl;conv=>whnf)
  (apply rq_s (by simp only [lnm, mkS_len, setRow_len, mkData, ownI]; done);conv=>whnf)
  iterate 4 (apply rq_s rfl;conv=>whnf)
  (apply rq_s (by simp only [lnm, mkS_len, setRow_len, mkData, ownI]; done);conv=>whnf)
  (apply rq_s rfl;conv=>whnf)
  (apply rq_s (by simp only [lnm, mkS_len, setRow_len, mkData, ownI]; done);conv=>whnf)
  (apply rq_s rfl;conv=>whnf)
  (apply rq_s (by simp only [lnm, mkS_len, setRow_len, mkData, ownI]; done);conv=>whnf)
  iterate 4 (apply rq_s rfl;conv=>whnf)
  (apply lend_s;conv=>whnf)
  iterate 6 (refine rows_s (by ((refine sub_all ?_; simp [List.length_map, mkS_len, setRow_len, mkData, ownI]; done))) ?_;conv=>whnf)
  (refine call_s (eD d' ..) ?_;conv=>whnf)
  iterate 3 (apply br_f rfl;conv=>whnf)
  (focus (apply br_f (by (simp; done));conv=>whnf))
  iterate 2 (apply br_f rfl;conv=>whnf)
  (focus (apply br_f (by (simp; done));conv=>whnf))
  (apply rq_s (by simp only [lnm, mkS_len, setRow_len, mkData, ownI]; done);conv=>whnf)
  (apply rq_s rfl;conv=>whnf)
  (apply rq_s (by simp only [lnm, mkS_len, setRow_len, mkData, ownI]; done);conv=>whnf)
  (apply rq_s rfl;conv=>whnf)
  (apply rq_s (by simp only [lnm, mkS_len, setRow_len, mkData, ownI]; done);conv=>whnf)
  iterate 5 (apply rq_s rfl;conv=>whnf)
  (apply lend_s;conv=>whnf)
  iterate 3 (refine rows_s (by ((refine sub_all ?_; simp [List.length_map, mkS_len, setRow_len, mkData, ownI]; done))) ?_;conv=>whnf)
  (refine call_s (q2 ..) ?_;conv=>whnf)
  (refine fac_s (fun hf => ?_);conv=>whnf)
  (apply br_f rfl;conv=>whnf)
  (focus (apply br_f (by (simp; done));conv=>whnf))
  (apply rq_s rfl;conv=>whnf)
  (refine sh_s ?_; (first | rfl | (exfalso; omega)))
end P21

/- Data, ints: what the arguments are. -/
open Go Go.Abs Go.Proofs V1
namespace P22
theorem data_ofd {d : Nat} {l : List AV} (h : OfT T (d + 4) 24 l) : ∃ x : Dat, l = datR x := by
  obtain ⟨_, _, rfl, ⟨r1, rfl, h1⟩, _, _, rfl, ⟨r2, rfl, h2⟩, _, _, rfl, ⟨r3, rfl, h3⟩, _, _, rfl, ⟨he, rfl⟩, _, _, rfl, ⟨ba, rfl⟩, _, _, rfl, ⟨ou, rfl⟩, rfl⟩ := h
  obtain ⟨st, rfl⟩ := rows_map intR h1
  obtain ⟨bk, rfl⟩ := rows_map intR h2
  obtain ⟨ce, rfl⟩ := rows_map intR h3
  exact ⟨⟨st, bk, ce, he, ba, ou⟩, rfl⟩
theorem data_of {l : List AV} (h : OfT T 10 24 l) : ∃ x : Dat, l = datR x := data_ofd (d := 6) h
theorem int_of {x : AV} (h : OfT T 10 3 [x]) : ∃ n, x = .int .i64 n := by
  obtain ⟨n, h1⟩ := h
  injection h1 with h1
  exact ⟨n, h1⟩
end P22

/- FnExactApplyPrim: the law returns true at every input, and its arguments read behind the call as they did. -/
namespace Go.Proofs.YtidkogijdlfjpaaGreatDoor.FnExactApplyPrim
open Go.ChangeShapes Go.WideShapes Go.ChangeAt Go.RowKit Go.Joins
open Go.Abs V1 P21 P22
theorem own : ownKnob Tryz.prog.godebug = none := by kernel_rfl
theorem laidOut : laidOutB Tryz.prog = true := by kernel_rfl
theorem tabs_met {W : World} (h : laidMetH Tryz.prog Rows.fnExactApplyPrimRow.laid W) : Tabs Tryz.prog W none2 := by
  rw [MakeChecks.laidMetH_plain _ _ _ (by kernel_rfl)] at h
  obtain ⟨ps, hl, _⟩ := h
  have m0 : ("internal/strconv.uint64pow10", (Lib.tabData .u64 Lib.pow10Tab : DataW Unit)) ∈ Rows.fnExactApplyPrimRow.laid := List.mem_of_getElem? (i := 2) (by kernel_rfl)
  have t0 := tab_of_laid (t := 127) (e := 93) (n := 20) (g := 1) (by kernel_rfl) (by kernel_rfl) Tryz.underlying127 Tryz.underlying93 (by kernel_rfl) (by kernel_rfl) hl m0
  have m1 : ("math/bits.deBruijn64tab", (Lib.tabData .u8 (Lib.deBruijn64tab.map fun z : Nat => (z : Int)) : DataW Unit)) ∈ Rows.fnExactApplyPrimRow.laid := List.mem_of_getElem? (i := 1) (by kernel_rfl)
  have t1 := tab_of_laid (t := 143) (e := 5) (n := 64) (g := 6) (by kernel_rfl) (by kernel_rfl) Tryz.underlying143 Tryz.underlying5 (by kernel_rfl) (by kernel_rfl) hl m1
  intro x hx g hg
  simp only [tabL, List.mem_cons, List.not_mem_nil, or_false] at hx
  rcases hx with rfl | rfl
  · exact ⟨tab_cells t0 hg, fun _ k => k⟩
  · exact ⟨tab_cells t1 hg, fun _ k => k⟩
set_option maxRecDepth 100000 in
theorem lifted (os : Os) (started : os.Started) (H : Type) (enc : TypeId × Value → H) :
    ReturnsInHanded {} Tryz.checked os 3 .any (fun w args => (Rows.fnExactApplyPrimSpec.pre enc Tryz.prog Tryz.f3 [] false w args ∧ laidMetH Tryz.prog Rows.fnExactApplyPrimRow.laid w) ∧ sizedMet enc Tryz.prog Tryz.f3 (OpenSpec.ofChange Rows.fnExactApplyPrimSpec) false w args) (Rows.fnExactApplyPrimSpec.post enc Tryz.prog Tryz.f3 false true false false) := by
  refine returnsInHanded_of_change_and (C := Tryz.checked) (X := fun w _ => laidMetH Tryz.prog Rows.fnExactApplyPrimRow.laid w) (fun _ _ _ hh h => h.of_heap hh) own started (by kernel_rfl) Tryz.func3
    (ChangeSpec.witness_shaped (enc := enc) (C := Tryz.checked) (os := os) (X := fun w _ => laidMetH Tryz.prog Rows.fnExactApplyPrimRow.laid w) false (World.laidAll Tryz.prog os Rows.fnExactApplyPrimRow.laid) #[.agg #[.slice none 0 0, .slice none 0 0, .slice none 0 0, .int .i64 0, .int .i64 0, .string ⟨#[]⟩], .int .i64 0, .int .i64 0] 8 (World.laidAll_os _ _ _) (World.shaped_of_ZipB (by kernel_rfl) (by kernel_rfl)) (by kernel_rfl) (by kernel_rfl) (by kernel_rfl) (by rw [MakeChecks.laidMetH_plain _ _ _ (by kernel_rfl)]; exact laidMet_laidAll _ (by kernel_rfl) (by kernel_rfl))) ?_
  intro W base args ds gs before hval0 hW _ _ hL _
  have hval : ∀ (j : Nat) t v, Tryz.f3.params[j]? = some t → args[j]? = some v → Value.okWide Tryz.prog W .any base t v := hval0
  have hW' := hW
  obtain ⟨p, q, hA0, hV, rfl, hfz, hnd⟩ := hW
  have hA : DataW.TrodAll enc Tryz.prog W 0 (fun _ => true) true Tryz.f3.params.toList args.toList ds p := hA0
  rw [Tryz.params3] at hA hval
  obtain ⟨v0, vs0, d0, ds0, p0, q0, hargs0, rfl, rfl, h0, r0⟩ := trodAll_cons hA
  obtain ⟨v1, vs1, d1, ds1, p1, q1, hargs1, rfl, rfl, h1, r1⟩ := trodAll_cons r0
  obtain ⟨v2, vs2, d2, ds2, p2, q2, hargs2, rfl, rfl, h2, r2⟩ := trodAll_cons r1
  obtain ⟨hnil, rfl, rfl⟩ := trodAll_nil r2
  obtain rfl : args = #[v0, v1, v2] := by
    cases args
    simp_all
  obtain ⟨rfl, rfl⟩ := trodVars_none hV
  have k0 := h0
  have lt0 : ∀ x ∈ p0, x.block < W.heap.size := by obtain ⟨m, hm⟩ := k0; exact DataW.trod_lt m _ _ _ hm
  obtain ⟨l0, o0, a0⟩ := bridge_agg T_ok 9 (t := 24) (by kernel_rfl) rfl rfl (hval 0 24 v0 rfl rfl) h0
  obtain ⟨d0, rfl⟩ := P22.data_of o0
  have k1 := h1
  have lt1 : ∀ x ∈ p1, x.block < W.heap.size := by obtain ⟨m, hm⟩ := k1; exact DataW.trod_lt m _ _ _ hm
  obtain ⟨l1, o1, a1⟩ := bridge_leaf T_ok 9 (t := 3) (by kernel_rfl) rfl rfl (hval 1 3 v1 rfl rfl) h1
  obtain ⟨p1, rfl⟩ := P22.int_of o1
  have k2 := h2
  have lt2 : ∀ x ∈ p2, x.block < W.heap.size := by obtain ⟨m, hm⟩ := k2; exact DataW.trod_lt m _ _ _ hm
  obtain ⟨l2, o2, a2⟩ := bridge_leaf T_ok 9 (t := 3) (by kernel_rfl) rfl rfl (hval 2 3 v2 rfl rfl) h2
  obtain ⟨f2, rfl⟩ := P22.int_of o2
  clear hA0 hval0
  have hcon := (P21.law d0 p1 f2).law W (tabs_met hL) [v0, v1, v2] (parts_cons a0 (parts_cons a1 (parts_cons a2 (parts_nil _ _ _))))
  refine hcon.mono fun e W' ⟨he, bel⟩ => ?_
  subst he
  exact ⟨_, rfl, _, _, _, [], _, [], hW', trodAll_mk1 (shut_bool Tryz.underlying4 _), (trodAll_cons_mk (Below.trod laidOut (by kernel_rfl) (of_decide_eq_true (by kernel_rfl)) k0 bel lt0) (trodAll_cons_mk (Below.trod laidOut (by kernel_rfl) (of_decide_eq_true (by kernel_rfl)) k1 bel lt1) (trodAll_cons_mk (Below.trod laidOut (by kernel_rfl) (of_decide_eq_true (by kernel_rfl)) k2 bel lt2) trodAll_mk0))), rfl, bel.frame _, fun h => by cases h⟩
theorem kf0 : (Rows.fnExactApplyPrimRow.wf (OpenSpec.ofChange Rows.fnExactApplyPrimSpec)) = true := by kernel_rfl
theorem kf1 : (laidOutB Tryz.prog) = true := by kernel_rfl
theorem kf2 : (mapsRowed Tryz.prog) = true := by kernel_rfl
theorem kf3 : (Tryz.f3.params.all (Tryz.prog.readableRec ·)) = true := by kernel_rfl
theorem kf4 : (namedTie Tryz.prog Rows.fnExactApplyPrimRow.named Rows.fnExactApplyPrimSpec.vars) = true := by kernel_rfl
theorem kf5 : ((Rows.fnExactApplyPrimRow.stops == [])) = true := by kernel_rfl
theorem kf6 : ((Tryz.prog.stops == [])) = true := by kernel_rfl
theorem kf7 : ((Rows.fnExactApplyPrimRow.knobs == [])) = true := by kernel_rfl
theorem kf8 : ((Tryz.prog.stopKnobs == [])) = true := by kernel_rfl
theorem kf9 : ((Rows.fnExactApplyPrimRow.inPlace == Tryz.prog.inPlace 3)) = true := by kernel_rfl
theorem kf10 : ((Rows.fnExactApplyPrimRow.unfollowed == Tryz.prog.unfollowed 3)) = true := by kernel_rfl
theorem kf11 : ((Rows.fnExactApplyPrimRow.recurses == Tryz.prog.recurses 3)) = true := by kernel_rfl
theorem kf12 : ((Rows.fnExactApplyPrimRow.named == Tryz.prog.varsNamed 3)) = true := by kernel_rfl
theorem kf13 : ((Rows.fnExactApplyPrimRow.maps == (Tryz.f3.params.toList ++ Rows.fnExactApplyPrimSpec.plain.varTypes Tryz.prog).any (Tryz.prog.mapsRec ·))) = true := by kernel_rfl
theorem kf14 : ((Rows.fnExactApplyPrimRow.ifaces == (Tryz.f3.params.toList ++ Rows.fnExactApplyPrimSpec.plain.varTypes Tryz.prog).any (Tryz.prog.ifacesRec ·))) = true := by kernel_rfl
theorem kf15 : ((Rows.fnExactApplyPrimRow.mapsOut == Tryz.prog.mapsAmong Tryz.f3.resultTypes.toList)) = true := by kernel_rfl
theorem kf16 : ((Rows.fnExactApplyPrimRow.loops == (Tryz.f3.params.toList ++ Rows.fnExactApplyPrimSpec.plain.varTypes Tryz.prog).any (Tryz.prog.loopsFrom ·))) = true := by kernel_rfl
theorem kf17 : ((Rows.fnExactApplyPrimRow.wideKeys == (Tryz.f3.params.toList ++ Rows.fnExactApplyPrimSpec.plain.varTypes Tryz.prog ++ Tryz.f3.resultTypes.toList).any (Tryz.prog.wideKeysFrom ·))) = true := by kernel_rfl
theorem kf18 : (Rows.fnExactApplyPrimSpec.vars.all (Tryz.prog.varReadable ·)) = true := by kernel_rfl
theorem kf19 : (Tryz.f3.resultTypes.all (fun t => Tryz.prog.readableRec t && decide (t < Tryz.prog.types.size))) = true := by kernel_rfl
theorem kf20 : ((Rows.fnExactApplyPrimRow.ifacesOut == Tryz.f3.resultTypes.toList.any (Tryz.prog.ifacesRec ·))) = true := by kernel_rfl
theorem kf21 : ((Rows.fnExactApplyPrimRow.loopsOut == Tryz.f3.resultTypes.toList.any (Tryz.prog.loopsFrom ·))) = true := by kernel_rfl
theorem kf22 : ((Rows.fnExactApplyPrimRow.plainKeys == Tryz.prog.plainKeys)) = true := by kernel_rfl
theorem kf23 : (Rows.fnExactApplyPrimRow.shortTexts.isNone) = true := by kernel_rfl
theorem kf24 : (Tryz.prog.stopsHeard) = true := by kernel_rfl
theorem kf25 : (Tryz.prog.mayEnter) = true := by kernel_rfl
theorem kf26 : ((Rows.fnExactApplyPrimRow.lifted == Tryz.prog.liftsFinal)) = true := by kernel_rfl
theorem kf27 : ((Tryz.prog.make == some Rows.fnExactApplyPrimRow.make)) = true := by kernel_rfl
theorem kf28 : ((Rows.fnExactApplyPrimRow.kinds == (if Rows.fnExactApplyPrimRow.domain.isEmpty then [] else Tryz.f3.params.toList.map fun t => match Tryz.prog.underlying t with | some (.int k) => some k | _ => none))) = true := by kernel_rfl
theorem kf29 : ((Rows.fnExactApplyPrimRow.pinned == Rows.fnExactApplyPrimRow.pinnedBy)) = true := by kernel_rfl
theorem kf30 : ((Rows.fnExactApplyPrimRow.veiled == (Tryz.f3.params.toList ++ Rows.fnExactApplyPrimSpec.plain.varTypes Tryz.prog ++ Tryz.f3.resultTypes.toList).any (Tryz.prog.veiledRec ·))) = true := by kernel_rfl
theorem kf31 : (Rows.fnExactApplyPrimRow.veiledFits Tryz.prog Tryz.f3.params.toList (Tryz.f3.params.toList ++ Rows.fnExactApplyPrimSpec.plain.varTypes Tryz.prog ++ Tryz.f3.resultTypes.toList)) = true := by kernel_rfl
theorem and2 {a b : Bool} (h : a = true) (k : b = true) : (a && b) = true := by rw [h, k]; rfl
theorem closed : joinedFacts Tryz.prog 3 Tryz.f3 Rows.fnExactApplyPrimSpec Rows.fnExactApplyPrimRow = true := and2 (and2 (and2 (and2 (and2 (and2 (and2 (and2 (and2 (and2 (and2 (and2 (and2 (and2 (and2 (and2 (and2 (and2 (and2 (and2 (and2 (and2 (and2 (and2 (and2 (and2 (and2 (and2 (and2 (and2 (and2 kf0 kf1) kf2) kf3) kf4) kf5) kf6) kf7) kf8) kf9) kf10) kf11) kf12) kf13) kf14) kf15) kf16) kf17) kf18) kf19) kf20) kf21) kf22) kf23) kf24) kf25) kf26) kf27) kf28) kf29) kf30) kf31
theorem named : Tryz.prog.funcNamed "loop.example/g00787/laws.FnExactApplyPrim" = some 3 := by kernel_rfl
theorem said : Rows.FnExactApplyPrimSaid :=
  OpenClaim.holds_of_wide 3 Tryz.f3 rfl rfl rfl rfl rfl rfl rfl ⟨rfl, rfl, rfl, rfl, rfl⟩ rfl rfl rfl rfl rfl named Tryz.func3 closed
    (of_decide_eq_true (by kernel_rfl)) (by unfold Func.isWrapper; first | (rw [if_pos (by decide +kernel)]; kernel_rfl) | (rw [if_neg (by decide +kernel)]; exact ⟨rfl, rfl⟩))
    (fun os started H enc _ => lifted os started H enc)
theorem proved : Rows.FnExactApplyPrimCardSaid :=
  Claim7.holds_tied_plain_at .later [] [.data, .data, .data, .data, .pinned, .pinned] true (true, "906d1e393f5158a7dc230c1ce1b67d1f33274a7a058bf2b176f0e1c9112ef19b") false
    said (fun _ h => by cases h) (by kernel_rfl) (fun _ h => by cases h) fnExactApplyPrim_row_tie rfl ⟨rfl, rfl⟩ (by kernel_rfl) rfl
    (fun f fn hf hfn => by
      obtain rfl : f = 3 := Option.some.inj ((show Tryz.prog.funcNamed "loop.example/g00787/laws.FnExactApplyPrim" = some 3 by kernel_rfl).symm.trans hf) |>.symm
      obtain rfl : fn = Tryz.f3 := (Option.some.inj (Tryz.func3.symm.trans hfn)).symm
      exact ⟨by kernel_rfl, fun j t ht => by
        rw [Tryz.params3] at ht
        have hm : t ∈ [24, 3, 3] := by simpa using Array.mem_of_getElem? ht
        have hall : ([24, 3, 3].all fun u => !Tryz.prog.wantsStandIn u) = true := by kernel_rfl
        exact (show Tryz.prog.wantsStandIn t = false by simpa using List.all_eq_true.1 hall t hm)⟩)
    (by kernel_rfl)
#print axioms proved
end Go.Proofs.YtidkogijdlfjpaaGreatDoor.FnExactApplyPrim
