import Derived.Test.YtidkogijdlfjpaaGreatDoorApC
/- Every prim in place; ApplyPrim, by the program; contracts. -/
set_option linter.unusedVariables false
set_option linter.unusedSimpArgs false
set_option maxRecDepth 100000
open Go Go.Abs Go.Proofs V1 H1 F1 F2 T1 T2 T3 P1 P2 P3 P4 P5 P6 P7 P8
namespace P9




theorem last1 (l : List Int) (h : 1 ≤ l.length) : l = l.take (l.length - 1) ++ [l.getD (l.length - 1) 0] := by
  apply List.ext_getElem?
  intro i
  rw [List.getElem?_append]
  simp only [List.length_take, Nat.min_eq_left (show l.length - 1 ≤ l.length by omega)]
  by_cases h1 : i < l.length - 1
  · rw [if_pos h1, List.getElem?_take, if_pos h1]
  · rw [if_neg h1]
    by_cases h2 : i = l.length - 1
    · subst h2
      simp [show l.length - 1 < l.length by omega]
    · rw [List.getElem?_eq_none (by omega), List.getElem?_eq_none (by simp; omega)]
theorem last2 (l : List Int) (h : 2 ≤ l.length) : l = l.take (l.length - 2) ++ [l.getD (l.length - 2) 0, l.getD (l.length - 1) 0] := by
  have h1 := last1 l (by omega)
  have h2 := last1 (l.take (l.length - 1)) (by simp; omega)
  have e1 : (l.take (l.length - 1)).length = l.length - 1 := by simp
  rw [e1] at h2
  have e2 : (l.take (l.length - 1)).getD (l.length - 1 - 1) 0 = l.getD (l.length - 2) 0 := by
    simp only [List.getD_eq_getElem?_getD]
    rw [List.getElem?_take, if_pos (by omega), show l.length - 1 - 1 = l.length - 2 by omega]
  rw [e2, List.take_take, Nat.min_eq_left (by omega), show l.length - 1 - 1 = l.length - 2 by omega] at h2
  conv => lhs; rw [h1, h2]
  simp
theorem last3 (l : List Int) (h : 3 ≤ l.length) : l = l.take (l.length - 3) ++ [l.getD (l.length - 3) 0, l.getD (l.length - 2) 0, l.getD (l.length - 1) 0] := by
  have h1 := last2 l (by omega)
  have h2 := last1 (l.take (l.length - 2)) (by simp; omega)
  have e1 : (l.take (l.length - 2)).length = l.length - 2 := by simp
  rw [e1] at h2
  have e2 : (l.take (l.length - 2)).getD (l.length - 2 - 1) 0 = l.getD (l.length - 3) 0 := by
    simp only [List.getD_eq_getElem?_getD]
    rw [List.getElem?_take, if_pos (by omega), show l.length - 2 - 1 = l.length - 3 by omega]
  rw [e2, List.take_take, Nat.min_eq_left (by omega), show l.length - 2 - 1 = l.length - 3 by omega] at h2
  conv => lhs; rw [h1, h2]
  simp
theorem cells_get {l : List Int} (h : cellsOK l = true) (i : Nat) : -2147483648 ≤ l.getD i 0 ∧ l.getD i 0 ≤ 2147483647 := by
  by_cases hi : i < l.length
  · have := List.all_eq_true.1 h l[i] (List.getElem_mem hi)
    have e : l.getD i 0 = l[i] := by simp [hi]
    rw [e]
    exact inR_t this
  · have e : l.getD i 0 = 0 := by simp [hi]
    rw [e]; omega
theorem dk_of {d : Dat} (h : DataOk d) : Dk d := ⟨h.he, h.ce, h.st, h.ou, h.ba, fun n hn => inR_t (List.all_eq_true.1 h.cce n hn)⟩
theorem primU (p : Nat) (hp : P52 p) (d : Dat) (fl : Int) (h : d.st.length ≤ 32) (hu : d.st.length < takesN p) : Con Tryz.prog 36 [.obj (datC d), .int .i64 p, .int .i64 fl] [.obj (datC d), .undef, .undef] (.int .i64 (-4)) := by
  have g0 : decide ((((d.st.map intR).length : Nat) : Int) < ((takesN p : Nat) : Int)) = true := by rw [List.length_map]; exact decide_eq_true (by omega)
  refine Con.evP 242 [500000] rfl T_ok mix Tryz.func36 rfl rfl rfl rfl [.tmp 6] rfl ?_
  conv => whnf
  (apply rq_s rfl;conv=>whnf)
  (apply lend_s;conv=>whnf)
  (refine call_s (c45 p hp ..) ?_;conv=>whnf)
  (refine fac_s (fun hf => ?_);conv=>whnf)
  (apply rq_s rfl;conv=>whnf)
  (apply br_t (by assumption);conv=>whnf)
  (apply rq_s rfl;conv=>whnf)
  (refine aftp_s (by rfl) ?_;conv=>whnf)
  iterate 3 (refine rows_s (by ((refine sub_all ?_; simp [List.length_map, mkS_len, setRow_len]; done))) ?_;conv=>whnf)
  (refine aftp_s (by rfl) ?_;conv=>whnf)
  exact True.intro
theorem primB (p : Nat) (hp : P52 p) (d : Dat) (fl : Int) (h : d.bk.length ≤ 32) (hf : 0 ≤ fl ∧ fl ≤ d.bk.length) (hu : ¬ d.st.length < takesN p) (hb : (d.bk.length : Int) - fl < backN p) : Con Tryz.prog 36 [.obj (datC d), .int .i64 p, .int .i64 fl] [.obj (datC d), .undef, .undef] (.int .i64 (-6)) := by
  have g0 : decide ((((d.st.map intR).length : Nat) : Int) < ((takesN p : Nat) : Int)) = false := by rw [List.length_map]; exact decide_eq_false (by omega)
  have wf : IntKind.i64.wrap ((((d.bk.map intR).length : Nat) : Int) - fl) = (d.bk.length : Int) - fl := by rw [List.length_map]; exact wrap64 (by omega) (by omega)
  have g1 : decide (IntKind.i64.wrap ((((d.bk.map intR).length : Nat) : Int) - fl) < ((backN p : Nat) : Int)) = true := by rw [wf]; exact decide_eq_true hb
  refine Con.evP 242 [500000] rfl T_ok mix Tryz.func36 rfl rfl rfl rfl [.tmp 6] rfl ?_
  conv => whnf
  (apply rq_s rfl;conv=>whnf)
  (apply lend_s;conv=>whnf)
  (refine call_s (c45 p hp ..) ?_;conv=>whnf)
  (refine fac_s (fun hf => ?_);conv=>whnf)
  (apply rq_s rfl;conv=>whnf)
  (apply br_f (by assumption);conv=>whnf)
  iterate 3 (refine ChkS.mk (by kernel_rfl) ?_;conv=>whnf)
  (apply rq_s rfl;conv=>whnf)
  iterate 6 (refine ChkS.mk (by kernel_rfl) ?_;conv=>whnf)
  (apply rq_s rfl;conv=>whnf)
  (refine call_s (c59 p hp ..) ?_;conv=>whnf)
  iterate 2 (refine ChkS.mk (by kernel_rfl) ?_;conv=>whnf)
  (refine fac_s (fun hf => ?_);conv=>whnf)
  (apply br_t (by assumption);conv=>whnf)
  (apply rq_s rfl;conv=>whnf)
  (refine aftp_s (by rfl) ?_;conv=>whnf)
  iterate 3 (refine rows_s (by ((refine sub_all ?_; simp [List.length_map, mkS_len, setRow_len]; done))) ?_;conv=>whnf)
  (refine aftp_s (by rfl) ?_;conv=>whnf)
  exact True.intro
theorem c36 (p : Nat) (hp : P52 p) (d : Dat) (fl : Int) (h : DataOk d) (hf : 0 ≤ fl ∧ fl ≤ d.bk.length) : Con Tryz.prog 36 [.obj (datC d), .int .i64 p, .int .i64 fl] [.obj (datC (primI TX p fl d).1), .undef, .undef] (.int .i64 (primI TX p fl d).2) := by
  by_cases hu : d.st.length < takesN p
  · rw [primI, if_pos hu]
    exact primU p hp d fl h.st hu
  by_cases hb : (d.bk.length : Int) - fl < backN p
  · rw [primI, if_neg hu, if_pos hb]
    exact primB p hp d fl h.bk hf hu hb
  rw [primI, if_neg hu, if_neg hb]
  have qb := cells_get h.cst (d.st.length - 2)
  have qc := cells_get h.cst (d.st.length - 1)
  have k := dk_of h
  have hbk := h.bk
  rcases all52 hp with rfl | rfl | rfl | rfl | rfl | rfl | rfl | rfl | rfl | rfl | rfl | rfl | rfl | rfl | rfl | rfl | rfl | rfl | rfl | rfl | rfl | rfl | rfl | rfl | rfl | rfl | rfl | rfl | rfl | rfl | rfl | rfl | rfl | rfl | rfl | rfl | rfl | rfl | rfl | rfl | rfl | rfl | rfl | rfl | rfl | rfl | rfl | rfl | rfl | rfl | rfl | rfl
  · have hu : 1 ≤ d.st.length := Nat.le_of_not_lt hu
    have hb2 : 0 ≤ (d.bk.length : Int) - fl := Int.not_lt.1 hb
    exact prim1 d _ _ _ _ fl k (last1 _ hu) hbk hf hb2 qb qc
  · have hu : 1 ≤ d.st.length := Nat.le_of_not_lt hu
    have hb2 : 0 ≤ (d.bk.length : Int) - fl := Int.not_lt.1 hb
    exact prim2 d _ _ _ _ fl k (last1 _ hu) hbk hf hb2 qb qc
  · have hu : 2 ≤ d.st.length := Nat.le_of_not_lt hu
    have hb2 : 0 ≤ (d.bk.length : Int) - fl := Int.not_lt.1 hb
    exact prim3 d _ _ _ _ fl k (last2 _ hu) hbk hf hb2 qb qc
  · have hu : 2 ≤ d.st.length := Nat.le_of_not_lt hu
    have hb2 : 0 ≤ (d.bk.length : Int) - fl := Int.not_lt.1 hb
    exact prim4 d _ _ _ _ fl k (last2 _ hu) hbk hf hb2 qb qc
  · have hu : 3 ≤ d.st.length := Nat.le_of_not_lt hu
    have hb2 : 0 ≤ (d.bk.length : Int) - fl := Int.not_lt.1 hb
    exact prim5 d _ _ _ _ fl k (last3 _ hu) hbk hf hb2 qb qc
  · have hu : 2 ≤ d.st.length := Nat.le_of_not_lt hu
    have hb2 : 0 ≤ (d.bk.length : Int) - fl := Int.not_lt.1 hb
    exact prim6 d _ _ _ _ fl k (last2 _ hu) hbk hf hb2 qb qc
  · have hu : 2 ≤ d.st.length := Nat.le_of_not_lt hu
    have hb2 : 0 ≤ (d.bk.length : Int) - fl := Int.not_lt.1 hb
    exact prim7 d _ _ _ _ fl k (last2 _ hu) hbk hf hb2 qb qc
  · have hu : 1 ≤ d.st.length := Nat.le_of_not_lt hu
    have hb2 : 0 ≤ (d.bk.length : Int) - fl := Int.not_lt.1 hb
    by_cases h0 : d.st.getD (d.st.length - 1) 0 = 0
    · exact prim8z d _ _ _ _ fl k (last1 _ hu) hbk hf hb2 qb qc h0
    · exact prim8n d _ _ _ _ fl k (last1 _ hu) hbk hf hb2 qb qc h0
  · have hu : 2 ≤ d.st.length := Nat.le_of_not_lt hu
    have hb2 : 0 ≤ (d.bk.length : Int) - fl := Int.not_lt.1 hb
    exact prim9 d _ _ _ _ fl k (last2 _ hu) hbk hf hb2 qb qc
  · have hu : 2 ≤ d.st.length := Nat.le_of_not_lt hu
    have hb2 : 0 ≤ (d.bk.length : Int) - fl := Int.not_lt.1 hb
    exact prim10 d _ _ _ _ fl k (last2 _ hu) hbk hf hb2 qb qc
  · have hu : 0 ≤ d.st.length := Nat.le_of_not_lt hu
    have hb2 : 0 ≤ (d.bk.length : Int) - fl := Int.not_lt.1 hb
    exact prim11 d _ _ _ _ fl k (by show d.st = List.take (d.st.length - 0) d.st ++ []; simp) hbk hf hb2 qb qc
  · have hu : 1 ≤ d.st.length := Nat.le_of_not_lt hu
    have hb2 : 0 ≤ (d.bk.length : Int) - fl := Int.not_lt.1 hb
    by_cases h0 : d.bk.length = 32
    · exact prim12z d _ _ _ _ fl k (last1 _ hu) hbk hf hb2 qb qc h0
    · exact prim12n d _ _ _ _ fl k (last1 _ hu) hbk hf hb2 qb qc h0
  · have hu : 0 ≤ d.st.length := Nat.le_of_not_lt hu
    have hb2 : 1 ≤ (d.bk.length : Int) - fl := Int.not_lt.1 hb
    exact prim13 d _ _ _ _ fl k (by show d.st = List.take (d.st.length - 0) d.st ++ []; simp) hbk hf hb2 qb qc
  · have hu : 0 ≤ d.st.length := Nat.le_of_not_lt hu
    have hb2 : 1 ≤ (d.bk.length : Int) - fl := Int.not_lt.1 hb
    exact prim14 d _ _ _ _ fl k (by show d.st = List.take (d.st.length - 0) d.st ++ []; simp) hbk hf hb2 qb qc
  · have hu : 2 ≤ d.st.length := Nat.le_of_not_lt hu
    have hb2 : 0 ≤ (d.bk.length : Int) - fl := Int.not_lt.1 hb
    exact prim15 d _ _ _ _ fl k (last2 _ hu) hbk hf hb2 qb qc
  · have hu : 2 ≤ d.st.length := Nat.le_of_not_lt hu
    have hb2 : 0 ≤ (d.bk.length : Int) - fl := Int.not_lt.1 hb
    exact prim16 d _ _ _ _ fl k (last2 _ hu) hbk hf hb2 qb qc
  · have hu : 2 ≤ d.st.length := Nat.le_of_not_lt hu
    have hb2 : 0 ≤ (d.bk.length : Int) - fl := Int.not_lt.1 hb
    exact prim17 d _ _ _ _ fl k (last2 _ hu) hbk hf hb2 qb qc
  · have hu : 2 ≤ d.st.length := Nat.le_of_not_lt hu
    have hb2 : 0 ≤ (d.bk.length : Int) - fl := Int.not_lt.1 hb
    by_cases h0 : d.st.getD (d.st.length - 1) 0 = 0
    · exact prim18z d _ _ _ _ fl k (last2 _ hu) hbk hf hb2 qb qc h0
    · exact prim18n d _ _ _ _ fl k (last2 _ hu) hbk hf hb2 qb qc h0
  · have hu : 2 ≤ d.st.length := Nat.le_of_not_lt hu
    have hb2 : 0 ≤ (d.bk.length : Int) - fl := Int.not_lt.1 hb
    by_cases h0 : d.st.getD (d.st.length - 1) 0 = 0
    · exact prim19z d _ _ _ _ fl k (last2 _ hu) hbk hf hb2 qb qc h0
    · exact prim19n d _ _ _ _ fl k (last2 _ hu) hbk hf hb2 qb qc h0
  · have hu : 2 ≤ d.st.length := Nat.le_of_not_lt hu
    have hb2 : 0 ≤ (d.bk.length : Int) - fl := Int.not_lt.1 hb
    exact prim20 d _ _ _ _ fl k (last2 _ hu) hbk hf hb2 qb qc
  · have hu : 2 ≤ d.st.length := Nat.le_of_not_lt hu
    have hb2 : 0 ≤ (d.bk.length : Int) - fl := Int.not_lt.1 hb
    exact prim21 d _ _ _ _ fl k (last2 _ hu) hbk hf hb2 qb qc
  · have hu : 2 ≤ d.st.length := Nat.le_of_not_lt hu
    have hb2 : 0 ≤ (d.bk.length : Int) - fl := Int.not_lt.1 hb
    exact prim22 d _ _ _ _ fl k (last2 _ hu) hbk hf hb2 qb qc
  · have hu : 2 ≤ d.st.length := Nat.le_of_not_lt hu
    have hb2 : 0 ≤ (d.bk.length : Int) - fl := Int.not_lt.1 hb
    exact prim23 d _ _ _ _ fl k (last2 _ hu) hbk hf hb2 qb qc
  · have hu : 2 ≤ d.st.length := Nat.le_of_not_lt hu
    have hb2 : 0 ≤ (d.bk.length : Int) - fl := Int.not_lt.1 hb
    exact prim24 d _ _ _ _ fl k (last2 _ hu) hbk hf hb2 qb qc
  · have hu : 1 ≤ d.st.length := Nat.le_of_not_lt hu
    have hb2 : 0 ≤ (d.bk.length : Int) - fl := Int.not_lt.1 hb
    exact prim25 d _ _ _ _ fl k (last1 _ hu) hbk hf hb2 qb qc
  · have hu : 1 ≤ d.st.length := Nat.le_of_not_lt hu
    have hb2 : 0 ≤ (d.bk.length : Int) - fl := Int.not_lt.1 hb
    exact prim26 d _ _ _ _ fl k (last1 _ hu) hbk hf hb2 qb qc
  · have hu : 1 ≤ d.st.length := Nat.le_of_not_lt hu
    have hb2 : 0 ≤ (d.bk.length : Int) - fl := Int.not_lt.1 hb
    exact prim27 d _ _ _ _ fl k (last1 _ hu) hbk hf hb2 qb qc
  · have hu : 1 ≤ d.st.length := Nat.le_of_not_lt hu
    have hb2 : 0 ≤ (d.bk.length : Int) - fl := Int.not_lt.1 hb
    exact prim28 d _ _ _ _ fl k (last1 _ hu) hbk hf hb2 qb qc
  · have hu : 1 ≤ d.st.length := Nat.le_of_not_lt hu
    have hb2 : 0 ≤ (d.bk.length : Int) - fl := Int.not_lt.1 hb
    exact prim29 d _ _ _ _ fl k (last1 _ hu) hbk hf hb2 qb qc
  · have hu : 2 ≤ d.st.length := Nat.le_of_not_lt hu
    have hb2 : 0 ≤ (d.bk.length : Int) - fl := Int.not_lt.1 hb
    exact prim30 d _ _ _ _ fl k (last2 _ hu) hbk hf hb2 qb qc
  · have hu : 2 ≤ d.st.length := Nat.le_of_not_lt hu
    have hb2 : 0 ≤ (d.bk.length : Int) - fl := Int.not_lt.1 hb
    exact prim31 d _ _ _ _ fl k (last2 _ hu) hbk hf hb2 qb qc
  · have hu : 2 ≤ d.st.length := Nat.le_of_not_lt hu
    have hb2 : 0 ≤ (d.bk.length : Int) - fl := Int.not_lt.1 hb
    exact prim32 d _ _ _ _ fl k (last2 _ hu) hbk hf hb2 qb qc
  · have hu : 2 ≤ d.st.length := Nat.le_of_not_lt hu
    have hb2 : 0 ≤ (d.bk.length : Int) - fl := Int.not_lt.1 hb
    exact prim33 d _ _ _ _ fl k (last2 _ hu) hbk hf hb2 qb qc
  · have hu : 2 ≤ d.st.length := Nat.le_of_not_lt hu
    have hb2 : 0 ≤ (d.bk.length : Int) - fl := Int.not_lt.1 hb
    exact prim34 d _ _ _ _ fl k (last2 _ hu) hbk hf hb2 qb qc
  · have hu : 2 ≤ d.st.length := Nat.le_of_not_lt hu
    have hb2 : 0 ≤ (d.bk.length : Int) - fl := Int.not_lt.1 hb
    exact prim35 d _ _ _ _ fl k (last2 _ hu) hbk hf hb2 qb qc
  · have hu : 2 ≤ d.st.length := Nat.le_of_not_lt hu
    have hb2 : 0 ≤ (d.bk.length : Int) - fl := Int.not_lt.1 hb
    exact prim36 d _ _ _ _ fl k (last2 _ hu) hbk hf hb2 qb qc
  · have hu : 1 ≤ d.st.length := Nat.le_of_not_lt hu
    have hb2 : 0 ≤ (d.bk.length : Int) - fl := Int.not_lt.1 hb
    exact prim37 d _ _ _ _ fl k (last1 _ hu) hbk hf hb2 qb qc
  · have hu : 1 ≤ d.st.length := Nat.le_of_not_lt hu
    have hb2 : 0 ≤ (d.bk.length : Int) - fl := Int.not_lt.1 hb
    exact prim38 d _ _ _ _ fl k (last1 _ hu) hbk hf hb2 qb qc
  · have hu : 1 ≤ d.st.length := Nat.le_of_not_lt hu
    have hb2 : 0 ≤ (d.bk.length : Int) - fl := Int.not_lt.1 hb
    exact prim39 d _ _ _ _ fl k (last1 _ hu) hbk hf hb2 qb qc
  · have hu : 2 ≤ d.st.length := Nat.le_of_not_lt hu
    have hb2 : 0 ≤ (d.bk.length : Int) - fl := Int.not_lt.1 hb
    exact prim40 d _ _ _ _ fl k (last2 _ hu) hbk hf hb2 qb qc
  · have hu : 2 ≤ d.st.length := Nat.le_of_not_lt hu
    have hb2 : 0 ≤ (d.bk.length : Int) - fl := Int.not_lt.1 hb
    exact prim41 d _ _ _ _ fl k (last2 _ hu) hbk hf hb2 qb qc
  · have hu : 0 ≤ d.st.length := Nat.le_of_not_lt hu
    have hb2 : 0 ≤ (d.bk.length : Int) - fl := Int.not_lt.1 hb
    exact prim42 d _ _ _ _ fl k (by show d.st = List.take (d.st.length - 0) d.st ++ []; simp) hbk hf hb2 qb qc
  · have hu : 1 ≤ d.st.length := Nat.le_of_not_lt hu
    have hb2 : 0 ≤ (d.bk.length : Int) - fl := Int.not_lt.1 hb
    exact prim43 d _ _ _ _ fl k (last1 _ hu) hbk hf hb2 qb qc
  · have hu : 1 ≤ d.st.length := Nat.le_of_not_lt hu
    have hb2 : 0 ≤ (d.bk.length : Int) - fl := Int.not_lt.1 hb
    exact prim44 d _ _ _ _ fl k (last1 _ hu) hbk hf hb2 qb qc
  · have hu : 1 ≤ d.st.length := Nat.le_of_not_lt hu
    have hb2 : 0 ≤ (d.bk.length : Int) - fl := Int.not_lt.1 hb
    exact prim45 d _ _ _ _ fl k (last1 _ hu) hbk hf hb2 qb qc
  · have hu : 1 ≤ d.st.length := Nat.le_of_not_lt hu
    have hb2 : 0 ≤ (d.bk.length : Int) - fl := Int.not_lt.1 hb
    exact prim46 d _ _ _ _ fl k (last1 _ hu) hbk hf hb2 qb qc
  · have hu : 0 ≤ d.st.length := Nat.le_of_not_lt hu
    have hb2 : 0 ≤ (d.bk.length : Int) - fl := Int.not_lt.1 hb
    exact prim47 d _ _ _ _ fl k (by show d.st = List.take (d.st.length - 0) d.st ++ []; simp) hbk hf hb2 qb qc
  · have hu : 0 ≤ d.st.length := Nat.le_of_not_lt hu
    have hb2 : 0 ≤ (d.bk.length : Int) - fl := Int.not_lt.1 hb
    exact prim48 d _ _ _ _ fl k (by show d.st = List.take (d.st.length - 0) d.st ++ []; simp) hbk hf hb2 qb qc
  · have hu : 0 ≤ d.st.length := Nat.le_of_not_lt hu
    have hb2 : 0 ≤ (d.bk.length : Int) - fl := Int.not_lt.1 hb
    exact prim49 d _ _ _ _ fl k (by show d.st = List.take (d.st.length - 0) d.st ++ []; simp) hbk hf hb2 qb qc
  · have hu : 0 ≤ d.st.length := Nat.le_of_not_lt hu
    have hb2 : 0 ≤ (d.bk.length : Int) - fl := Int.not_lt.1 hb
    exact prim50 d _ _ _ _ fl k (by show d.st = List.take (d.st.length - 0) d.st ++ []; simp) hbk hf hb2 qb qc
  · have hu : 0 ≤ d.st.length := Nat.le_of_not_lt hu
    have hb2 : 1 ≤ (d.bk.length : Int) - fl := Int.not_lt.1 hb
    exact prim51 d _ _ _ _ fl k (by show d.st = List.take (d.st.length - 0) d.st ++ []; simp) hbk hf hb2 qb qc
  · have hu : 0 ≤ d.st.length := Nat.le_of_not_lt hu
    have hb2 : 2 ≤ (d.bk.length : Int) - fl := Int.not_lt.1 hb
    exact prim52 d _ _ _ _ fl k (by show d.st = List.take (d.st.length - 0) d.st ++ []; simp) hbk hf hb2 qb qc

theorem c35 (p : Nat) (hp : P52 p) (d : Dat) (fl : Int) (h : DataOk d) (hf : 0 ≤ fl ∧ fl ≤ d.bk.length) : Con Tryz.prog 35 [.obj (datC d), .rp [.int .i64 p] 0, .rp [.int .i64 fl] 0] [.obj (datC (primI TX p fl d).1), .undef, .undef] (.int .i64 (primI TX p fl d).2) := by
  have k1 := c36 p hp d fl h hf
  generalize primI TX p fl d = x at k1
  refine Con.evP 9 [500000] rfl T_ok mix Tryz.func35 rfl rfl rfl rfl [.tmp 4] rfl ?_
  conv => whnf
  iterate 2 (refine row_s (by (rfl)) ?_;conv=>whnf)
  (refine handp_s 36 [some 6, none, none] ?_;conv=>whnf)
  iterate 3 (apply rq_s rfl;conv=>whnf)
  (focus (apply callpe_s (f := 36); (· repeat' (first | (refine sub_all ?_; simp [List.length_map, mkS_len, setRow_len]; done) | exact sub_map _ _ _ _ | apply cons_eq | apply obj_eq | apply agg_eq | apply own_eq | apply ro_eq | apply rp_eq | apply fnc_eq | rfl)); refine callp_s (f := 36) rfl (k1 ..) ?_;conv=>whnf))
  (refine fac_s (fun hf => ?_);conv=>whnf)
  (apply rq_s rfl;conv=>whnf)
  (refine aftp_s (by rfl) ?_;conv=>whnf)
  iterate 3 (refine rows_s (by ((refine sub_all ?_; simp [List.length_map, mkS_len, setRow_len]; done))) ?_;conv=>whnf)
  (refine aftp_s (by rfl) ?_;conv=>whnf)
  exact True.intro
  all_goals skip
end P9

/- Changes of data, ApplyPrim, by the program; contracts. -/
open Go Go.Abs Go.Proofs V1 H1 F1 F2 T1 T2 T3 P1 P2 P3 P4 P5 P6 P7 P8 P9
namespace P10




theorem small_ok {d : Dat} (h : DataOk d) : smallData d := ⟨by have := h.st; omega, by have := h.bk; omega, by have := h.ce; omega, by have := h.ou; omega⟩
theorem changed1 (p : Nat) (hp : P52 p) (d : Dat) (fl : Int) (h : DataOk d) (hf : 0 ≤ fl ∧ fl ≤ d.bk.length) : Con Tryz.prog 34 [datV d, .fn 35 [.rp [.int .i64 p] 0, .rp [.int .i64 fl] 0]] (undefs [datV d, .fn 35 [.rp [.int .i64 p] 0, .rp [.int .i64 fl] 0]]) (.tup [datO (primF TX p fl d).1, .int .i64 (primF TX p fl d).2]) := by
  have k1 := c35 p hp d fl h hf
  have k2 := c41 d (small_ok h)
  unfold primF
  generalize primI TX p fl d = x at k1
  by_cases h0 : x.2 = 0
  · rw [if_pos h0]
    have g0 : (x.2 != 0) = false := by rw [h0]; rfl
    refine Con.ev 18 T_ok mix Tryz.func34 rfl rfl rfl rfl [.cell 4 26, .tmp 5] rfl ?_
    conv => whnf
    iterate 7 (apply rq_s rfl;conv=>whnf)
    (apply lend_s;conv=>whnf)
    iterate 3 (apply rows_s rfl;conv=>whnf)
    (refine call_s (k2 ..) ?_;conv=>whnf)
    iterate 6 (refine fac_s (fun hf => ?_);conv=>whnf)
    (refine handp_s 35 [some 6, none, none] ?_;conv=>whnf)
    iterate 3 (apply rq_s rfl;conv=>whnf)
    (focus (apply callpe_s (f := 35); (· repeat' (first | (refine sub_all ?_; simp [List.length_map, mkS_len, setRow_len, ownI]; done) | exact sub_map _ _ _ _ | apply cons_eq | apply obj_eq | apply agg_eq | apply own_eq | apply ro_eq | apply rp_eq | apply fnc_eq | rfl)); refine callp_s (f := 35) rfl (k1 ..) ?_;conv=>whnf))
    (refine fac_s (fun hf => ?_);conv=>whnf)
    (apply br_f (by assumption);conv=>whnf)
    (apply rq_s rfl;conv=>whnf)
    (apply rq_s (by simp only [lnm, mkS_len, setRow_len, ownI]; done);conv=>whnf)
    (apply rq_s rfl;conv=>whnf)
    (apply rq_s (by simp only [lnm, mkS_len, setRow_len, ownI]; done);conv=>whnf)
    (apply rq_s rfl;conv=>whnf)
    (apply rq_s (by simp only [lnm, mkS_len, setRow_len, ownI]; done);conv=>whnf)
    iterate 5 (apply rq_s rfl;conv=>whnf)
    iterate 3 (refine rows_s (by ((refine sub_all ?_; simp [List.length_map, mkS_len, setRow_len, ownI]; done))) ?_;conv=>whnf)
    rotate_left
    exact sh_s (by rw [h0]; rfl)
  · rw [if_neg h0]
    have g0 : (x.2 != 0) = true := bne_iff_ne.2 h0
    refine Con.ev 18 T_ok mix Tryz.func34 rfl rfl rfl rfl [.cell 4 26, .tmp 5] rfl ?_
    conv => whnf
    iterate 7 (apply rq_s rfl;conv=>whnf)
    (apply lend_s;conv=>whnf)
    iterate 3 (apply rows_s rfl;conv=>whnf)
    (refine call_s (k2 ..) ?_;conv=>whnf)
    iterate 6 (refine fac_s (fun hf => ?_);conv=>whnf)
    (refine handp_s 35 [some 6, none, none] ?_;conv=>whnf)
    iterate 3 (apply rq_s rfl;conv=>whnf)
    (focus (apply callpe_s (f := 35); (· repeat' (first | (refine sub_all ?_; simp [List.length_map, mkS_len, setRow_len, ownI]; done) | exact sub_map _ _ _ _ | apply cons_eq | apply obj_eq | apply agg_eq | apply own_eq | apply ro_eq | apply rp_eq | apply fnc_eq | rfl)); refine callp_s (f := 35) rfl (k1 ..) ?_;conv=>whnf))
    (refine fac_s (fun hf => ?_);conv=>whnf)
    (apply br_t (by assumption);conv=>whnf)
    iterate 6 (apply rq_s rfl;conv=>whnf)
    (apply lend_s;conv=>whnf)
    iterate 3 (apply rows_s rfl;conv=>whnf)
    (refine call_s (k2 ..) ?_;conv=>whnf)
    iterate 6 (refine fac_s (fun hf => ?_);conv=>whnf)
    (apply rq_s rfl;conv=>whnf)
    (apply rq_s (by simp only [lnm, mkS_len, setRow_len, ownI]; done);conv=>whnf)
    (apply rq_s rfl;conv=>whnf)
    (apply rq_s (by simp only [lnm, mkS_len, setRow_len, ownI]; done);conv=>whnf)
    (apply rq_s rfl;conv=>whnf)
    (apply rq_s (by simp only [lnm, mkS_len, setRow_len, ownI]; done);conv=>whnf)
    iterate 5 (apply rq_s rfl;conv=>whnf)
    iterate 3 (refine rows_s (by ((refine sub_all ?_; simp [List.length_map, mkS_len, setRow_len, ownI]; done))) ?_;conv=>whnf)
    rotate_left
    exact sh_s rfl
def applyF (d : Dat) (p fl : Int) : Dat × Int × Int :=
  if dataOK d = false then (dat0, 0, 1) else if inR p 1 52 = false then (dat0, 0, 9) else if inR fl 0 d.bk.length = false then (dat0, 0, 4) else ((primF TX p.toNat fl d).1, (primF TX p.toNat fl d).2, 0)
def apV (x : Dat × Int × Int) : AV := .tup [datO x.1, .int .i64 x.2.1, .int .i64 x.2.2]
theorem sh_dat0 (a b : Int) : Sh (.tup [.agg [.emp, .emp, .emp, .int .i64 0, .int .i64 0, .str []], .int .i64 a, .int .i64 b]) (.tup [datO dat0, .int .i64 a, .int .i64 b]) := by
  refine Sh.tup ⟨Sh.agg ⟨Sh.emp_own _ _, Sh.emp_own _ _, Sh.emp_own _ _, Sh.refl _, Sh.refl _, Sh.refl _, trivial⟩, Sh.refl _, Sh.refl _, trivial⟩
theorem c10 (d : Dat) (p fl : Int) : Con Tryz.prog 10 [datV d, .int .i64 p, .int .i64 fl] (undefs [datV d, .int .i64 p, .int .i64 fl]) (apV (applyF d p fl)) := by
  by_cases h1 : dataOK d = true
  rotate_left
  · rw [Bool.not_eq_true] at h1
    have k1 := c23 d
    rw [h1] at k1
    rw [applyF, if_pos h1]
    refine Con.ev 37 T_ok mix Tryz.func10 rfl rfl rfl rfl [.cell 6 26, .tmp 7, .tmp 8] rfl ?_
    conv => whnf
    iterate 9 (apply rq_s rfl;conv=>whnf)
    (apply lend_s;conv=>whnf)
    iterate 3 (apply rows_s rfl;conv=>whnf)
    (refine call_s (k1 ..) ?_;conv=>whnf)
    (apply br_t rfl;conv=>whnf)
    iterate 10 (apply rq_s rfl;conv=>whnf)
    rotate_left
    exact ⟨sh_dat0 _ _⟩
  have k1 := c23 d
  rw [h1] at k1
  have hd := (dataOK_iff d).1 h1
  by_cases h2 : inR p 1 52 = true
  rotate_left
  · rw [Bool.not_eq_true] at h2
    have g2 : (!inR p 1 52) = true := by rw [h2]; rfl
    rw [applyF, if_neg (by simp [h1]), if_pos h2]
    refine Con.ev 37 T_ok mix Tryz.func10 rfl rfl rfl rfl [.cell 6 26, .tmp 7, .tmp 8] rfl ?_
    conv => whnf
    iterate 9 (apply rq_s rfl;conv=>whnf)
    (apply lend_s;conv=>whnf)
    iterate 3 (apply rows_s rfl;conv=>whnf)
    (refine call_s (k1 ..) ?_;conv=>whnf)
    (apply br_f rfl;conv=>whnf)
    iterate 3 (apply rq_s rfl;conv=>whnf)
    (apply lend_s;conv=>whnf)
    (refine call_s (c33 ..) ?_;conv=>whnf)
    (apply br_t (by assumption);conv=>whnf)
    iterate 10 (apply rq_s rfl;conv=>whnf)
    rotate_left
    exact ⟨sh_dat0 _ _⟩
  have g2 : (!inR p 1 52) = false := by rw [h2]; rfl
  have i2 := inR_t h2
  by_cases h3 : inR fl 0 d.bk.length = true
  rotate_left
  · rw [Bool.not_eq_true] at h3
    have g3 : (!inR fl 0 ((d.bk.map intR).length : Nat)) = true := by rw [List.length_map, h3]; rfl
    rw [applyF, if_neg (by simp [h1]), if_neg (by simp [h2]), if_pos h3]
    refine Con.ev 37 T_ok mix Tryz.func10 rfl rfl rfl rfl [.cell 6 26, .tmp 7, .tmp 8] rfl ?_
    conv => whnf
    iterate 9 (apply rq_s rfl;conv=>whnf)
    (apply lend_s;conv=>whnf)
    iterate 3 (apply rows_s rfl;conv=>whnf)
    (refine call_s (k1 ..) ?_;conv=>whnf)
    (apply br_f rfl;conv=>whnf)
    iterate 3 (apply rq_s rfl;conv=>whnf)
    (apply lend_s;conv=>whnf)
    (refine call_s (c33 ..) ?_;conv=>whnf)
    (apply br_f (by assumption);conv=>whnf)
    iterate 4 (apply rq_s rfl;conv=>whnf)
    (apply lend_s;conv=>whnf)
    (refine call_s (c33 ..) ?_;conv=>whnf)
    (apply br_t (by assumption);conv=>whnf)
    iterate 10 (apply rq_s rfl;conv=>whnf)
    rotate_left
    exact ⟨sh_dat0 _ _⟩
  have g3 : (!inR fl 0 ((d.bk.map intR).length : Nat)) = false := by rw [List.length_map, h3]; rfl
  have k2 := changed1 p.toNat (by unfold P52; omega) d fl hd (inR_t h3)
  rw [Int.toNat_of_nonneg (by omega)] at k2
  rw [applyF, if_neg (by simp [h1]), if_neg (by simp [h2]), if_neg (by simp [h3])]
  generalize primF TX p.toNat fl d = x at k2
  refine Con.ev 37 T_ok mix Tryz.func10 rfl rfl rfl rfl [.cell 6 26, .tmp 7, .tmp 8] rfl ?_
  conv => whnf
  iterate 9 (apply rq_s rfl;conv=>whnf)
  (apply lend_s;conv=>whnf)
  iterate 3 (apply rows_s rfl;conv=>whnf)
  (refine call_s (k1 ..) ?_;conv=>whnf)
  (apply br_f rfl;conv=>whnf)
  iterate 3 (apply rq_s rfl;conv=>whnf)
  (apply lend_s;conv=>whnf)
  (refine call_s (c33 ..) ?_;conv=>whnf)
  (apply br_f (by assumption);conv=>whnf)
  iterate 4 (apply rq_s rfl;conv=>whnf)
  (apply lend_s;conv=>whnf)
  (refine call_s (c33 ..) ?_;conv=>whnf)
  (apply br_f (by assumption);conv=>whnf)
  (refine handp_s 34 [none, none] ?_;conv=>whnf)
  iterate 10 (apply rq_s rfl;conv=>whnf)
  (focus (apply callpe_s (f := 34); (· repeat' (first | (refine sub_all ?_; simp [List.length_map, mkS_len, setRow_len, ownI]; done) | exact sub_map _ _ _ _ | apply cons_eq | apply obj_eq | apply agg_eq | apply own_eq | apply ro_eq | apply rp_eq | apply fnc_eq | rfl)); refine callp_s (f := 34) rfl (k2 ..) ?_;conv=>whnf))
  (refine fac_s (fun hf => ?_);conv=>whnf)
  (apply rq_s rfl;conv=>whnf)
  (apply rq_s (by simp only [lnm, mkS_len, setRow_len, ownI]; done);conv=>whnf)
  (apply rq_s rfl;conv=>whnf)
  (apply rq_s (by simp only [lnm, mkS_len, setRow_len, ownI]; done);conv=>whnf)
  (apply rq_s rfl;conv=>whnf)
  (apply rq_s (by simp only [lnm, mkS_len, setRow_len, ownI]; done);conv=>whnf)
  iterate 6 (apply rq_s rfl;conv=>whnf)
  iterate 3 (refine rows_s (by ((refine sub_all ?_; simp [List.length_map, mkS_len, setRow_len, ownI]; done))) ?_;conv=>whnf)
  rotate_left
  exact sh_s rfl
end P10
