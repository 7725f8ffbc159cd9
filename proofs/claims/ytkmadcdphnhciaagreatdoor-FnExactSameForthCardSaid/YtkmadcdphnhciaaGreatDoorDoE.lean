/- Whole Forths: what is valid; contracts. -/
import Derived.Test.YtkmadcdphnhciaaGreatDoorDoC
set_option linter.unusedVariables false
set_option linter.unusedSimpArgs false
set_option maxRecDepth 100000
open Go Go.Abs Go.Proofs V1 H1 K1 K2 K3 K4 I1 I2 I3 I4 M1 M2 M3 M4
namespace M7




theorem c73 (ws : List Wd) (n : Int) : Con Tryz.prog 73 [roW ws, .int .i64 n] (undefs [roW ws, .int .i64 n]) (.bool (tokenOK ws n)) := by
  refine Con.evF 27 T_ok mix Tryz.func73 rfl rfl rfl rfl [.tmp 4] rfl fun ⟨hx, _⟩ => ?_
  have hl := facts_len hx
  conv => whnf
  iterate 3 (apply rq_s rfl;conv=>whnf)
  (apply lend_s;conv=>whnf)
  (refine call_s (c57 ..) ?_;conv=>whnf)
  (refine br_s ?_ ?_ <;> intro hb <;> (try simp only [cln] at hb) <;> conv=>whnf)
  iterate 3 (apply br_t rfl;conv=>whnf)
  iterate 2 (refine rq_s (by ((first | (have hq := inR_t (show inR _ 1 _ = true by assumption); rw [wrap64 (by omega) (by omega)]; exact decide_eq_true (by (try simp only [List.length_map]); omega)) | (have hq := inR_t (show inR _ 1 _ = true by assumption); refine and_s rfl ?_; rw [wrap64 (by omega) (by omega)]; exact decide_eq_true (by (try simp only [List.length_map]); omega))))) ?_;conv=>whnf)
  (apply br_t rfl;conv=>whnf)
  (apply rq_s rfl;conv=>whnf)
  (apply br_t rfl;conv=>whnf)
  (refine row_s (by (exact row_word (by assumption) (by omega))) ?_;conv=>whnf)
  (apply br_t rfl;conv=>whnf)
  (refine br_s ?_ ?_ <;> intro hb <;> (try simp only [cln] at hb) <;> conv=>whnf)
  iterate 3 (apply br_t rfl;conv=>whnf)
  iterate 2 (refine rq_s (by ((first | (have hq := inR_t (show inR _ 1 _ = true by assumption); rw [wrap64 (by omega) (by omega)]; exact decide_eq_true (by (try simp only [List.length_map]); omega)) | (have hq := inR_t (show inR _ 1 _ = true by assumption); refine and_s rfl ?_; rw [wrap64 (by omega) (by omega)]; exact decide_eq_true (by (try simp only [List.length_map]); omega))))) ?_;conv=>whnf)
  (apply br_t rfl;conv=>whnf)
  (apply rq_s rfl;conv=>whnf)
  (apply br_t rfl;conv=>whnf)
  (refine row_s (by (exact row_word (by assumption) (by omega))) ?_;conv=>whnf)
  (apply br_t rfl;conv=>whnf)
  (apply rq_s rfl;conv=>whnf)
  (focus (refine sh_s ?_; (first | (simp_all [tokenOK]; done) | (simp_all [tokenOK]; rfl))))
  iterate 7 (apply br_f rfl;conv=>whnf)
  (apply rq_s rfl;conv=>whnf)
  (focus (refine sh_s ?_; (first | (simp_all [tokenOK]; done) | (simp_all [tokenOK]; rfl))))
  iterate 15 (apply br_f rfl;conv=>whnf)
  (apply rq_s rfl;conv=>whnf)
  (focus (refine sh_s ?_; (first | (simp_all [tokenOK]; done) | (simp_all [tokenOK]; rfl))))
theorem c189 (ws : List Wd) (n : Int) : Con Tryz.prog 189 [roW ws, .int .i64 n] (undefs [roW ws, .int .i64 n]) (.bool (tokenOK ws n)) := by
  refine Con.evF 27 T_ok mix Tryz.func189 rfl rfl rfl rfl [.tmp 4] rfl fun ⟨hx, _⟩ => ?_
  have hl := facts_len hx
  conv => whnf
  iterate 3 (apply rq_s rfl;conv=>whnf)
  (apply lend_s;conv=>whnf)
  (refine call_s (c79 ..) ?_;conv=>whnf)
  (refine br_s ?_ ?_ <;> intro hb <;> (try simp only [cln] at hb) <;> conv=>whnf)
  iterate 3 (apply br_t rfl;conv=>whnf)
  iterate 2 (refine rq_s (by ((first | (have hq := inR_t (show inR _ 1 _ = true by assumption); rw [wrap64 (by omega) (by omega)]; exact decide_eq_true (by (try simp only [List.length_map]); omega)) | (have hq := inR_t (show inR _ 1 _ = true by assumption); refine and_s rfl ?_; rw [wrap64 (by omega) (by omega)]; exact decide_eq_true (by (try simp only [List.length_map]); omega))))) ?_;conv=>whnf)
  (apply br_t rfl;conv=>whnf)
  (apply rq_s rfl;conv=>whnf)
  (apply br_t rfl;conv=>whnf)
  (refine row_s (by (exact row_word (by assumption) (by omega))) ?_;conv=>whnf)
  (apply br_t rfl;conv=>whnf)
  (refine br_s ?_ ?_ <;> intro hb <;> (try simp only [cln] at hb) <;> conv=>whnf)
  iterate 3 (apply br_t rfl;conv=>whnf)
  iterate 2 (refine rq_s (by ((first | (have hq := inR_t (show inR _ 1 _ = true by assumption); rw [wrap64 (by omega) (by omega)]; exact decide_eq_true (by (try simp only [List.length_map]); omega)) | (have hq := inR_t (show inR _ 1 _ = true by assumption); refine and_s rfl ?_; rw [wrap64 (by omega) (by omega)]; exact decide_eq_true (by (try simp only [List.length_map]); omega))))) ?_;conv=>whnf)
  (apply br_t rfl;conv=>whnf)
  (apply rq_s rfl;conv=>whnf)
  (apply br_t rfl;conv=>whnf)
  (refine row_s (by (exact row_word (by assumption) (by omega))) ?_;conv=>whnf)
  (apply br_t rfl;conv=>whnf)
  (apply rq_s rfl;conv=>whnf)
  (focus (refine sh_s ?_; (first | (simp_all [tokenOK]; done) | (simp_all [tokenOK]; rfl))))
  iterate 7 (apply br_f rfl;conv=>whnf)
  (apply rq_s rfl;conv=>whnf)
  (focus (refine sh_s ?_; (first | (simp_all [tokenOK]; done) | (simp_all [tokenOK]; rfl))))
  iterate 15 (apply br_f rfl;conv=>whnf)
  (apply rq_s rfl;conv=>whnf)
  (focus (refine sh_s ?_; (first | (simp_all [tokenOK]; done) | (simp_all [tokenOK]; rfl))))
def badIt (ws : List Wd) (x : Itm) : Bool := !wordIt ws x

theorem c72 (f : Fth) (x : Itm) : Con Tryz.prog 72 [itV x, .rp (fthR f) 0] (undefs [itV x, .rp (fthR f) 0]) (.bool (badIt f.m.ws x)) := by
  refine Con.ev 16 T_ok mix Tryz.func72 rfl rfl rfl rfl [.tmp 3] rfl ?_
  conv => whnf
  iterate 2 (apply rq_s rfl;conv=>whnf)
  (refine br_s ?_ ?_ <;> intro hb <;> (try simp only [cln] at hb) <;> conv=>whnf)
  (apply rq_s rfl;conv=>whnf)
  (apply br_t rfl;conv=>whnf)
  (apply rq_s rfl;conv=>whnf)
  (apply br_t rfl;conv=>whnf)
  (refine row_s (by (rfl)) ?_;conv=>whnf)
  (apply br_t rfl;conv=>whnf)
  (apply rq_s rfl;conv=>whnf)
  iterate 2 (apply br_t rfl;conv=>whnf)
  iterate 2 (apply rq_s rfl;conv=>whnf)
  (apply lend_s;conv=>whnf)
  (apply rows_s rfl;conv=>whnf)
  (refine call_s (c73 ..) ?_;conv=>whnf)
  (apply br_t rfl;conv=>whnf)
  (apply rq_s rfl;conv=>whnf)
  (focus (refine sh_s ?_; (first | (simp_all [badIt, wordIt]; done))))
  iterate 7 (apply br_f rfl;conv=>whnf)
  (apply rq_s rfl;conv=>whnf)
  (focus (refine sh_s ?_; (first | (simp_all [badIt, wordIt]; done))))

theorem idxF (f : Fth) (rs : List Itm) : Con Tryz.prog 129 [roT rs, .fn 72 [.rp (fthR f) 0]] (undefs [roT rs, .fn 72 [.rp (fthR f) 0]]) (.int .i64 (findI (badIt f.m.ws) rs)) := by
  refine Con.evF 19 T_ok mix Tryz.func129 rfl rfl rfl rfl [.tmp 4] rfl fun ⟨hx, _⟩ => ?_
  have hx := facts_len hx
  conv => whnf
  rotate_left
  refine LoopG.rounds (α := Nat) T_ok mix [0, 1, 7, 8] [] (fun i => [(0, roT rs), (1, .fn 72 [.rp (fthR f) 0]), (7, .int .i64 rs.length), (8, .int .i64 i)]) (fun _ => []) (fun i => i ≤ rs.length ∧ ∀ j, j < i → badIt f.m.ws (rs.getD j default) = false) (fun i => rs.length - i) ?_ ?_
  · conv => whnf
    exact head_s 0 ⟨by simp, fun j hj => by omega⟩ (by simp [roT]) rfl
  · rintro i ⟨h1, h2⟩ - -
    conv => whnf
    (refine br_s ?_ ?_ <;> intro hb <;> (try simp only [cln] at hb) <;> conv=>whnf)
    (apply rq_s rfl;conv=>whnf)
    (refine rq_s (by refine and_s rfl ?_; simp only [lnm]; omega) ?_;conv=>whnf)
    (refine row_s (by ((try simp only [Int.toNat_natCast]); exact row_map itR _ _ _ default (by first | omega | (simp; omega)))) ?_;conv=>whnf)
    (refine handp_s 72 [none, none] ?_;conv=>whnf)
    iterate 3 (apply rq_s rfl;conv=>whnf)
    (focus (apply callpe_s (f := 72); (· repeat' (first | (refine sub_all ?_; simp [List.length_map]; done) | exact sub_map _ _ _ _ | apply cons_eq | apply obj_eq | apply agg_eq | apply own_eq | apply ro_eq | apply rp_eq | apply fnc_eq | rfl)); refine callp_s (f := 72) rfl (c72 f _) ?_;conv=>whnf))
    (refine br_s ?_ ?_ <;> intro hb <;> (try simp only [cln] at hb) <;> conv=>whnf)
    (apply rq_s rfl;conv=>whnf)
    iterate 2 (rotate_left)
    (apply rq_s rfl;conv=>whnf)
    rotate_left
    · refine sh_s ?_
      rw [findI_hit default (by assumption) hb h2]
    · refine head_s (i + 1) ⟨⟨by omega, fun j hj => ?_⟩, by omega⟩ (by rw [wrap64 (by omega) (by omega)]; rfl) rfl
      by_cases hji : j = i
      · subst hji; exact hb
      · exact h2 j (by omega)
    · refine sh_s ?_
      rw [findI_none default fun j hj => h2 j (by omega)]
theorem contF (f : Fth) (rs : List Itm) : Con Tryz.prog 71 [roT rs, .fn 72 [.rp (fthR f) 0]] (undefs [roT rs, .fn 72 [.rp (fthR f) 0]]) (.bool (rs.any (badIt f.m.ws))) := by
  refine Con.ev 9 T_ok mix Tryz.func71 rfl rfl rfl rfl [.tmp 4] rfl ?_
  conv => whnf
  (refine handp_s 129 [none, none] ?_;conv=>whnf)
  iterate 2 (apply rq_s rfl;conv=>whnf)
  (focus (apply callpe_s (f := 129); (· repeat' (first | (refine sub_all ?_; simp [List.length_map]; done) | exact sub_map _ _ _ _ | apply cons_eq | apply obj_eq | apply agg_eq | apply own_eq | apply ro_eq | apply rp_eq | apply fnc_eq | rfl)); refine callp_s (f := 129) rfl (idxF f _) ?_;conv=>whnf))
  (refine fac_s (fun hf => ?_);conv=>whnf)
  (apply rq_s rfl;conv=>whnf)
  (refine sh_s ?_; ((rw [← findI_any])))
theorem any_all (f : Fth) : (f.its.any (badIt f.m.ws)) = !(f.its.all (wordIt f.m.ws)) := by
  have := all_not_any (wordIt f.m.ws) f.its
  rw [← this, Bool.not_not]
  rfl

theorem c21 (f : Fth) : Con Tryz.prog 21 [fthV f] (undefs [fthV f]) (.bool (fthOK f)) := by
  refine Con.evF 55 T_ok mix Tryz.func21 rfl rfl rfl rfl [.tmp 2] rfl fun ⟨hx, _⟩ => ?_
  have hl := fth_facts hx
  conv => whnf
  iterate 3 (apply rq_s rfl;conv=>whnf)
  (refine br_s ?_ ?_ <;> intro hb <;> (try simp only [cln] at hb) <;> conv=>whnf)
  iterate 7 (apply br_t rfl;conv=>whnf)
  (apply rq_s rfl;conv=>whnf)
  rotate_left
  (apply rq_s rfl;conv=>whnf)
  iterate 2 (apply br_f rfl;conv=>whnf)
  (apply rq_s rfl;conv=>whnf)
  iterate 2 (apply br_f rfl;conv=>whnf)
  iterate 17 (apply rq_s rfl;conv=>whnf)
  (apply lend_s;conv=>whnf)
  iterate 11 (apply rows_s rfl;conv=>whnf)
  (refine call_s (c15 f.m f.ds ..) ?_;conv=>whnf)
  (apply br_f rfl;conv=>whnf)
  (refine br_s ?_ ?_ <;> intro hb <;> (try simp only [cln] at hb) <;> conv=>whnf)
  (apply rq_s rfl;conv=>whnf)
  rotate_left
  (apply rq_s rfl;conv=>whnf)
  (refine br_s ?_ ?_ <;> intro hb <;> (try simp only [cln] at hb) <;> conv=>whnf)
  (apply rq_s rfl;conv=>whnf)
  (refine br_s ?_ ?_ <;> intro hb <;> (try simp only [cln] at hb) <;> conv=>whnf)
  (apply rq_s rfl;conv=>whnf)
  iterate 3 (apply br_t rfl;conv=>whnf)
  (apply rq_s rfl;conv=>whnf)
  rotate_left
  iterate 4 (apply br_f rfl;conv=>whnf)
  (apply rq_s rfl;conv=>whnf)
  rotate_left
  iterate 2 (apply rq_s rfl;conv=>whnf)
  (apply lend_s;conv=>whnf)
  (refine call_s (c68 ..) ?_;conv=>whnf)
  (refine br_s ?_ ?_ <;> intro hb <;> (try simp only [cln] at hb) <;> conv=>whnf)
  iterate 5 (apply br_t rfl;conv=>whnf)
  (apply rq_s rfl;conv=>whnf)
  rotate_left
  (apply rq_s rfl;conv=>whnf)
  iterate 2 (apply br_f rfl;conv=>whnf)
  (apply rq_s rfl;conv=>whnf)
  (apply lend_s;conv=>whnf)
  (apply rows_s rfl;conv=>whnf)
  (refine call_s (c69 ..) ?_;conv=>whnf)
  (apply br_f rfl;conv=>whnf)
  (refine fac_s (fun hf => ?_);conv=>whnf)
  (refine br_s ?_ ?_ <;> intro hb <;> (try simp only [cln] at hb) <;> conv=>whnf)
  (apply rq_s rfl;conv=>whnf)
  rotate_left
  iterate 2 (apply rq_s rfl;conv=>whnf)
  (apply lend_s;conv=>whnf)
  (apply rows_s rfl;conv=>whnf)
  (refine call_s (c70 ..) ?_;conv=>whnf)
  iterate 2 (refine fac_s (fun hf => ?_);conv=>whnf)
  (refine br_s ?_ ?_ <;> intro hb <;> (try simp only [cln] at hb) <;> conv=>whnf)
  (apply rq_s rfl;conv=>whnf)
  iterate 3 (apply br_t rfl;conv=>whnf)
  (refine handp_s 71 [none, none] ?_;conv=>whnf)
  iterate 41 (apply rq_s rfl;conv=>whnf)
  (focus (apply callpe_s (f := 71); (· repeat' (first | (refine sub_all ?_; simp [List.length_map]; done) | exact sub_map _ _ _ _ | apply cons_eq | apply obj_eq | apply agg_eq | apply own_eq | apply ro_eq | apply rp_eq | apply fnc_eq | rfl)); refine callp_s (f := 71) rfl ((id (contF f f.its) : _)) ?_;conv=>whnf))
  (apply br_t rfl;conv=>whnf)
  (apply rq_s rfl;conv=>whnf)
  rotate_left
  iterate 5 (apply br_f rfl;conv=>whnf)
  (apply rq_s rfl;conv=>whnf)
  rotate_left
  · exact sh_s (by simp [fthOK, show ¬ f.m.ca.length = 0 by omega])
  · exact sh_s (by simp [fthOK, hb])
  · exact sh_s (by simp_all [fthOK, openOK]; (try rw [Bool.eq_iff_iff]); (try simp); (try omega))
  · exact sh_s (by simp_all [fthOK, openOK])
  · exact sh_s (by simp_all [fthOK, openOK])
  · exact sh_s (by simp_all [fthOK, openOK])
  · exact sh_s (by rw [any_all]; simp_all [fthOK, openOK])
  · exact sh_s (by have h0 : decide ((openF f.its).2 < 0) = false := decide_eq_false (by omega); rw [fthOK, openOK, h0]; simp_all)


theorem open_no {f : Fth} (h1 : f.co = true) (h : 0 ≤ (openF f.its).2 ∨ f.its.all (wordIt f.m.ws) = false) : openOK f = false := by
  rw [openOK, if_pos h1]
  rcases h with h | h
  · rw [show decide ((openF f.its).2 < 0) = false from decide_eq_false (by omega)]; simp
  · rw [h]; simp
theorem all_no {ws : List Wd} {xs : List Itm} {i : Nat} (hi : i < xs.length) (h : wordIt ws (xs.getD i default) = false) : xs.all (wordIt ws) = false := by
  have e : xs.getD i default = xs[i] := by simp [hi]
  rw [e] at h
  exact List.all_eq_false.2 ⟨xs[i], List.getElem_mem hi, by simp [h]⟩
theorem all_take {ws : List Wd} {xs : List Itm} {i : Nat} (hi : i < xs.length) (h : (xs.take i).all (wordIt ws) = true) (h2 : wordIt ws (xs.getD i default) = true) : (xs.take (i + 1)).all (wordIt ws) = true := by
  have e : xs.getD i default = xs[i] := by simp [hi]
  rw [e] at h2
  rw [List.take_succ_eq_append_getElem hi, List.all_append, h]
  simp [h2]

theorem c123 (f : Fth) : Con Tryz.prog 123 [fthV f] (undefs [fthV f]) (.bool (openOK f)) := by
  refine Con.evF 73 T_ok mix Tryz.func123 rfl rfl rfl rfl [.tmp 2] rfl fun ⟨hx, _⟩ => ?_
  have hl := fth_facts hx
  conv => whnf
  iterate 2 (apply rq_s rfl;conv=>whnf)
  (refine br_s ?_ ?_ <;> intro hb <;> (try simp only [cln] at hb) <;> conv=>whnf)
  (apply rq_s rfl;conv=>whnf)
  (refine br_s ?_ ?_ <;> intro hb <;> (try simp only [cln] at hb) <;> conv=>whnf)
  (apply rq_s rfl;conv=>whnf)
  iterate 3 (apply br_t rfl;conv=>whnf)
  (apply rq_s rfl;conv=>whnf)
  rotate_left
  iterate 4 (apply br_f rfl;conv=>whnf)
  (apply rq_s rfl;conv=>whnf)
  rotate_left
  iterate 2 (apply rq_s rfl;conv=>whnf)
  (apply lend_s;conv=>whnf)
  (refine call_s (c187 ..) ?_;conv=>whnf)
  (refine br_s ?_ ?_ <;> intro hb <;> (try simp only [cln] at hb) <;> conv=>whnf)
  iterate 5 (apply br_t rfl;conv=>whnf)
  (apply rq_s rfl;conv=>whnf)
  rotate_left
  (apply rq_s rfl;conv=>whnf)
  iterate 2 (apply br_f rfl;conv=>whnf)
  (apply rq_s rfl;conv=>whnf)
  (apply lend_s;conv=>whnf)
  (apply rows_s rfl;conv=>whnf)
  (refine call_s (c163 ..) ?_;conv=>whnf)
  (apply br_f rfl;conv=>whnf)
  (refine fac_s (fun hf => ?_);conv=>whnf)
  (refine br_s ?_ ?_ <;> intro hb <;> (try simp only [cln] at hb) <;> conv=>whnf)
  (apply rq_s rfl;conv=>whnf)
  rotate_left
  (apply rq_s rfl;conv=>whnf)
  rotate_left
  · exact sh_s (by simp_all [openOK]; (try rw [Bool.eq_iff_iff]); (try simp); (try omega))
  · exact sh_s (by simp_all [openOK])
  · exact sh_s (by simp_all [openOK])
  · exact sh_s (by simp_all [openOK])
  have h1 : f.co = true := by assumption
  have h2 : wordOK f.nm = true := by assumption
  have h3 : askF f.its = 0 := by assumption
  refine LoopG.emp 3 zI rfl ?_
  refine LoopG.rounds (α := Nat × List Int) T_ok mix [1, 3, 4] [(1, 1)] (fun a => [(1, .ptr 1 0 0), (3, roI a.2), (4, .int .i64 a.1)]) (fun _ => [(1, .live ⟨false, 0, fthR f, [fthR f]⟩)]) (fun a => a.1 ≤ f.its.length ∧ openK a.2 ∧ openGo (f.its.drop a.1) a.1 a.2 = openF f.its ∧ (f.its.take a.1).all (wordIt f.m.ws) = true) (fun a => f.its.length - a.1) ?_ ?_
  · conv => whnf
    exact head_s (0, []) ⟨by simp, openK_nil, by simp [openF], by simp⟩ rfl rfl
  · rintro ⟨i, op⟩ ⟨k1, k2, k3, k4⟩ - -
    simp only at k1 k2 k3 k4 ⊢
    by_cases hi : i < f.its.length
    rotate_left
    · obtain rfl : i = f.its.length := by omega
      rw [List.drop_length] at k3
      rw [List.take_length] at k4
      conv => whnf
      (apply rq_s rfl;conv=>whnf)
      (focus (apply br_f (by (simp; done));conv=>whnf))
      (apply rq_s rfl;conv=>whnf)
      rotate_left
      exact sh_s (by rw [openOK, if_pos h1, h2, h3, ← k3, k4]; rfl)
    rw [openGo_next hi] at k3
    by_cases hfit : fitB op (f.its.getD i default).k = true
    rotate_left
    · have hf0 : fitB op (f.its.getD i default).k = false := by simpa using hfit
      have gf : (!fitB op (f.its.getD i default).k) = true := by rw [hf0]; rfl
      rw [if_neg hfit] at k3
      have e0 := open_no h1 (.inl (by rw [← k3]; simp))
      conv => whnf
      (apply rq_s rfl;conv=>whnf)
      (refine br_s ?_ ?_ <;> intro hb <;> (try simp only [cln] at hb) <;> conv=>whnf)
      iterate 2 (apply rq_s rfl;conv=>whnf)
      (refine rq_s (by refine and_s rfl ?_; simp only [lnm]; omega) ?_;conv=>whnf)
      (apply rq_s rfl;conv=>whnf)
      (refine row_s (by ((try simp only [Int.toNat_natCast]); exact row_map itR _ _ _ default (by first | omega | (simp; omega)))) ?_;conv=>whnf)
      iterate 2 (apply rq_s rfl;conv=>whnf)
      (apply lend_s;conv=>whnf)
      (apply rows_s rfl;conv=>whnf)
      (refine call_s (c188 _ _ k2.2) ?_;conv=>whnf)
      (refine fac_s (fun hf => ?_);conv=>whnf)
      iterate 4 (refine ChkS.mk (by kernel_rfl) ?_;conv=>whnf)
      (apply br_t (by assumption);conv=>whnf)
      (refine ChkS.mk (by kernel_rfl) ?_;conv=>whnf)
      (apply br_t (by assumption);conv=>whnf)
      (refine ChkS.mk (by kernel_rfl) ?_;conv=>whnf)
      (apply br_t (by assumption);conv=>whnf)
      (refine ChkS.mk (by kernel_rfl) ?_;conv=>whnf)
      (apply br_t (by assumption);conv=>whnf)
      (refine ChkS.mk (by kernel_rfl) ?_;conv=>whnf)
      (apply br_t (by assumption);conv=>whnf)
      (refine ChkS.mk (by kernel_rfl) ?_;conv=>whnf)
      (apply br_t (by assumption);conv=>whnf)
      (refine ChkS.mk (by kernel_rfl) ?_;conv=>whnf)
      (apply br_t (by assumption);conv=>whnf)
      (refine ChkS.mk (by kernel_rfl) ?_;conv=>whnf)
      (apply br_t (by assumption);conv=>whnf)
      iterate 12 (refine ChkS.mk (by kernel_rfl) ?_;conv=>whnf)
      (apply br_t (by assumption);conv=>whnf)
      (refine ChkS.mk (by kernel_rfl) ?_;conv=>whnf)
      (apply br_t (by assumption);conv=>whnf)
      (refine ChkS.mk (by kernel_rfl) ?_;conv=>whnf)
      (apply br_t rfl;conv=>whnf)
      (apply rq_s rfl;conv=>whnf)
      rotate_left
      (apply rq_s rfl;conv=>whnf)
      rotate_left
      · exact sh_s (by rw [e0])
      · exact absurd hi (by omega)
    have gf : (!fitB op (f.its.getD i default).k) = false := by rw [hfit]; rfl
    rw [if_pos hfit] at k3
    have kq := openK_fit k2 hfit
    by_cases hk : (f.its.getD i default).k = 1
    rotate_left
    · have gk : ((f.its.getD i default).k == 1) = false := by simpa using hk
      have hw : wordIt f.m.ws (f.its.getD i default) = true := by rw [wordIt, decide_eq_true hk, Bool.true_or]
      have k5 := all_take hi k4 hw
      conv => whnf
      (apply rq_s rfl;conv=>whnf)
      (refine br_s ?_ ?_ <;> intro hb <;> (try simp only [cln] at hb) <;> conv=>whnf)
      iterate 2 (apply rq_s rfl;conv=>whnf)
      (refine rq_s (by refine and_s rfl ?_; simp only [lnm]; omega) ?_;conv=>whnf)
      (apply rq_s rfl;conv=>whnf)
      (refine row_s (by ((try simp only [Int.toNat_natCast]); exact row_map itR _ _ _ default (by first | omega | (simp; omega)))) ?_;conv=>whnf)
      iterate 2 (apply rq_s rfl;conv=>whnf)
      (apply lend_s;conv=>whnf)
      (apply rows_s rfl;conv=>whnf)
      (refine call_s (c188 _ _ k2.2) ?_;conv=>whnf)
      (refine fac_s (fun hf => ?_);conv=>whnf)
      iterate 4 (refine ChkS.mk (by kernel_rfl) ?_;conv=>whnf)
      (apply br_f (by assumption);conv=>whnf)
      (apply rq_s rfl;conv=>whnf)
      (refine ChkS.mk (by kernel_rfl) ?_;conv=>whnf)
      (apply br_f (by assumption);conv=>whnf)
      (refine ChkS.mk (by kernel_rfl) ?_;conv=>whnf)
      (apply br_f (by assumption);conv=>whnf)
      (refine ChkS.mk (by kernel_rfl) ?_;conv=>whnf)
      (apply br_f (by assumption);conv=>whnf)
      (apply rq_s rfl;conv=>whnf)
      (refine rq_s (by refine and_s rfl ?_; simp only [lnm]; omega) ?_;conv=>whnf)
      (refine ChkS.mk (by kernel_rfl) ?_;conv=>whnf)
      (apply br_f (by assumption);conv=>whnf)
      (apply rq_s rfl;conv=>whnf)
      (refine ChkS.mk (by kernel_rfl) ?_;conv=>whnf)
      (apply br_f (by assumption);conv=>whnf)
      (refine row_s (by ((try simp only [Int.toNat_natCast]); exact row_map itR _ _ _ default (by first | omega | (simp; omega)))) ?_;conv=>whnf)
      (refine ChkS.mk (by kernel_rfl) ?_;conv=>whnf)
      (apply br_f (by assumption);conv=>whnf)
      (refine ChkS.mk (by kernel_rfl) ?_;conv=>whnf)
      (apply br_f (by assumption);conv=>whnf)
      (refine ChkS.mk (by kernel_rfl) ?_;conv=>whnf)
      (apply br_f (by assumption);conv=>whnf)
      (refine ChkS.mk (by kernel_rfl) ?_;conv=>whnf)
      (apply br_f (by assumption);conv=>whnf)
      (refine ChkS.mk (by kernel_rfl) ?_;conv=>whnf)
      (apply br_f (by assumption);conv=>whnf)
      (refine ChkS.mk (by kernel_rfl) ?_;conv=>whnf)
      (apply br_f (by assumption);conv=>whnf)
      (refine ChkS.mk (by kernel_rfl) ?_;conv=>whnf)
      (apply br_f (by assumption);conv=>whnf)
      (refine ChkS.mk (by kernel_rfl) ?_;conv=>whnf)
      (apply br_f (by assumption);conv=>whnf)
      (refine ChkS.mk (by kernel_rfl) ?_;conv=>whnf)
      (apply br_f (by assumption);conv=>whnf)
      (refine ChkS.mk (by kernel_rfl) ?_;conv=>whnf)
      (apply br_f (by assumption);conv=>whnf)
      (refine ChkS.mk (by kernel_rfl) ?_;conv=>whnf)
      (apply br_f (by assumption);conv=>whnf)
      (refine ChkS.mk (by kernel_rfl) ?_;conv=>whnf)
      (apply br_f (by assumption);conv=>whnf)
      (refine ChkS.mk (by kernel_rfl) ?_;conv=>whnf)
      (apply br_f (by assumption);conv=>whnf)
      (refine ChkS.mk (by kernel_rfl) ?_;conv=>whnf)
      iterate 2 (apply br_f (by assumption);conv=>whnf)
      iterate 2 (refine ChkS.mk (by kernel_rfl) ?_;conv=>whnf)
      (refine br_s ?_ ?_ <;> intro hb <;> (try simp only [cln] at hb) <;> conv=>whnf)
      (apply rq_s rfl;conv=>whnf)
      iterate 2 (rotate_left)
      (apply rq_s rfl;conv=>whnf)
      rotate_left
      · rw [hfit] at hb; simp at hb
      · exact head_s (i + 1, fitL op (f.its.getD i default).k) ⟨⟨by simp only; omega, kq, k3, k5⟩, by simp only; omega⟩ (by rw [wrap64 (by omega) (by omega)]; rfl) rfl
      · exact absurd hi (by omega)
    have gk : ((f.its.getD i default).k == 1) = true := by simpa using hk
    by_cases ht : tokenOK f.m.ws (f.its.getD i default).v = true
    rotate_left
    · have ht0 : tokenOK f.m.ws (f.its.getD i default).v = false := by simpa using ht
      have gt : (!tokenOK f.m.ws (f.its.getD i default).v) = true := by rw [ht0]; rfl
      have hw : wordIt f.m.ws (f.its.getD i default) = false := by rw [wordIt, ht0, Bool.or_false]; exact decide_eq_false (fun hq => hq hk)
      have e0 := open_no h1 (.inr (all_no hi hw))
      conv => whnf
      (apply rq_s rfl;conv=>whnf)
      (refine br_s ?_ ?_ <;> intro hb <;> (try simp only [cln] at hb) <;> conv=>whnf)
      iterate 2 (apply rq_s rfl;conv=>whnf)
      (refine rq_s (by refine and_s rfl ?_; simp only [lnm]; omega) ?_;conv=>whnf)
      (apply rq_s rfl;conv=>whnf)
      (refine row_s (by ((try simp only [Int.toNat_natCast]); exact row_map itR _ _ _ default (by first | omega | (simp; omega)))) ?_;conv=>whnf)
      iterate 2 (apply rq_s rfl;conv=>whnf)
      (apply lend_s;conv=>whnf)
      (apply rows_s rfl;conv=>whnf)
      (refine call_s (c188 _ _ k2.2) ?_;conv=>whnf)
      (refine fac_s (fun hf => ?_);conv=>whnf)
      iterate 4 (refine ChkS.mk (by kernel_rfl) ?_;conv=>whnf)
      (apply br_f (by simp only [gf, gk, gt, bbs, reduceIte]; done);conv=>whnf)
      (apply rq_s rfl;conv=>whnf)
      (refine ChkS.mk (by kernel_rfl) ?_;conv=>whnf)
      (apply br_f (by simp only [gf, gk, gt, bbs, reduceIte]; done);conv=>whnf)
      (refine ChkS.mk (by kernel_rfl) ?_;conv=>whnf)
      (apply br_f (by simp only [gf, gk, gt, bbs, reduceIte]; done);conv=>whnf)
      (refine ChkS.mk (by kernel_rfl) ?_;conv=>whnf)
      (apply br_f (by simp only [gf, gk, gt, bbs, reduceIte]; done);conv=>whnf)
      (apply rq_s rfl;conv=>whnf)
      (refine rq_s (by refine and_s rfl ?_; simp only [lnm]; omega) ?_;conv=>whnf)
      (refine ChkS.mk (by kernel_rfl) ?_;conv=>whnf)
      (apply br_f (by simp only [gf, gk, gt, bbs, reduceIte]; done);conv=>whnf)
      (apply rq_s rfl;conv=>whnf)
      (refine ChkS.mk (by kernel_rfl) ?_;conv=>whnf)
      (apply br_f (by simp only [gf, gk, gt, bbs, reduceIte]; done);conv=>whnf)
      (refine row_s (by ((try simp only [Int.toNat_natCast]); exact row_map itR _ _ _ default (by first | omega | (simp; omega)))) ?_;conv=>whnf)
      (refine ChkS.mk (by kernel_rfl) ?_;conv=>whnf)
      (apply br_f (by simp only [gf, gk, gt, bbs, reduceIte]; done);conv=>whnf)
      (refine ChkS.mk (by kernel_rfl) ?_;conv=>whnf)
      (apply br_f (by simp only [gf, gk, gt, bbs, reduceIte]; done);conv=>whnf)
      (refine ChkS.mk (by kernel_rfl) ?_;conv=>whnf)
      (apply br_t (by simp only [gf, gk, gt, bbs, reduceIte]; done);conv=>whnf)
      (apply rq_s rfl;conv=>whnf)
      (refine ChkS.mk (by kernel_rfl) ?_;conv=>whnf)
      (apply br_t (by simp only [gf, gk, gt, bbs, reduceIte]; done);conv=>whnf)
      (apply rq_s rfl;conv=>whnf)
      (refine ChkS.mk (by kernel_rfl) ?_;conv=>whnf)
      (apply br_t (by simp only [gf, gk, gt, bbs, reduceIte]; done);conv=>whnf)
      (refine ChkS.mk (by kernel_rfl) ?_;conv=>whnf)
      (apply br_t (by simp only [gf, gk, gt, bbs, reduceIte]; done);conv=>whnf)
      (apply rq_s rfl;conv=>whnf)
      (refine ChkS.mk (by kernel_rfl) ?_;conv=>whnf)
      (apply br_t (by simp only [gf, gk, gt, bbs, reduceIte]; done);conv=>whnf)
      (refine ChkS.mk (by kernel_rfl) ?_;conv=>whnf)
      (apply br_t (by simp only [gf, gk, gt, bbs, reduceIte]; done);conv=>whnf)
      (refine ChkS.mk (by kernel_rfl) ?_;conv=>whnf)
      (apply br_t (by simp only [gf, gk, gt, bbs, reduceIte]; done);conv=>whnf)
      (apply rq_s rfl;conv=>whnf)
      (refine rq_s (by refine and_s rfl ?_; simp only [lnm]; omega) ?_;conv=>whnf)
      (refine ChkS.mk (by kernel_rfl) ?_;conv=>whnf)
      (apply br_t (by simp only [gf, gk, gt, bbs, reduceIte]; done);conv=>whnf)
      (apply rq_s rfl;conv=>whnf)
      (refine ChkS.mk (by kernel_rfl) ?_;conv=>whnf)
      (apply br_t (by simp only [gf, gk, gt, bbs, reduceIte]; done);conv=>whnf)
      (refine row_s (by ((try simp only [Int.toNat_natCast]); exact row_map itR _ _ _ default (by first | omega | (simp; omega)))) ?_;conv=>whnf)
      (refine ChkS.mk (by kernel_rfl) ?_;conv=>whnf)
      (apply br_t (by simp only [gf, gk, gt, bbs, reduceIte]; done);conv=>whnf)
      iterate 2 (apply rq_s rfl;conv=>whnf)
      (apply rows_s rfl;conv=>whnf)
      (refine call_s (c189 ..) ?_;conv=>whnf)
      (refine ChkS.mk (by kernel_rfl) ?_;conv=>whnf)
      (apply br_t (by simp only [gf, gk, gt, bbs, reduceIte]; done);conv=>whnf)
      (refine ChkS.mk (by kernel_rfl) ?_;conv=>whnf)
      (apply br_f (by simp only [gf, gk, gt, bbs, reduceIte]; done);conv=>whnf)
      iterate 2 (refine ChkS.mk (by kernel_rfl) ?_;conv=>whnf)
      (apply br_t (by simp only [gf, gk, gt, bbs, reduceIte]; done);conv=>whnf)
      (apply rq_s rfl;conv=>whnf)
      rotate_left
      (apply rq_s rfl;conv=>whnf)
      rotate_left
      · exact sh_s (by rw [e0])
      · exact absurd hi (by omega)
    have gt : (!tokenOK f.m.ws (f.its.getD i default).v) = false := by rw [ht]; rfl
    have hw : wordIt f.m.ws (f.its.getD i default) = true := by rw [wordIt, ht, Bool.or_true]
    have k5 := all_take hi k4 hw
    conv => whnf
    (apply rq_s rfl;conv=>whnf)
    (refine br_s ?_ ?_ <;> intro hb <;> (try simp only [cln] at hb) <;> conv=>whnf)
    iterate 2 (apply rq_s rfl;conv=>whnf)
    (refine rq_s (by refine and_s rfl ?_; simp only [lnm]; omega) ?_;conv=>whnf)
    (apply rq_s rfl;conv=>whnf)
    (refine row_s (by ((try simp only [Int.toNat_natCast]); exact row_map itR _ _ _ default (by first | omega | (simp; omega)))) ?_;conv=>whnf)
    iterate 2 (apply rq_s rfl;conv=>whnf)
    (apply lend_s;conv=>whnf)
    (apply rows_s rfl;conv=>whnf)
    (refine call_s (c188 _ _ k2.2) ?_;conv=>whnf)
    (refine fac_s (fun hf => ?_);conv=>whnf)
    iterate 4 (refine ChkS.mk (by kernel_rfl) ?_;conv=>whnf)
    (apply br_f (by simp only [gf, gk, gt, bbs, reduceIte]; done);conv=>whnf)
    (apply rq_s rfl;conv=>whnf)
    (refine ChkS.mk (by kernel_rfl) ?_;conv=>whnf)
    (apply br_f (by simp only [gf, gk, gt, bbs, reduceIte]; done);conv=>whnf)
    (refine ChkS.mk (by kernel_rfl) ?_;conv=>whnf)
    (apply br_f (by simp only [gf, gk, gt, bbs, reduceIte]; done);conv=>whnf)
    (refine ChkS.mk (by kernel_rfl) ?_;conv=>whnf)
    (apply br_f (by simp only [gf, gk, gt, bbs, reduceIte]; done);conv=>whnf)
    (apply rq_s rfl;conv=>whnf)
    (refine rq_s (by refine and_s rfl ?_; simp only [lnm]; omega) ?_;conv=>whnf)
    (refine ChkS.mk (by kernel_rfl) ?_;conv=>whnf)
    (apply br_f (by simp only [gf, gk, gt, bbs, reduceIte]; done);conv=>whnf)
    (apply rq_s rfl;conv=>whnf)
    (refine ChkS.mk (by kernel_rfl) ?_;conv=>whnf)
    (apply br_f (by simp only [gf, gk, gt, bbs, reduceIte]; done);conv=>whnf)
    (refine row_s (by ((try simp only [Int.toNat_natCast]); exact row_map itR _ _ _ default (by first | omega | (simp; omega)))) ?_;conv=>whnf)
    (refine ChkS.mk (by kernel_rfl) ?_;conv=>whnf)
    (apply br_f (by simp only [gf, gk, gt, bbs, reduceIte]; done);conv=>whnf)
    (refine ChkS.mk (by kernel_rfl) ?_;conv=>whnf)
    (apply br_f (by simp only [gf, gk, gt, bbs, reduceIte]; done);conv=>whnf)
    (refine ChkS.mk (by kernel_rfl) ?_;conv=>whnf)
    (apply br_t (by simp only [gf, gk, gt, bbs, reduceIte]; done);conv=>whnf)
    (apply rq_s rfl;conv=>whnf)
    (refine ChkS.mk (by kernel_rfl) ?_;conv=>whnf)
    (apply br_t (by simp only [gf, gk, gt, bbs, reduceIte]; done);conv=>whnf)
    (apply rq_s rfl;conv=>whnf)
    (refine ChkS.mk (by kernel_rfl) ?_;conv=>whnf)
    (apply br_t (by simp only [gf, gk, gt, bbs, reduceIte]; done);conv=>whnf)
    (refine ChkS.mk (by kernel_rfl) ?_;conv=>whnf)
    (apply br_t (by simp only [gf, gk, gt, bbs, reduceIte]; done);conv=>whnf)
    (apply rq_s rfl;conv=>whnf)
    (refine ChkS.mk (by kernel_rfl) ?_;conv=>whnf)
    (apply br_t (by simp only [gf, gk, gt, bbs, reduceIte]; done);conv=>whnf)
    (refine ChkS.mk (by kernel_rfl) ?_;conv=>whnf)
    (apply br_t (by simp only [gf, gk, gt, bbs, reduceIte]; done);conv=>whnf)
    (refine ChkS.mk (by kernel_rfl) ?_;conv=>whnf)
    (apply br_t (by simp only [gf, gk, gt, bbs, reduceIte]; done);conv=>whnf)
    (apply rq_s rfl;conv=>whnf)
    (refine rq_s (by refine and_s rfl ?_; simp only [lnm]; omega) ?_;conv=>whnf)
    (refine ChkS.mk (by kernel_rfl) ?_;conv=>whnf)
    (apply br_t (by simp only [gf, gk, gt, bbs, reduceIte]; done);conv=>whnf)
    (apply rq_s rfl;conv=>whnf)
    (refine ChkS.mk (by kernel_rfl) ?_;conv=>whnf)
    (apply br_t (by simp only [gf, gk, gt, bbs, reduceIte]; done);conv=>whnf)
    (refine row_s (by ((try simp only [Int.toNat_natCast]); exact row_map itR _ _ _ default (by first | omega | (simp; omega)))) ?_;conv=>whnf)
    (refine ChkS.mk (by kernel_rfl) ?_;conv=>whnf)
    (apply br_t (by simp only [gf, gk, gt, bbs, reduceIte]; done);conv=>whnf)
    iterate 2 (apply rq_s rfl;conv=>whnf)
    (apply rows_s rfl;conv=>whnf)
    (refine call_s (c189 ..) ?_;conv=>whnf)
    (refine ChkS.mk (by kernel_rfl) ?_;conv=>whnf)
    (apply br_t (by simp only [gf, gk, gt, bbs, reduceIte]; done);conv=>whnf)
    (refine ChkS.mk (by kernel_rfl) ?_;conv=>whnf)
    (apply br_f (by simp only [gf, gk, gt, bbs, reduceIte]; done);conv=>whnf)
    iterate 2 (refine ChkS.mk (by kernel_rfl) ?_;conv=>whnf)
    (apply br_f (by simp only [gf, gk, gt, bbs, reduceIte]; done);conv=>whnf)
    rotate_left
    (apply rq_s rfl;conv=>whnf)
    rotate_left
    · exact head_s (i + 1, fitL op (f.its.getD i default).k) ⟨⟨by simp only; omega, kq, k3, k5⟩, by simp only; omega⟩ (by rw [wrap64 (by omega) (by omega)]; rfl) rfl
    · exact absurd hi (by omega)


theorem c66 (f : Fth) : Con Tryz.prog 66 [fthV f] (undefs [fthV f]) (.bool (fthOK f)) := by
  by_cases hm : mchOK f.m = true
  rotate_left
  · have hm0 : mchOK f.m = false := by simpa using hm
    have e : fthOK f = false := by simp [fthOK, dmOK, hm0]
    rw [e]
    refine Con.ev 24 T_ok mix Tryz.func66 rfl rfl rfl rfl [.tmp 2] rfl ?_
    conv => whnf
    iterate 18 (apply rq_s rfl;conv=>whnf)
    (apply lend_s;conv=>whnf)
    iterate 10 (apply rows_s rfl;conv=>whnf)
    (refine call_s (c47 ..) ?_;conv=>whnf)
    (apply br_f (by assumption);conv=>whnf)
    iterate 14 (apply br_f rfl;conv=>whnf)
    (apply rq_s rfl;conv=>whnf)
    rotate_left
    exact sh_s rfl
  refine Con.ev 24 T_ok mix Tryz.func66 rfl rfl rfl rfl [.tmp 2] rfl ?_
  conv => whnf
  iterate 18 (apply rq_s rfl;conv=>whnf)
  (apply lend_s;conv=>whnf)
  iterate 10 (apply rows_s rfl;conv=>whnf)
  (refine call_s (c47 f.m ..) ?_;conv=>whnf)
  (apply br_t (by assumption);conv=>whnf)
  (apply rq_s rfl;conv=>whnf)
  (apply br_t rfl;conv=>whnf)
  (apply rq_s rfl;conv=>whnf)
  iterate 3 (apply br_t rfl;conv=>whnf)
  (refine br_s ?_ ?_ <;> intro hb <;> (try simp only [cln] at hb) <;> conv=>whnf)
  (apply rq_s rfl;conv=>whnf)
  iterate 2 (apply br_t rfl;conv=>whnf)
  (apply rq_s rfl;conv=>whnf)
  iterate 2 (apply br_t rfl;conv=>whnf)
  iterate 17 (apply rq_s rfl;conv=>whnf)
  (apply lend_s;conv=>whnf)
  iterate 11 (apply rows_s rfl;conv=>whnf)
  (refine call_s (c48 f.m f.ds hm ..) ?_;conv=>whnf)
  (refine br_s ?_ ?_ <;> intro hb <;> (try simp only [cln] at hb) <;> conv=>whnf)
  (apply br_t rfl;conv=>whnf)
  iterate 20 (apply rq_s rfl;conv=>whnf)
  (apply lend_s;conv=>whnf)
  iterate 12 (apply rows_s rfl;conv=>whnf)
  (refine call_s (c123 f ..) ?_;conv=>whnf)
  (apply rq_s rfl;conv=>whnf)
  rotate_left
  iterate 2 (apply br_f rfl;conv=>whnf)
  (apply rq_s rfl;conv=>whnf)
  rotate_left
  iterate 8 (apply br_f rfl;conv=>whnf)
  (apply rq_s rfl;conv=>whnf)
  rotate_left
  · exact sh_s (by simp_all [fthOK, dmOK])
  · exact sh_s (by simp_all [fthOK, dmOK])
  · exact sh_s (by rw [fthOK, decide_eq_false (by omega)]; rfl)
theorem c19 (f : Fth) : Con Tryz.prog 19 [fthV f] (undefs [fthV f]) (.bool (fthOK f)) := by
  refine Con.ev 5 T_ok mix Tryz.func19 rfl rfl rfl rfl [.tmp 2] rfl ?_
  conv => whnf
  iterate 21 (apply rq_s rfl;conv=>whnf)
  (apply lend_s;conv=>whnf)
  iterate 12 (apply rows_s rfl;conv=>whnf)
  (refine call_s (c66 ..) ?_;conv=>whnf)
  (apply rq_s rfl;conv=>whnf)
  (refine sh_s ?_; (rfl))
def szFth (f : Fth) (l : Int) : Int := szC (szMch f.m l) fun l => szC (szDs f.ds l) fun l => szC (szN f.nm.length l) fun l => szC (szN f.its.length l) id
theorem c18 (f : Fth) (l : Int) (h0 : 0 ≤ l) (h1 : l ≤ 1048576) : Con Tryz.prog 18 [fthV f, .int .i64 l] (undefs [fthV f, .int .i64 l]) (.int .i64 (szFth f l)) := by
  refine Con.evF 31 T_ok mix Tryz.func18 rfl rfl rfl rfl [.tmp 4] rfl fun ⟨hx, _⟩ => ?_
  have hl := fth_facts hx
  have ks := c10 f.m l h0 h1
  by_cases hn : szMch f.m l < 0
  · have hb : decide (szMch f.m l < 0) = true := by simpa using hn
    rw [szFth, szC, if_pos hn]
    conv => whnf
    iterate 19 (apply rq_s rfl;conv=>whnf)
    (apply lend_s;conv=>whnf)
    iterate 10 (apply rows_s rfl;conv=>whnf)
    (refine call_s (ks ..) ?_;conv=>whnf)
    (refine fac_s (fun hf => ?_);conv=>whnf)
    (apply br_t (by assumption);conv=>whnf)
    (apply rq_s rfl;conv=>whnf)
    (refine sh_s ?_; (rfl))
  have hb : decide (szMch f.m l < 0) = false := by simpa using hn
  obtain ⟨l1, sm⟩ := smallM_of h0 h1 hl.1 (show 0 ≤ szMch f.m l by omega)
  rw [szFth, szC, if_neg hn]
  generalize szMch f.m l = z at ks hb hn l1
  have kd := c11 f.ds z (by omega) (by omega)
  by_cases hn2 : szDs f.ds z < 0
  · have hb2 : decide (szDs f.ds z < 0) = true := by simpa using hn2
    rw [szC, if_pos hn2]
    conv => whnf
    iterate 19 (apply rq_s rfl;conv=>whnf)
    (apply lend_s;conv=>whnf)
    iterate 10 (apply rows_s rfl;conv=>whnf)
    (refine call_s (ks ..) ?_;conv=>whnf)
    (refine fac_s (fun hf => ?_);conv=>whnf)
    (apply br_f (by assumption);conv=>whnf)
    iterate 3 (apply rq_s rfl;conv=>whnf)
    (apply lend_s;conv=>whnf)
    (apply rows_s rfl;conv=>whnf)
    (refine call_s (kd ..) ?_;conv=>whnf)
    (refine fac_s (fun hf => ?_);conv=>whnf)
    (apply br_t (by assumption);conv=>whnf)
    (apply rq_s rfl;conv=>whnf)
    (refine sh_s ?_; (rfl))
  have hb2 : decide (szDs f.ds z < 0) = false := by simpa using hn2
  rw [szC, if_neg hn2]
  generalize szDs f.ds z = z2 at kd hb2
  conv => whnf
  iterate 19 (apply rq_s rfl;conv=>whnf)
  (apply lend_s;conv=>whnf)
  iterate 10 (apply rows_s rfl;conv=>whnf)
  (refine call_s (ks ..) ?_;conv=>whnf)
  (refine fac_s (fun hf => ?_);conv=>whnf)
  (apply br_f (by assumption);conv=>whnf)
  iterate 3 (apply rq_s rfl;conv=>whnf)
  (apply lend_s;conv=>whnf)
  (apply rows_s rfl;conv=>whnf)
  (refine call_s (kd ..) ?_;conv=>whnf)
  (refine fac_s (fun hf => ?_);conv=>whnf)
  (apply br_f (by assumption);conv=>whnf)
  (apply rq_s rfl;conv=>whnf)
  (refine br_s ?_ ?_ <;> intro hb <;> (try simp only [cln] at hb) <;> conv=>whnf)
  (apply rq_s rfl;conv=>whnf)
  (focus (refine sh_s ?_; (first | (simp_all [szC, szN]; done) | (simp_all [szC, szN]; omega) | (simp only [szC]; rw [szN_ok (show 0 ≤ IntKind.i64.wrap (z2 - _) by assumption)]; first | (rw [if_neg (by omega), if_pos (by assumption)]; done) | (rw [if_neg (by omega), if_neg (by omega)]; rfl)))))
  iterate 3 (apply rq_s rfl;conv=>whnf)
  (apply lend_s;conv=>whnf)
  (apply rows_s rfl;conv=>whnf)
  (refine call_s (c65 ..) ?_;conv=>whnf)
  (refine fac_s (fun hf => ?_);conv=>whnf)
  (refine br_s ?_ ?_ <;> intro hb <;> (try simp only [cln] at hb) <;> conv=>whnf)
  (apply rq_s rfl;conv=>whnf)
  (focus (refine sh_s ?_; (first | (simp_all [szC, szN]; done) | (simp_all [szC, szN]; omega) | (simp only [szC]; rw [szN_ok (show 0 ≤ IntKind.i64.wrap (z2 - _) by assumption)]; first | (rw [if_neg (by omega), if_pos (by assumption)]; done) | (rw [if_neg (by omega), if_neg (by omega)]; rfl)))))
  (apply rq_s rfl;conv=>whnf)
  (focus (refine sh_s ?_; (first | (simp_all [szC, szN]; done) | (simp_all [szC, szN]; omega) | (simp only [szC]; rw [szN_ok (show 0 ≤ IntKind.i64.wrap (z2 - _) by assumption)]; first | (rw [if_neg (by omega), if_pos (by assumption)]; done) | (rw [if_neg (by omega), if_neg (by omega)]; rfl)))))
  all_goals skip
def smallF (f : Fth) : Prop := smallM f.m ∧ (f.ds.length ≤ 1048576 ∧ ∀ d ∈ f.ds, d.its.length ≤ 1048576) ∧ f.nm.length ≤ 1048576 ∧ f.its.length ≤ 1048576
theorem smallF_of {f : Fth} {l : Int} (h1 : 0 ≤ l) (h2 : l ≤ 1048576) (hl : MchLen f.m ∧ (∀ d ∈ f.ds, d.its.length ≤ 9223372036854775807) ∧ f.nm.length ≤ 9223372036854775807 ∧ f.its.length ≤ 9223372036854775807) (e : 0 ≤ szFth f l) : szFth f l ≤ l ∧ smallF f := by
  unfold szFth at e ⊢
  obtain ⟨a0, e, q0⟩ := szC_step e
  have k0 := smallM_of h1 h2 hl.1 a0
  obtain ⟨a1, e, q1⟩ := szC_step e
  have k1 := szDs_le (by omega) (by omega) a1
  obtain ⟨a2, e, q2⟩ := szC_step e
  have k2 := szN_le (by omega) (by omega) hl.2.2.1 a2
  obtain ⟨a3, e, q3⟩ := szC_step e
  have k3 := szN_le (by omega) (by omega) hl.2.2.2 a3
  try simp only [id] at *
  refine ⟨by rw [q0, q1, q2, q3]; (try simp only [id]); omega, k0.2, k1.2, k2.2, k3.2⟩
theorem c20 (f : Fth) (hs : smallF f) : Con Tryz.prog 20 [fthV f] (undefs [fthV f]) (fthO f) := by
  refine Con.ev 23 T_ok mix Tryz.func20 rfl rfl rfl rfl [.cell 2 58] rfl ?_
  conv => whnf
  iterate 18 (apply rq_s rfl;conv=>whnf)
  (apply lend_s;conv=>whnf)
  iterate 10 (apply rows_s rfl;conv=>whnf)
  (refine call_s (c13 f.m hs.1 ..) ?_;conv=>whnf)
  (apply rq_s rfl;conv=>whnf)
  iterate 16 (refine fac_s (fun hf => ?_);conv=>whnf)
  iterate 2 (apply rq_s rfl;conv=>whnf)
  (apply lend_s;conv=>whnf)
  (apply rows_s rfl;conv=>whnf)
  (refine call_s (c14 f.ds hs.2.1.1 hs.2.1.2 ..) ?_;conv=>whnf)
  (apply rq_s rfl;conv=>whnf)
  (refine fac_s (fun hf => ?_);conv=>whnf)
  iterate 6 (apply rq_s rfl;conv=>whnf)
  (apply lend_s;conv=>whnf)
  (apply rows_s rfl;conv=>whnf)
  (refine call_s (c67 _ hs.2.2.2) ?_;conv=>whnf)
  (apply rq_s rfl;conv=>whnf)
  (refine fac_s (fun hf => ?_);conv=>whnf)
  (apply rq_s rfl;conv=>whnf)
  (apply rq_s (by simp only [lnm, mkS_len, ownI, ownB, ownD, ownW, ownT, ownC, ownS]; done);conv=>whnf)
  (apply rq_s rfl;conv=>whnf)
  (apply rq_s (by simp only [lnm, mkS_len, ownI, ownB, ownD, ownW, ownT, ownC, ownS]; done);conv=>whnf)
  (apply rq_s rfl;conv=>whnf)
  (apply rq_s (by simp only [lnm, mkS_len, ownI, ownB, ownD, ownW, ownT, ownC, ownS]; done);conv=>whnf)
  (apply rq_s rfl;conv=>whnf)
  (apply rq_s (by simp only [lnm, mkS_len, ownI, ownB, ownD, ownW, ownT, ownC, ownS]; done);conv=>whnf)
  (apply rq_s rfl;conv=>whnf)
  (apply rq_s (by simp only [lnm, mkS_len, ownI, ownB, ownD, ownW, ownT, ownC, ownS]; done);conv=>whnf)
  iterate 4 (apply rq_s rfl;conv=>whnf)
  (apply rq_s (by simp only [lnm, mkS_len, ownI, ownB, ownD, ownW, ownT, ownC, ownS]; done);conv=>whnf)
  (apply rq_s rfl;conv=>whnf)
  (apply rq_s (by simp only [lnm, mkS_len, ownI, ownB, ownD, ownW, ownT, ownC, ownS]; done);conv=>whnf)
  (apply rq_s rfl;conv=>whnf)
  (apply rq_s (by simp only [lnm, mkS_len, ownI, ownB, ownD, ownW, ownT, ownC, ownS]; done);conv=>whnf)
  iterate 2 (apply rq_s rfl;conv=>whnf)
  (apply rq_s (by simp only [lnm, mkS_len, ownI, ownB, ownD, ownW, ownT, ownC, ownS]; done);conv=>whnf)
  (apply rq_s rfl;conv=>whnf)
  (apply rq_s (by simp only [lnm, mkS_len, ownI, ownB, ownD, ownW, ownT, ownC, ownS]; done);conv=>whnf)
  iterate 3 (apply rq_s rfl;conv=>whnf)
  (apply rq_s (by simp only [lnm, mkS_len, ownI, ownB, ownD, ownW, ownT, ownC, ownS]; done);conv=>whnf)
  iterate 3 (apply rq_s rfl;conv=>whnf)
  (apply rq_s (by simp only [lnm, mkS_len, ownI, ownB, ownD, ownW, ownT, ownC, ownS]; done);conv=>whnf)
  (apply rq_s rfl;conv=>whnf)
  iterate 12 (refine rows_s (by ((refine sub_all ?_; simp [List.length_map, mkS_len, ownI, ownB, ownD, ownW, ownT, ownC, ownS]; done))) ?_;conv=>whnf)
  (refine sh_s ?_; (rfl))
theorem eqF (f : Fth) : Con Tryz.prog 22 [fthV f, fthV f] (undefs [fthV f, fthV f]) (.bool true) := by
  have e5 : Con Tryz.prog 74 [roT f.its, roT f.its] (undefs [roT f.its, roT f.its]) (.bool true) := by simpa using c74 f.its f.its
  refine Con.ev 33 T_ok mix Tryz.func22 rfl rfl rfl rfl [.tmp 4] rfl ?_
  conv => whnf
  iterate 36 (apply rq_s rfl;conv=>whnf)
  (apply lend_s;conv=>whnf)
  iterate 20 (apply rows_s rfl;conv=>whnf)
  (refine call_s (eqM f.m ..) ?_;conv=>whnf)
  (apply br_f rfl;conv=>whnf)
  iterate 4 (apply rq_s rfl;conv=>whnf)
  (apply lend_s;conv=>whnf)
  iterate 2 (apply rows_s rfl;conv=>whnf)
  (refine call_s (eqDs f.ds ..) ?_;conv=>whnf)
  (apply br_f rfl;conv=>whnf)
  iterate 2 (apply rq_s rfl;conv=>whnf)
  (focus (apply br_f (by (simp; done));conv=>whnf))
  iterate 2 (apply rq_s rfl;conv=>whnf)
  (focus (apply br_f (by (simp; done));conv=>whnf))
  iterate 4 (apply rq_s rfl;conv=>whnf)
  (apply lend_s;conv=>whnf)
  iterate 2 (apply rows_s rfl;conv=>whnf)
  (refine call_s (e5 ..) ?_;conv=>whnf)
  (apply br_f rfl;conv=>whnf)
  (apply rq_s rfl;conv=>whnf)
  (refine sh_s ?_; (rfl))
end M7
