import Derived.Test.YtkmadcdphnhciaaGreatDoorDoA
import Derived.Test.YtkmadcdphnhciaaGreatDoorAbsi
import Derived.Test.YtkmadcdphnhciaaGreatDoorAbse
import Derived.Test.YtkmadcdphnhciaaGreatDoorAbsj
import Derived.Test.YtkmadcdphnhciaaGreatDoorAbsh
/- Items: what is valid, what fits, sizes: contracts. -/
set_option linter.unusedVariables false
set_option linter.unusedSimpArgs false
set_option maxRecDepth 100000
open Go Go.Abs Go.Proofs V1 H1
namespace I1

theorem c127 (x : Itm) : Con Tryz.prog 127 [itV x] (undefs [itV x]) (.bool (itemOK x)) := by
  refine Con.ev 23 T_ok mix Tryz.func127 rfl rfl rfl rfl [.tmp 2] rfl ?_
  conv => whnf
  iterate 2 (apply rq_s rfl;conv=>whnf)
  (refine br_s ?_ ?_ <;> intro hb <;> (try simp only [cln] at hb) <;> conv=>whnf)
  iterate 4 (apply rq_s rfl;conv=>whnf)
  (apply lend_s;conv=>whnf)
  (refine call_s (c57 ..) ?_;conv=>whnf)
  (apply rq_s rfl;conv=>whnf)
  (focus (refine sh_s ?_; (first | (simp_all [itemOK]; done) | (congr 1; rw [Bool.eq_iff_iff]; simp_all [itemOK]; done) | (congr 1; rw [Bool.eq_iff_iff]; simp_all [itemOK]; omega))))
  (refine br_s ?_ ?_ <;> intro hb <;> (try simp only [cln] at hb) <;> conv=>whnf)
  iterate 2 (apply rq_s rfl;conv=>whnf)
  (apply lend_s;conv=>whnf)
  (refine call_s (c174 ..) ?_;conv=>whnf)
  (apply rq_s rfl;conv=>whnf)
  (focus (refine sh_s ?_; (first | (simp_all [itemOK]; done) | (congr 1; rw [Bool.eq_iff_iff]; simp_all [itemOK]; done) | (congr 1; rw [Bool.eq_iff_iff]; simp_all [itemOK]; omega))))
  iterate 4 (apply rq_s rfl;conv=>whnf)
  (apply lend_s;conv=>whnf)
  (refine call_s (c57 ..) ?_;conv=>whnf)
  (refine br_s ?_ ?_ <;> intro hb <;> (try simp only [cln] at hb) <;> conv=>whnf)
  (apply rq_s rfl;conv=>whnf)
  iterate 2 (apply br_t rfl;conv=>whnf)
  (apply rq_s rfl;conv=>whnf)
  (focus (refine sh_s ?_; (first | (simp_all [itemOK]; done) | (congr 1; rw [Bool.eq_iff_iff]; simp_all [itemOK]; done) | (congr 1; rw [Bool.eq_iff_iff]; simp_all [itemOK]; omega))))
  iterate 3 (apply br_f rfl;conv=>whnf)
  (apply rq_s rfl;conv=>whnf)
  (focus (refine sh_s ?_; (first | (simp_all [itemOK]; done) | (congr 1; rw [Bool.eq_iff_iff]; simp_all [itemOK]; done) | (congr 1; rw [Bool.eq_iff_iff]; simp_all [itemOK]; omega))))
theorem c222 (x : Itm) : Con Tryz.prog 222 [itV x] (undefs [itV x]) (.bool (itemOK x)) := by
  refine Con.ev 23 T_ok mix Tryz.func222 rfl rfl rfl rfl [.tmp 2] rfl ?_
  conv => whnf
  iterate 2 (apply rq_s rfl;conv=>whnf)
  (refine br_s ?_ ?_ <;> intro hb <;> (try simp only [cln] at hb) <;> conv=>whnf)
  iterate 4 (apply rq_s rfl;conv=>whnf)
  (apply lend_s;conv=>whnf)
  (refine call_s (c79 ..) ?_;conv=>whnf)
  (apply rq_s rfl;conv=>whnf)
  (focus (refine sh_s ?_; (first | (simp_all [itemOK]; done) | (congr 1; rw [Bool.eq_iff_iff]; simp_all [itemOK]; done) | (congr 1; rw [Bool.eq_iff_iff]; simp_all [itemOK]; omega))))
  (refine br_s ?_ ?_ <;> intro hb <;> (try simp only [cln] at hb) <;> conv=>whnf)
  iterate 2 (apply rq_s rfl;conv=>whnf)
  (apply lend_s;conv=>whnf)
  (refine call_s (c160 ..) ?_;conv=>whnf)
  (apply rq_s rfl;conv=>whnf)
  (focus (refine sh_s ?_; (first | (simp_all [itemOK]; done) | (congr 1; rw [Bool.eq_iff_iff]; simp_all [itemOK]; done) | (congr 1; rw [Bool.eq_iff_iff]; simp_all [itemOK]; omega))))
  iterate 4 (apply rq_s rfl;conv=>whnf)
  (apply lend_s;conv=>whnf)
  (refine call_s (c79 ..) ?_;conv=>whnf)
  (refine br_s ?_ ?_ <;> intro hb <;> (try simp only [cln] at hb) <;> conv=>whnf)
  (apply rq_s rfl;conv=>whnf)
  iterate 2 (apply br_t rfl;conv=>whnf)
  (apply rq_s rfl;conv=>whnf)
  (focus (refine sh_s ?_; (first | (simp_all [itemOK]; done) | (congr 1; rw [Bool.eq_iff_iff]; simp_all [itemOK]; done) | (congr 1; rw [Bool.eq_iff_iff]; simp_all [itemOK]; omega))))
  iterate 3 (apply br_f rfl;conv=>whnf)
  (apply rq_s rfl;conv=>whnf)
  (focus (refine sh_s ?_; (first | (simp_all [itemOK]; done) | (congr 1; rw [Bool.eq_iff_iff]; simp_all [itemOK]; done) | (congr 1; rw [Bool.eq_iff_iff]; simp_all [itemOK]; omega))))
theorem c126 (x : Itm) : Con Tryz.prog 126 [itV x] (undefs [itV x]) (.bool (badItem x)) := by
  refine Con.ev 6 T_ok mix Tryz.func126 rfl rfl rfl rfl [.tmp 2] rfl ?_
  conv => whnf
  iterate 3 (apply rq_s rfl;conv=>whnf)
  (apply lend_s;conv=>whnf)
  (refine call_s (c127 ..) ?_;conv=>whnf)
  (apply rq_s rfl;conv=>whnf)
  (refine sh_s ?_; (rfl))

theorem c129 (rs : List (Itm)) : Con Tryz.prog 129 [roT rs, .fn 126 []] (undefs [roT rs, .fn 126 []]) (.int .i64 (findI badItem rs)) := by
  refine Con.evF 19 T_ok mix Tryz.func129 rfl rfl rfl rfl [.tmp 4] rfl fun ⟨hx, _⟩ => ?_
  have hx := facts_len hx
  conv => whnf
  rotate_left
  refine LoopG.rounds (α := Nat) T_ok mix [0, 1, 7, 8] [] (fun i => [(0, roT rs), (1, .fn 126 []), (7, .int .i64 rs.length), (8, .int .i64 i)]) (fun _ => []) (fun i => i ≤ rs.length ∧ ∀ j, j < i → badItem (rs.getD j default) = false) (fun i => rs.length - i) ?_ ?_
  · conv => whnf
    exact head_s 0 ⟨by simp, fun j hj => by omega⟩ (by simp [roT]) rfl
  · rintro i ⟨h1, h2⟩ - -
    conv => whnf
    (refine br_s ?_ ?_ <;> intro hb <;> (try simp only [cln] at hb) <;> conv=>whnf)
    (apply rq_s rfl;conv=>whnf)
    (refine rq_s (by refine and_s rfl ?_; simp only [lnm]; omega) ?_;conv=>whnf)
    (refine row_s (by ((try simp only [Int.toNat_natCast]); exact row_map itR _ _ _ default (by first | omega | (simp; omega)))) ?_;conv=>whnf)
    iterate 2 (apply rq_s rfl;conv=>whnf)
    (apply lend_s;conv=>whnf)
    (refine call_s (c126 ..) ?_;conv=>whnf)
    (refine br_s ?_ ?_ <;> intro hb <;> (try simp only [cln] at hb) <;> conv=>whnf)
    (apply rq_s rfl;conv=>whnf)
    iterate 2 (rotate_left)
    (apply rq_s rfl;conv=>whnf)
    rotate_left
    · refine sh_s ?_
      rw [findI_hit default (by assumption) hb h2]
    · refine head_s (i + 1) ⟨⟨by omega, fun j hj => ?_⟩, by omega⟩ (by rw [wrap64 (by omega) (by omega)]; rfl) rfl
      by_cases hji : j = i
      · subst hji; exact hb
      · exact h2 j (by omega)
    · refine sh_s ?_
      rw [findI_none default fun j hj => h2 j (by omega)]
theorem c71 (rs : List (Itm)) : Con Tryz.prog 71 [roT rs, .fn 126 []] (undefs [roT rs, .fn 126 []]) (.bool (rs.any badItem)) := by
  refine Con.ev 9 T_ok mix Tryz.func71 rfl rfl rfl rfl [.tmp 4] rfl ?_
  conv => whnf
  iterate 2 (apply rq_s rfl;conv=>whnf)
  (apply lend_s;conv=>whnf)
  (apply rows_s rfl;conv=>whnf)
  (refine call_s (c129 ..) ?_;conv=>whnf)
  (refine fac_s (fun hf => ?_);conv=>whnf)
  (apply rq_s rfl;conv=>whnf)
  (refine sh_s ?_; ((rw [← findI_any])))
theorem itemsBad (xs : List Itm) : Con Tryz.prog 71 [roT xs, .fn 126 []] (undefs [roT xs, .fn 126 []]) (.bool (!itemsOK xs)) := items_any xs ▸ c71 xs
def longT (rs : List Itm) : Bool := decide (4096 < rs.length)
theorem c191 (rs : List Itm) : Con Tryz.prog 191 [roT rs] (undefs [roT rs]) (.bool (longT rs)) := by
  refine Con.ev 6 T_ok mix Tryz.func191 rfl rfl rfl rfl [.tmp 2] rfl ?_
  conv => whnf
  (apply rq_s rfl;conv=>whnf)
  (refine sh_s ?_; ((simp [longT]; omega)))
def rrT (rs : List Itm) : List AV := [roT rs]
def roRRT (rss : List (List Itm)) : AV := .ro [.emp] (rss.map rrT)

theorem c233 (rss : List (List Itm)) : Con Tryz.prog 233 [roRRT rss, .fn 191 []] (undefs [roRRT rss, .fn 191 []]) (.int .i64 (findI longT rss)) := by
  refine Con.evF 19 T_ok mix Tryz.func233 rfl rfl rfl rfl [.tmp 4] rfl fun ⟨hx, _⟩ => ?_
  have hx := facts_len hx
  conv => whnf
  rotate_left
  refine LoopG.rounds (α := Nat) T_ok mix [0, 1, 7, 8] [] (fun i => [(0, roRRT rss), (1, .fn 191 []), (7, .int .i64 rss.length), (8, .int .i64 i)]) (fun _ => []) (fun i => i ≤ rss.length ∧ ∀ j, j < i → longT (rss.getD j default) = false) (fun i => rss.length - i) ?_ ?_
  · conv => whnf
    exact head_s 0 ⟨by simp, fun j hj => by omega⟩ (by simp [roRRT]) rfl
  · rintro i ⟨h1, h2⟩ - -
    conv => whnf
    (refine br_s ?_ ?_ <;> intro hb <;> (try simp only [cln] at hb) <;> conv=>whnf)
    (apply rq_s rfl;conv=>whnf)
    (refine rq_s (by refine and_s rfl ?_; simp only [lnm]; omega) ?_;conv=>whnf)
    (refine row_s (by ((try simp only [Int.toNat_natCast]); exact row_map rrT _ _ _ default (by first | omega | (simp; omega)))) ?_;conv=>whnf)
    (apply rq_s rfl;conv=>whnf)
    (apply lend_s;conv=>whnf)
    (apply rows_s rfl;conv=>whnf)
    (refine call_s (c191 ..) ?_;conv=>whnf)
    (refine br_s ?_ ?_ <;> intro hb <;> (try simp only [cln] at hb) <;> conv=>whnf)
    (apply rq_s rfl;conv=>whnf)
    iterate 2 (rotate_left)
    (apply rq_s rfl;conv=>whnf)
    rotate_left
    · refine sh_s ?_
      rw [findI_hit default (by assumption) hb h2]
    · refine head_s (i + 1) ⟨⟨by omega, fun j hj => ?_⟩, by omega⟩ (by rw [wrap64 (by omega) (by omega)]; rfl) rfl
      by_cases hji : j = i
      · subst hji; exact hb
      · exact h2 j (by omega)
    · refine sh_s ?_
      rw [findI_none default fun j hj => h2 j (by omega)]
theorem c190 (rss : List (List Itm)) : Con Tryz.prog 190 [roRRT rss, .fn 191 []] (undefs [roRRT rss, .fn 191 []]) (.bool (rss.any longT)) := by
  refine Con.ev 9 T_ok mix Tryz.func190 rfl rfl rfl rfl [.tmp 4] rfl ?_
  conv => whnf
  iterate 2 (apply rq_s rfl;conv=>whnf)
  (apply lend_s;conv=>whnf)
  (apply rows_s rfl;conv=>whnf)
  (refine call_s (c233 ..) ?_;conv=>whnf)
  (refine fac_s (fun hf => ?_);conv=>whnf)
  (apply rq_s rfl;conv=>whnf)
  (refine sh_s ?_; ((rw [← findI_any])))
theorem c125 (rs : List Itm) : Con Tryz.prog 125 [.ro [.emp] [[roT rs]]] (undefs [.ro [.emp] [[roT rs]]]) (.bool (decide (4096 < rs.length))) := by
  have e : (.bool (decide (4096 < rs.length)) : AV) = .bool ([rs].any longT) := by simp [longT]
  rw [e]
  show Con Tryz.prog 125 [roRRT [rs]] (undefs [roRRT [rs]]) _
  refine Con.ev 5 T_ok mix Tryz.func125 rfl rfl rfl rfl [.tmp 2] rfl ?_
  conv => whnf
  iterate 2 (apply rq_s rfl;conv=>whnf)
  (apply lend_s;conv=>whnf)
  (apply rows_s rfl;conv=>whnf)
  (refine call_s (c190 ..) ?_;conv=>whnf)
  (apply rq_s rfl;conv=>whnf)
  (refine sh_s ?_; (rfl))

theorem c69 (xs : List Itm) : Con Tryz.prog 69 [roT xs] (undefs [roT xs]) (.int .i64 (askF xs)) := by
  refine Con.ev 14 T_ok mix Tryz.func69 rfl rfl rfl rfl [.tmp 2] rfl ?_
  conv => whnf
  (apply rq_s rfl;conv=>whnf)
  (apply rq_s (by simp only [lnm, mkS_len]; done);conv=>whnf)
  (apply rq_s rfl;conv=>whnf)
  (apply lend_s;conv=>whnf)
  (refine rows_s (by ((refine sub_all ?_; simp [List.length_map, mkS_len]; done))) ?_;conv=>whnf)
  (refine call_s (c125 ..) ?_;conv=>whnf)
  (refine br_s ?_ ?_ <;> intro hb <;> (try simp only [cln] at hb) <;> conv=>whnf)
  (apply rq_s rfl;conv=>whnf)
  (focus (refine sh_s ?_; ((simp only [askF]; first | (rw [if_pos (by omega)]; done) | (rw [if_neg (by omega), if_pos (by omega)]; done) | (rw [if_neg (by omega), if_neg (by omega), if_pos (by simp_all)]; done) | (rw [if_neg (by omega), if_neg (by omega), if_neg (by simp_all)]; done)))))
  (refine br_s ?_ ?_ <;> intro hb <;> (try simp only [cln] at hb) <;> conv=>whnf)
  (apply rq_s rfl;conv=>whnf)
  (focus (refine sh_s ?_; ((simp only [askF]; first | (rw [if_pos (by omega)]; done) | (rw [if_neg (by omega), if_pos (by omega)]; done) | (rw [if_neg (by omega), if_neg (by omega), if_pos (by simp_all)]; done) | (rw [if_neg (by omega), if_neg (by omega), if_neg (by simp_all)]; done)))))
  iterate 2 (apply rq_s rfl;conv=>whnf)
  (apply lend_s;conv=>whnf)
  (apply rows_s rfl;conv=>whnf)
  (refine call_s (itemsBad ..) ?_;conv=>whnf)
  (refine br_s ?_ ?_ <;> intro hb <;> (try simp only [cln] at hb) <;> conv=>whnf)
  (apply rq_s rfl;conv=>whnf)
  (focus (refine sh_s ?_; ((simp only [askF]; first | (rw [if_pos (by omega)]; done) | (rw [if_neg (by omega), if_pos (by omega)]; done) | (rw [if_neg (by omega), if_neg (by omega), if_pos (by simp_all)]; done) | (rw [if_neg (by omega), if_neg (by omega), if_neg (by simp_all)]; done)))))
  (apply rq_s rfl;conv=>whnf)
  (focus (refine sh_s ?_; ((simp only [askF]; first | (rw [if_pos (by omega)]; done) | (rw [if_neg (by omega), if_pos (by omega)]; done) | (rw [if_neg (by omega), if_neg (by omega), if_pos (by simp_all)]; done) | (rw [if_neg (by omega), if_neg (by omega), if_neg (by simp_all)]; done)))))

theorem c163 (xs : List Itm) : Con Tryz.prog 163 [roT xs] (undefs [roT xs]) (.int .i64 (askF xs)) := by
  refine Con.evF 22 T_ok mix Tryz.func163 rfl rfl rfl rfl [.tmp 2] rfl fun ⟨hx, _⟩ => ?_
  have hx := facts_len hx
  conv => whnf
  (refine br_s ?_ ?_ <;> intro hb <;> (try simp only [cln] at hb) <;> conv=>whnf)
  (apply rq_s rfl;conv=>whnf)
  (focus (refine sh_s ?_; ((simp only [askF]; first | (rw [if_pos (by omega)]; done) | (rw [if_neg (by omega), if_pos (by omega)]; done)))))
  (refine br_s ?_ ?_ <;> intro hb <;> (try simp only [cln] at hb) <;> conv=>whnf)
  (apply rq_s rfl;conv=>whnf)
  (focus (refine sh_s ?_; ((simp only [askF]; first | (rw [if_pos (by omega)]; done) | (rw [if_neg (by omega), if_pos (by omega)]; done)))))
  rotate_left
  refine LoopG.rounds (α := Nat) T_ok mix [0, 3] [] (fun i => [(0, roT xs), (3, .int .i64 i)]) (fun _ => []) (fun i => i ≤ xs.length ∧ ∀ j, j < i → itemOK (xs.getD j default) = true) (fun i => xs.length - i) ?_ ?_
  · conv => whnf
    exact head_s 0 ⟨by simp, fun j hj => by omega⟩ (by first | rfl | simp [roT]) rfl
  · rintro i ⟨h1, h2⟩ - -
    conv => whnf
    (refine br_s ?_ ?_ <;> intro hb <;> (try simp only [cln] at hb) <;> conv=>whnf)
    (apply rq_s rfl;conv=>whnf)
    (refine rq_s (by refine and_s rfl ?_; simp only [lnm]; omega) ?_;conv=>whnf)
    (refine row_s (by ((try simp only [Int.toNat_natCast]); exact row_map itR _ _ _ default (by first | omega | (simp; omega)))) ?_;conv=>whnf)
    iterate 2 (apply rq_s rfl;conv=>whnf)
    (apply lend_s;conv=>whnf)
    (refine call_s (c222 ..) ?_;conv=>whnf)
    (refine br_s ?_ ?_ <;> intro hb <;> (try simp only [cln] at hb) <;> conv=>whnf)
    (apply rq_s rfl;conv=>whnf)
    iterate 2 (rotate_left)
    (apply rq_s rfl;conv=>whnf)
    rotate_left
    · refine sh_s ?_
      have : itemsOK xs = false := all_bad (by assumption) (by simpa using hb)
      simp only [askF]
      rw [if_neg (by omega), if_neg (by omega), if_neg (by simp [this])]
    · refine head_s (i + 1) ⟨⟨by omega, fun j hj => ?_⟩, by omega⟩ (by rw [wrap64 (by omega) (by omega)]; rfl) rfl
      by_cases hji : j = i
      · subst hji; simpa using hb
      · exact h2 j (by omega)
    · refine sh_s ?_
      have : itemsOK xs = true := all_good fun j hj => h2 j (by omega)
      simp only [askF]
      rw [if_neg (by omega), if_neg (by omega), if_pos this]
end I1

/- What is open behind items, and sizes: contracts. -/
set_option linter.unusedVariables false
set_option linter.unusedSimpArgs false
set_option maxRecDepth 100000
open Go Go.Abs Go.Proofs V1 H1 I1
namespace I2

theorem c192 (op : List Int) (k : Int) (h1 : 1 ≤ op.length) (h2 : op.length ≤ 1000) : Con Tryz.prog 192 [.int .i64 k, .rp [roI op] 0] (undefs [.int .i64 k, .rp [roI op] 0]) (ownI (op.take (op.length - 1) ++ [k])) := by
  have w1 : IntKind.i64.wrap ((op.length : Int) - 1) = (op.length : Int) - 1 := wrap64 (by omega) (by omega)
  have w2 : (IntKind.i64.wrap ((op.length : Int) - 1)).toNat = op.length - 1 := by omega
  refine Con.ev 13 T_ok mix Tryz.func192 rfl rfl rfl rfl [.tmp 3] rfl ?_
  conv => whnf
  iterate 2 (refine row_s (by (rfl)) ?_;conv=>whnf)
  (apply rq_s (by simp only [Bool.and_eq_true, decide_eq_true_eq, List.length_map]; omega);conv=>whnf)
  (refine rq_s (by refine and_s rfl ?_; simp only [lnm]; omega) ?_;conv=>whnf)
  iterate 2 (apply rq_s rfl;conv=>whnf)
  (apply lend_s;conv=>whnf)
  (apply rows_s (by (exact sub_map _ _ _ _));conv=>whnf)
  (refine call_s (c193 _ (by first | omega | (dsimp only; omega) | (simp; omega))) ?_;conv=>whnf)
  (apply rq_s rfl;conv=>whnf)
  (apply rq_s (by simp only [lnm, mkS_len]; done);conv=>whnf)
  iterate 2 (apply rq_s rfl;conv=>whnf)
  (apply rq_s (by simp only [lnm, mkS_len]; done);conv=>whnf)
  (apply rq_s (by (((simp [maxBytes, subA]; omega))));conv=>whnf)
  (refine app0_s ?_;conv=>whnf)
  (apply rq_s (by simp only [lnm, mkS_len]; done);conv=>whnf)
  (apply rq_s rfl;conv=>whnf)
  (apply rows_s rfl;conv=>whnf)
  (refine sh_s ?_; ((simp [w2, subA, ownI, intR, List.map_take, List.take_take, List.take_of_length_le])))
section
variable {op : List Int} {k : Int}
theorem ft_o (hk : k = 3 ∨ k = 6 ∨ k = 10) : fitL op k = op ++ [k] ∧ fitI op k = op ++ [k] ∧ fitB op k = decide (op.length < 8) := by
  have h1 : fitL op k = op ++ [k] := by rw [fitL, if_pos hk]
  exact ⟨h1, by rw [fitI, if_pos (.inr hk), h1], by rw [fitB, if_pos hk]⟩
theorem ft_t (hk : k = 4 ∨ k = 8) : fitL op k = op.take (op.length - 1) ++ [k] := by rw [fitL, if_neg (by omega), if_pos hk]
theorem ft_c (hk : k = 5 ∨ k = 7 ∨ k = 9 ∨ k = 11 ∨ k = 12) : fitL op k = op.take (op.length - 1) := by rw [fitL, if_neg (by omega), if_neg (by omega), if_pos hk]
theorem ft_n (hk : ¬ (3 ≤ k ∧ k ≤ 12)) : fitL op k = op ∧ fitI op k = op ∧ fitB op k = true := by
  have h1 : fitL op k = op := by rw [fitL, if_neg (by omega), if_neg (by omega), if_neg (by omega)]
  have h2 : fitB op k = true := by rw [fitB, if_neg (by omega), if_neg (by omega), if_neg (by omega), if_neg (by omega), if_neg (by omega), if_neg (by omega), if_neg (by omega)]
  exact ⟨h1, by rw [fitI_t h2, h1], h2⟩
theorem fb4 : fitB op 4 = decide (lastF op = 3) := rfl
theorem fb8 : fitB op 8 = decide (lastF op = 6) := rfl
theorem fb5 : fitB op 5 = (decide (lastF op = 3) || decide (lastF op = 4)) := rfl
theorem fb7 : fitB op 7 = decide (lastF op = 6) := rfl
theorem fb9 : fitB op 9 = decide (lastF op = 8) := rfl
theorem fb11 : fitB op 11 = decide (lastF op = 10) := rfl
theorem fb12 : fitB op 12 = decide (lastF op = 10) := rfl
theorem fi_f (h : fitB op k = false) (hk : ¬ (k = 3 ∨ k = 6 ∨ k = 10)) : fitI op k = op := by rw [fitI, if_neg (by simp [h, hk])]
theorem row_last (z : List AV) (e : 1 ≤ op.length) (h1 : op.length ≤ 1000) : rowA (op.map intR) (Int.toNat (IntKind.i64.wrap ((op.length : Int) - 1))) z = [.int .i64 (lastF op)] := by
  rw [wrap64 (by omega) (by omega), show ((op.length : Int) - 1).toNat = op.length - 1 by omega]
  exact row_map intR op _ _ 0 (by omega)
end

def fitR (l : List Int) (b : Bool) : AV := .tup [roI l, .bool b]
theorem fitR_sh (l : List Int) (b : Bool) : Sh (.tup [ownI l, .bool b]) (fitR l b) := Sh.tup ⟨Sh.own_ro (by omega) _ _, Sh.refl _, trivial⟩
theorem fit0 (op : List Int) (k : Int) (h7 : lastF op ≠ 7) (h2 : op.length ≤ 8) (hk : ¬ (3 ≤ k ∧ k ≤ 12)) : Con Tryz.prog 128 [roI op, .int .i64 k] (undefs [roI op, .int .i64 k]) (fitR op true) := by
  have w1 : IntKind.i64.wrap ((op.length : Int) - 1) = (op.length : Int) - 1 := wrap64 (by omega) (by omega)
  have e3 : (k == 3) = false := by simp; omega
  have e4 : (k == 4) = false := by simp; omega
  have e5 : (k == 5) = false := by simp; omega
  have e6 : (k == 6) = false := by simp; omega
  have e7 : (k == 7) = false := by simp; omega
  have e8 : (k == 8) = false := by simp; omega
  have e9 : (k == 9) = false := by simp; omega
  have e10 : (k == 10) = false := by simp; omega
  have e11 : (k == 11) = false := by simp; omega
  have e12 : (k == 12) = false := by simp; omega
  refine Con.ev 82 T_ok mix Tryz.func128 rfl rfl rfl rfl [.tmp 4, .tmp 5] rfl ?_
  conv => whnf
  (apply rq_s rfl;conv=>whnf)
  (refine br_s ?_ ?_ <;> intro hb <;> (try simp only [cln] at hb) <;> conv=>whnf)
  (apply rq_s (by simp only [Bool.and_eq_true, decide_eq_true_eq, List.length_map]; omega);conv=>whnf)
  (refine rq_s (by refine and_s rfl ?_; simp only [lnm]; omega) ?_;conv=>whnf)
  (refine row_s (by ((try simp only [Nat.zero_add, List.length_map]); exact row_last _ (by omega) (by omega))) ?_;conv=>whnf)
  iterate 10 (apply br_f (by assumption);conv=>whnf)
  iterate 2 (apply rq_s rfl;conv=>whnf)
  (apply rows_s rfl;conv=>whnf)
  (refine sh_s ?_; (rfl))
  iterate 10 (apply br_f (by assumption);conv=>whnf)
  iterate 2 (apply rq_s rfl;conv=>whnf)
  (apply rows_s rfl;conv=>whnf)
  (refine sh_s ?_; (rfl))
theorem sub3 (op : List Int) (k : Int) : subA (subA (op.map intR) 0 (op.map intR).length ++ subA [[AV.int .i64 k]] 0 1) 0 ((op.map intR).length + (subA [[AV.int .i64 k]] 0 1).length) = (op ++ [k]).map intR := by
  simp [subA, intR, List.take_of_length_le]
theorem w41 : IntKind.i64.wrap (4 - 1) = 3 := by decide
theorem w81 : IntKind.i64.wrap (8 - 1) = 7 := by decide
theorem fit_o {op : List Int} {k : Int} {b : Bool} (hk : k = 3 ∨ k = 6 ∨ k = 10) (hb : b = decide (op.length < 8)) : Sh (.tup [.own 0 zI ((op ++ [k]).map intR), .bool b]) (fitR (fitI op k) (fitB op k)) := by
  rw [(ft_o hk).2.1, (ft_o hk).2.2, ← hb]
  exact fitR_sh _ _
theorem fit_f {op : List Int} {k : Int} (hk : ¬ (k = 3 ∨ k = 6 ∨ k = 10)) (h : fitB op k = false) : Sh (.tup [.ro zI (op.map intR), .bool false]) (fitR (fitI op k) (fitB op k)) := by
  rw [fi_f h hk, h]
  exact Sh.refl _
theorem fit_t {op : List Int} {k : Int} (hk : k = 4 ∨ k = 8) (h : fitB op k = true) : Sh (.tup [.own 0 zI ((op.take (op.length - 1) ++ [k]).map intR), .bool true]) (fitR (fitI op k) (fitB op k)) := by
  rw [fitI_t h, h, ft_t hk]
  exact fitR_sh _ _
theorem fit_c {op : List Int} {k : Int} {n : Nat} (hk : k = 5 ∨ k = 7 ∨ k = 9 ∨ k = 11 ∨ k = 12) (h : fitB op k = true) (hn : n = op.length - 1) : Sh (.tup [.ro zI ((op.take n).map intR), .bool true]) (fitR (fitI op k) (fitB op k)) := by
  rw [fitI_t h, h, ft_c hk, hn]
  exact Sh.refl _
theorem c128 (op : List Int) (k : Int) (h7 : lastF op ≠ 7) (h2 : op.length ≤ 8) : Con Tryz.prog 128 [roI op, .int .i64 k] (undefs [roI op, .int .i64 k]) (fitR (fitI op k) (fitB op k)) := by
  have w1 : IntKind.i64.wrap ((op.length : Int) - 1) = (op.length : Int) - 1 := wrap64 (by omega) (by omega)
  by_cases hk : 3 ≤ k ∧ k ≤ 12
  · have : k = 3 ∨ k = 4 ∨ k = 5 ∨ k = 6 ∨ k = 7 ∨ k = 8 ∨ k = 9 ∨ k = 10 ∨ k = 11 ∨ k = 12 := by omega
    rcases this with rfl | rfl | rfl | rfl | rfl | rfl | rfl | rfl | rfl | rfl <;>
    (refine Con.ev 82 T_ok mix Tryz.func128 rfl rfl rfl rfl [.tmp 4, .tmp 5] rfl ?_
     conv => whnf
     (apply rq_s rfl;conv=>whnf)
     (refine br_s ?_ ?_ <;> intro hb <;> (try simp only [cln] at hb) <;> conv=>whnf)
     (apply rq_s (by simp only [Bool.and_eq_true, decide_eq_true_eq, List.length_map]; omega);conv=>whnf)
     (refine rq_s (by refine and_s rfl ?_; simp only [lnm]; omega) ?_;conv=>whnf)
     (refine row_s (by ((try simp only [Nat.zero_add, List.length_map]); exact row_last _ (by omega) (by omega))) ?_;conv=>whnf)
     first
       | ( iterate 2 (apply br_t rfl;conv=>whnf)
           iterate 2 (refine ChkS.mk (by kernel_rfl) ?_;conv=>whnf)
           (apply rq_s rfl;conv=>whnf)
           (apply rows_s rfl;conv=>whnf)
           (refine call_s (c193 _ (by first | omega | (dsimp only; omega) | (simp; omega))) ?_;conv=>whnf)
           iterate 2 (refine ChkS.mk (by kernel_rfl) ?_;conv=>whnf)
           (apply rq_s rfl;conv=>whnf)
           (refine ChkS.mk (by kernel_rfl) ?_;conv=>whnf)
           (apply rq_s (by simp only [lnm, mkS_len]; done);conv=>whnf)
           iterate 2 (apply rq_s rfl;conv=>whnf)
           (apply rq_s (by simp only [lnm, mkS_len]; done);conv=>whnf)
           (apply rq_s (by (((simp [maxBytes, subA]; omega))));conv=>whnf)
           (refine app0_s ?_;conv=>whnf)
           iterate 6 (refine ChkS.mk (by kernel_rfl) ?_;conv=>whnf)
           (apply rq_s (by simp only [lnm, mkS_len]; done);conv=>whnf)
           iterate 2 (apply rq_s rfl;conv=>whnf)
           (apply rows_s rfl;conv=>whnf)
           rotate_left
           iterate 2 (apply br_t rfl;conv=>whnf)
           iterate 2 (refine ChkS.mk (by kernel_rfl) ?_;conv=>whnf)
           (apply rq_s rfl;conv=>whnf)
           (apply rows_s rfl;conv=>whnf)
           (refine call_s (c193 _ (by first | omega | (dsimp only; omega) | (simp; omega))) ?_;conv=>whnf)
           iterate 2 (refine ChkS.mk (by kernel_rfl) ?_;conv=>whnf)
           (apply rq_s rfl;conv=>whnf)
           (refine ChkS.mk (by kernel_rfl) ?_;conv=>whnf)
           (apply rq_s (by simp only [lnm, mkS_len]; done);conv=>whnf)
           iterate 2 (apply rq_s rfl;conv=>whnf)
           (apply rq_s (by simp only [lnm, mkS_len]; done);conv=>whnf)
           (apply rq_s (by (((simp [maxBytes, subA]; omega))));conv=>whnf)
           (refine app0_s ?_;conv=>whnf)
           iterate 6 (refine ChkS.mk (by kernel_rfl) ?_;conv=>whnf)
           (apply rq_s (by simp only [lnm, mkS_len]; done);conv=>whnf)
           iterate 2 (apply rq_s rfl;conv=>whnf)
           (apply rows_s rfl;conv=>whnf)
           rotate_left)
       | ( iterate 3 (apply br_f rfl;conv=>whnf)
           iterate 2 (apply br_t rfl;conv=>whnf)
           (refine br_s ?_ ?_ <;> intro hb <;> (try simp only [cln] at hb) <;> conv=>whnf)
           iterate 2 (apply br_t rfl;conv=>whnf)
           iterate 2 (apply br_f rfl;conv=>whnf)
           (apply br_t rfl;conv=>whnf)
           (apply br_f rfl;conv=>whnf)
           iterate 2 (apply br_t rfl;conv=>whnf)
           iterate 2 (apply rq_s rfl;conv=>whnf)
           (apply rows_s rfl;conv=>whnf)
           rotate_left
           iterate 6 (apply br_f rfl;conv=>whnf)
           (refine handp_s 192 [none, none] ?_;conv=>whnf)
           iterate 3 (apply rq_s rfl;conv=>whnf)
           (focus (apply callpe_s (f := 192); (· repeat' (first | (refine sub_all ?_; simp [List.length_map, mkS_len]; done) | exact sub_map _ _ _ _ | apply cons_eq | apply obj_eq | apply agg_eq | apply own_eq | apply ro_eq | apply rp_eq | apply fnc_eq | rfl)); refine callp_s (f := 192) rfl (c192 _ _ (by first | omega | (dsimp only; omega) | (simp; omega)) (by first | omega | (dsimp only; omega) | (simp; omega))) ?_;conv=>whnf))
           (refine fac_s (fun hf => ?_);conv=>whnf)
           (apply rq_s (by simp only [lnm, mkS_len]; done);conv=>whnf)
           iterate 2 (apply rq_s rfl;conv=>whnf)
           (refine rows_s (by ((refine sub_all ?_; simp [List.length_map, mkS_len]; done))) ?_;conv=>whnf)
           rotate_left
           iterate 3 (apply br_f rfl;conv=>whnf)
           iterate 5 (apply br_t rfl;conv=>whnf)
           iterate 2 (apply br_f rfl;conv=>whnf)
           (apply br_t rfl;conv=>whnf)
           (apply br_f rfl;conv=>whnf)
           iterate 2 (apply br_t rfl;conv=>whnf)
           iterate 2 (apply rq_s rfl;conv=>whnf)
           (apply rows_s rfl;conv=>whnf)
           rotate_left)
       | ( iterate 5 (apply br_f rfl;conv=>whnf)
           (apply br_t rfl;conv=>whnf)
           (refine br_s ?_ ?_ <;> intro hb <;> (try simp only [cln] at hb) <;> conv=>whnf)
           (apply br_t rfl;conv=>whnf)
           (refine br_s ?_ ?_ <;> intro hb <;> (try simp only [cln] at hb) <;> conv=>whnf)
           iterate 2 (apply rq_s rfl;conv=>whnf)
           (apply rows_s rfl;conv=>whnf)
           rotate_left
           (apply rq_s (by simp only [Bool.and_eq_true, decide_eq_true_eq, List.length_map]; omega);conv=>whnf)
           (refine rq_s (by refine and_s rfl ?_; simp only [lnm]; omega) ?_;conv=>whnf)
           iterate 3 (apply rq_s rfl;conv=>whnf)
           (apply rows_s (by (exact sub_map _ _ _ _));conv=>whnf)
           rotate_left
           iterate 3 (apply br_f rfl;conv=>whnf)
           (apply rq_s (by simp only [Bool.and_eq_true, decide_eq_true_eq, List.length_map]; omega);conv=>whnf)
           (refine rq_s (by refine and_s rfl ?_; simp only [lnm]; omega) ?_;conv=>whnf)
           iterate 3 (apply rq_s rfl;conv=>whnf)
           (apply rows_s (by (exact sub_map _ _ _ _));conv=>whnf)
           rotate_left
           iterate 5 (apply br_f rfl;conv=>whnf)
           iterate 4 (apply br_t rfl;conv=>whnf)
           iterate 2 (apply rq_s rfl;conv=>whnf)
           (apply rows_s rfl;conv=>whnf)
           rotate_left)
       | ( (apply br_f rfl;conv=>whnf)
           iterate 2 (apply br_t rfl;conv=>whnf)
           iterate 2 (refine ChkS.mk (by kernel_rfl) ?_;conv=>whnf)
           (apply rq_s rfl;conv=>whnf)
           (apply rows_s rfl;conv=>whnf)
           (refine call_s (c193 _ (by first | omega | (dsimp only; omega) | (simp; omega))) ?_;conv=>whnf)
           iterate 2 (refine ChkS.mk (by kernel_rfl) ?_;conv=>whnf)
           (apply rq_s rfl;conv=>whnf)
           (refine ChkS.mk (by kernel_rfl) ?_;conv=>whnf)
           (apply rq_s (by simp only [lnm, mkS_len]; done);conv=>whnf)
           iterate 2 (apply rq_s rfl;conv=>whnf)
           (apply rq_s (by simp only [lnm, mkS_len]; done);conv=>whnf)
           (apply rq_s (by (((simp [maxBytes, subA]; omega))));conv=>whnf)
           (refine app0_s ?_;conv=>whnf)
           iterate 6 (refine ChkS.mk (by kernel_rfl) ?_;conv=>whnf)
           (apply rq_s (by simp only [lnm, mkS_len]; done);conv=>whnf)
           iterate 2 (apply rq_s rfl;conv=>whnf)
           (apply rows_s rfl;conv=>whnf)
           rotate_left
           (apply br_f rfl;conv=>whnf)
           iterate 2 (apply br_t rfl;conv=>whnf)
           iterate 2 (refine ChkS.mk (by kernel_rfl) ?_;conv=>whnf)
           (apply rq_s rfl;conv=>whnf)
           (apply rows_s rfl;conv=>whnf)
           (refine call_s (c193 _ (by first | omega | (dsimp only; omega) | (simp; omega))) ?_;conv=>whnf)
           iterate 2 (refine ChkS.mk (by kernel_rfl) ?_;conv=>whnf)
           (apply rq_s rfl;conv=>whnf)
           (refine ChkS.mk (by kernel_rfl) ?_;conv=>whnf)
           (apply rq_s (by simp only [lnm, mkS_len]; done);conv=>whnf)
           iterate 2 (apply rq_s rfl;conv=>whnf)
           (apply rq_s (by simp only [lnm, mkS_len]; done);conv=>whnf)
           (apply rq_s (by (((simp [maxBytes, subA]; omega))));conv=>whnf)
           (refine app0_s ?_;conv=>whnf)
           iterate 6 (refine ChkS.mk (by kernel_rfl) ?_;conv=>whnf)
           (apply rq_s (by simp only [lnm, mkS_len]; done);conv=>whnf)
           iterate 2 (apply rq_s rfl;conv=>whnf)
           (apply rows_s rfl;conv=>whnf)
           rotate_left)
       | ( iterate 6 (apply br_f rfl;conv=>whnf)
           (apply br_t rfl;conv=>whnf)
           (refine br_s ?_ ?_ <;> intro hb <;> (try simp only [cln] at hb) <;> conv=>whnf)
           iterate 2 (apply rq_s rfl;conv=>whnf)
           (apply rows_s rfl;conv=>whnf)
           rotate_left
           (apply rq_s (by simp only [Bool.and_eq_true, decide_eq_true_eq, List.length_map]; omega);conv=>whnf)
           (refine rq_s (by refine and_s rfl ?_; simp only [lnm]; omega) ?_;conv=>whnf)
           iterate 3 (apply rq_s rfl;conv=>whnf)
           (apply rows_s (by (exact sub_map _ _ _ _));conv=>whnf)
           rotate_left
           iterate 6 (apply br_f rfl;conv=>whnf)
           iterate 2 (apply br_t rfl;conv=>whnf)
           iterate 2 (apply rq_s rfl;conv=>whnf)
           (apply rows_s rfl;conv=>whnf)
           rotate_left)
       | ( iterate 4 (apply br_f rfl;conv=>whnf)
           (apply br_t rfl;conv=>whnf)
           (refine br_s ?_ ?_ <;> intro hb <;> (try simp only [cln] at hb) <;> conv=>whnf)
           iterate 6 (apply br_t rfl;conv=>whnf)
           (refine br_s ?_ ?_ <;> intro hb <;> (try simp only [cln] at hb) <;> conv=>whnf)
           iterate 2 (apply rq_s rfl;conv=>whnf)
           (apply rows_s rfl;conv=>whnf)
           rotate_left
           (refine handp_s 192 [none, none] ?_;conv=>whnf)
           iterate 3 (apply rq_s rfl;conv=>whnf)
           (focus (apply callpe_s (f := 192); (· repeat' (first | (refine sub_all ?_; simp [List.length_map, mkS_len]; done) | exact sub_map _ _ _ _ | apply cons_eq | apply obj_eq | apply agg_eq | apply own_eq | apply ro_eq | apply rp_eq | apply fnc_eq | rfl)); refine callp_s (f := 192) rfl (c192 _ _ (by first | omega | (dsimp only; omega) | (simp; omega)) (by first | omega | (dsimp only; omega) | (simp; omega))) ?_;conv=>whnf))
           (refine fac_s (fun hf => ?_);conv=>whnf)
           (apply rq_s (by simp only [lnm, mkS_len]; done);conv=>whnf)
           iterate 2 (apply rq_s rfl;conv=>whnf)
           (refine rows_s (by ((refine sub_all ?_; simp [List.length_map, mkS_len]; done))) ?_;conv=>whnf)
           rotate_left
           iterate 6 (apply br_f rfl;conv=>whnf)
           (refine handp_s 192 [none, none] ?_;conv=>whnf)
           iterate 3 (apply rq_s rfl;conv=>whnf)
           (focus (apply callpe_s (f := 192); (· repeat' (first | (refine sub_all ?_; simp [List.length_map, mkS_len]; done) | exact sub_map _ _ _ _ | apply cons_eq | apply obj_eq | apply agg_eq | apply own_eq | apply ro_eq | apply rp_eq | apply fnc_eq | rfl)); refine callp_s (f := 192) rfl (c192 _ _ (by first | omega | (dsimp only; omega) | (simp; omega)) (by first | omega | (dsimp only; omega) | (simp; omega))) ?_;conv=>whnf))
           (refine fac_s (fun hf => ?_);conv=>whnf)
           (apply rq_s (by simp only [lnm, mkS_len]; done);conv=>whnf)
           iterate 2 (apply rq_s rfl;conv=>whnf)
           (refine rows_s (by ((refine sub_all ?_; simp [List.length_map, mkS_len]; done))) ?_;conv=>whnf)
           rotate_left
           iterate 4 (apply br_f rfl;conv=>whnf)
           iterate 9 (apply br_t rfl;conv=>whnf)
           iterate 2 (apply rq_s rfl;conv=>whnf)
           (apply rows_s rfl;conv=>whnf)
           rotate_left)
       | ( iterate 7 (apply br_f rfl;conv=>whnf)
           (apply br_t rfl;conv=>whnf)
           (refine br_s ?_ ?_ <;> intro hb <;> (try simp only [cln] at hb) <;> conv=>whnf)
           iterate 2 (apply rq_s rfl;conv=>whnf)
           (apply rows_s rfl;conv=>whnf)
           rotate_left
           (apply rq_s (by simp only [Bool.and_eq_true, decide_eq_true_eq, List.length_map]; omega);conv=>whnf)
           (refine rq_s (by refine and_s rfl ?_; simp only [lnm]; omega) ?_;conv=>whnf)
           iterate 3 (apply rq_s rfl;conv=>whnf)
           (apply rows_s (by (exact sub_map _ _ _ _));conv=>whnf)
           rotate_left
           iterate 7 (apply br_f rfl;conv=>whnf)
           iterate 2 (apply br_t rfl;conv=>whnf)
           iterate 2 (apply rq_s rfl;conv=>whnf)
           (apply rows_s rfl;conv=>whnf)
           rotate_left)
       | ( iterate 2 (apply br_f rfl;conv=>whnf)
           (apply br_t rfl;conv=>whnf)
           iterate 2 (refine ChkS.mk (by kernel_rfl) ?_;conv=>whnf)
           (apply rq_s rfl;conv=>whnf)
           (apply rows_s rfl;conv=>whnf)
           (refine call_s (c193 _ (by first | omega | (dsimp only; omega) | (simp; omega))) ?_;conv=>whnf)
           iterate 2 (refine ChkS.mk (by kernel_rfl) ?_;conv=>whnf)
           (apply rq_s rfl;conv=>whnf)
           (refine ChkS.mk (by kernel_rfl) ?_;conv=>whnf)
           (apply rq_s (by simp only [lnm, mkS_len]; done);conv=>whnf)
           iterate 2 (apply rq_s rfl;conv=>whnf)
           (apply rq_s (by simp only [lnm, mkS_len]; done);conv=>whnf)
           (apply rq_s (by (((simp [maxBytes, subA]; omega))));conv=>whnf)
           (refine app0_s ?_;conv=>whnf)
           iterate 6 (refine ChkS.mk (by kernel_rfl) ?_;conv=>whnf)
           (apply rq_s (by simp only [lnm, mkS_len]; done);conv=>whnf)
           iterate 2 (apply rq_s rfl;conv=>whnf)
           (apply rows_s rfl;conv=>whnf)
           rotate_left
           iterate 2 (apply br_f rfl;conv=>whnf)
           (apply br_t rfl;conv=>whnf)
           iterate 2 (refine ChkS.mk (by kernel_rfl) ?_;conv=>whnf)
           (apply rq_s rfl;conv=>whnf)
           (apply rows_s rfl;conv=>whnf)
           (refine call_s (c193 _ (by first | omega | (dsimp only; omega) | (simp; omega))) ?_;conv=>whnf)
           iterate 2 (refine ChkS.mk (by kernel_rfl) ?_;conv=>whnf)
           (apply rq_s rfl;conv=>whnf)
           (refine ChkS.mk (by kernel_rfl) ?_;conv=>whnf)
           (apply rq_s (by simp only [lnm, mkS_len]; done);conv=>whnf)
           iterate 2 (apply rq_s rfl;conv=>whnf)
           (apply rq_s (by simp only [lnm, mkS_len]; done);conv=>whnf)
           (apply rq_s (by (((simp [maxBytes, subA]; omega))));conv=>whnf)
           (refine app0_s ?_;conv=>whnf)
           iterate 6 (refine ChkS.mk (by kernel_rfl) ?_;conv=>whnf)
           (apply rq_s (by simp only [lnm, mkS_len]; done);conv=>whnf)
           iterate 2 (apply rq_s rfl;conv=>whnf)
           (apply rows_s rfl;conv=>whnf)
           rotate_left)
       | ( iterate 8 (apply br_f rfl;conv=>whnf)
           iterate 2 (apply br_t rfl;conv=>whnf)
           (refine br_s ?_ ?_ <;> intro hb <;> (try simp only [cln] at hb) <;> conv=>whnf)
           iterate 2 (apply rq_s rfl;conv=>whnf)
           (apply rows_s rfl;conv=>whnf)
           rotate_left
           (apply rq_s (by simp only [Bool.and_eq_true, decide_eq_true_eq, List.length_map]; omega);conv=>whnf)
           (refine rq_s (by refine and_s rfl ?_; simp only [lnm]; omega) ?_;conv=>whnf)
           iterate 3 (apply rq_s rfl;conv=>whnf)
           (apply rows_s (by (exact sub_map _ _ _ _));conv=>whnf)
           rotate_left
           iterate 8 (apply br_f rfl;conv=>whnf)
           iterate 3 (apply br_t rfl;conv=>whnf)
           iterate 2 (apply rq_s rfl;conv=>whnf)
           (apply rows_s rfl;conv=>whnf)
           rotate_left)
       | ( iterate 9 (apply br_f rfl;conv=>whnf)
           (apply br_t rfl;conv=>whnf)
           (refine br_s ?_ ?_ <;> intro hb <;> (try simp only [cln] at hb) <;> conv=>whnf)
           iterate 2 (apply rq_s rfl;conv=>whnf)
           (apply rows_s rfl;conv=>whnf)
           rotate_left
           (apply rq_s (by simp only [Bool.and_eq_true, decide_eq_true_eq, List.length_map]; omega);conv=>whnf)
           (refine rq_s (by refine and_s rfl ?_; simp only [lnm]; omega) ?_;conv=>whnf)
           iterate 3 (apply rq_s rfl;conv=>whnf)
           (apply rows_s (by (exact sub_map _ _ _ _));conv=>whnf)
           rotate_left
           iterate 9 (apply br_f rfl;conv=>whnf)
           iterate 2 (apply br_t rfl;conv=>whnf)
           iterate 2 (apply rq_s rfl;conv=>whnf)
           (apply rows_s rfl;conv=>whnf)
           rotate_left)
     all_goals (first
       | (exfalso; have := w81; omega)
       | exact ⟨fit_c (op := op) (by omega) (by simp only [fb5, fb7, fb9, fb11, fb12, Bool.or_eq_true, decide_eq_true_eq]; omega) (by simp only [List.length_map]; omega)⟩
       | exact ⟨fit_f (by omega) (by have z := w41; have z2 := w81; have hz : op.length = 0 → lastF op = 0 := (fun e => by rw [List.length_eq_zero_iff.1 e]; rfl); simp only [fb4, fb8, fb5, fb7, fb9, fb11, fb12, Bool.or_eq_false_iff, decide_eq_false_iff_not]; omega)⟩
       | exact ⟨fit_t (by omega) (by have z := w41; have z2 := w81; simp only [fb4, fb8, decide_eq_true_eq]; omega)⟩
       | exact ⟨by rw [show subA _ _ _ = _ from sub3 op _]; exact fit_o (by omega) (by simp; omega)⟩))
  · rw [(ft_n hk).2.1, (ft_n hk).2.2]
    exact fit0 op k h7 h2 hk
end I2

/- What is open behind items: the loops; contracts. -/
set_option linter.unusedVariables false
set_option linter.unusedSimpArgs false
set_option maxRecDepth 100000
open Go Go.Abs Go.Proofs V1 H1 I1 I2
namespace I3

theorem stepO {l : List Int} {b b' : Bool} {lvl : Nat} {rows : List (List AV)} (hl : lvl ≤ 1) (h1 : rows = l.map intR) (h2 : b = b') : Sh (.tup [.own lvl zI rows, .bool b]) (fitR l b') := by
  rw [h1, h2]; exact Sh.tup ⟨Sh.own_ro hl _ _, Sh.refl _, trivial⟩
theorem stepR {l : List Int} {b b' : Bool} {rows : List (List AV)} (h1 : rows = l.map intR) (h2 : b = b') : Sh (.tup [.ro zI rows, .bool b]) (fitR l b') := by
  rw [h1, h2]; exact Sh.refl _
theorem c188 (op : List Int) (k : Int) (h2 : op.length ≤ 8) : Con Tryz.prog 188 [roI op, .int .i64 k] (undefs [roI op, .int .i64 k]) (fitR (fitL op k) (fitB op k)) := by
  have w1 : IntKind.i64.wrap ((op.length : Int) - 1) = (op.length : Int) - 1 := wrap64 (by omega) (by omega)
  have w3 : (if 0 > IntKind.i64.wrap ((op.length : Int) - 1) then 0 else IntKind.i64.wrap ((op.length : Int) - 1)).toNat = op.length - 1 := by rw [w1]; split <;> omega
  have z0 : op.length = 0 → lastF op = 0 := fun e => by rw [List.length_eq_zero_iff.1 e]; rfl
  by_cases hk : 3 ≤ k ∧ k ≤ 12
  · have : k = 3 ∨ k = 4 ∨ k = 5 ∨ k = 6 ∨ k = 7 ∨ k = 8 ∨ k = 9 ∨ k = 10 ∨ k = 11 ∨ k = 12 := by omega
    rcases this with rfl | rfl | rfl | rfl | rfl | rfl | rfl | rfl | rfl | rfl <;>
    (refine Con.ev 100 T_ok mix Tryz.func188 rfl rfl rfl rfl [.tmp 4, .tmp 5] rfl ?_
     conv => whnf
     (refine br_s ?_ ?_ <;> intro hb <;> (try simp only [cln] at hb) <;> conv=>whnf)
     (apply rq_s (by simp only [Bool.and_eq_true, decide_eq_true_eq, List.length_map]; omega);conv=>whnf)
     (refine rq_s (by refine and_s rfl ?_; simp only [lnm]; omega) ?_;conv=>whnf)
     (refine row_s (by ((try simp only [Nat.zero_add, List.length_map]); exact row_last _ (by omega) (by omega))) ?_;conv=>whnf)
     first
       | ( iterate 2 (apply br_t rfl;conv=>whnf)
           iterate 3 (apply rq_s rfl;conv=>whnf)
           (apply rq_s (by (((simp [maxBytes, subA]; omega))));conv=>whnf)
           (refine app0_s ?_;conv=>whnf)
           (apply rq_s rfl;conv=>whnf)
           (apply rq_s (by simp only [lnm, mkS_len]; done);conv=>whnf)
           iterate 2 (apply rq_s rfl;conv=>whnf)
           (apply rq_s (by simp only [lnm, mkS_len]; done);conv=>whnf)
           (apply rq_s (by (((simp [maxBytes, subA]; omega))));conv=>whnf)
           (refine app0_s ?_;conv=>whnf)
           (apply rq_s (by simp only [lnm, mkS_len]; done);conv=>whnf)
           iterate 2 (apply rq_s rfl;conv=>whnf)
           (apply rows_s rfl;conv=>whnf)
           rotate_left
           iterate 2 (apply br_t rfl;conv=>whnf)
           iterate 3 (apply rq_s rfl;conv=>whnf)
           (apply rq_s (by simp only [Bool.and_eq_true, decide_eq_true_eq, List.length_map]; omega);conv=>whnf)
           (refine app0_s ?_;conv=>whnf)
           (apply rq_s rfl;conv=>whnf)
           (apply rq_s (by simp only [lnm, mkS_len]; done);conv=>whnf)
           iterate 2 (apply rq_s rfl;conv=>whnf)
           (apply rq_s (by simp only [lnm, mkS_len]; done);conv=>whnf)
           (apply rq_s (by (((simp [maxBytes, subA]; omega))));conv=>whnf)
           (refine app0_s ?_;conv=>whnf)
           (apply rq_s (by simp only [lnm, mkS_len]; done);conv=>whnf)
           iterate 2 (apply rq_s rfl;conv=>whnf)
           (apply rows_s rfl;conv=>whnf)
           rotate_left)
       | ( iterate 3 (apply br_f rfl;conv=>whnf)
           (apply br_t rfl;conv=>whnf)
           (apply rq_s rfl;conv=>whnf)
           (apply rq_s (by simp only [Bool.and_eq_true, decide_eq_true_eq, List.length_map]; omega);conv=>whnf)
           (refine rq_s (by refine and_s rfl ?_; simp only [lnm]; omega) ?_;conv=>whnf)
           iterate 3 (apply rq_s rfl;conv=>whnf)
           (apply rq_s (by (((simp [maxBytes, subA]; omega))));conv=>whnf)
           (refine app0_s ?_;conv=>whnf)
           (apply rq_s rfl;conv=>whnf)
           (apply rq_s (by simp only [lnm, mkS_len]; done);conv=>whnf)
           iterate 2 (apply rq_s rfl;conv=>whnf)
           (apply rq_s (by simp only [lnm, mkS_len]; done);conv=>whnf)
           (apply rq_s (by (((simp [maxBytes, subA]; omega))));conv=>whnf)
           (refine app0_s ?_;conv=>whnf)
           (apply rq_s (by simp only [lnm, mkS_len]; done);conv=>whnf)
           iterate 2 (apply rq_s rfl;conv=>whnf)
           (apply rows_s rfl;conv=>whnf)
           rotate_left
           iterate 3 (apply br_f rfl;conv=>whnf)
           (apply br_t rfl;conv=>whnf)
           (apply rq_s rfl;conv=>whnf)
           (apply rq_s (by simp only [Bool.and_eq_true, decide_eq_true_eq, List.length_map]; omega);conv=>whnf)
           (refine rq_s (by refine and_s rfl ?_; simp only [lnm]; omega) ?_;conv=>whnf)
           iterate 3 (apply rq_s rfl;conv=>whnf)
           (apply rq_s (by (((simp [maxBytes, subA]; omega))));conv=>whnf)
           (refine app0_s ?_;conv=>whnf)
           (apply rq_s rfl;conv=>whnf)
           (apply rq_s (by simp only [lnm, mkS_len]; done);conv=>whnf)
           iterate 2 (apply rq_s rfl;conv=>whnf)
           (apply rq_s (by simp only [lnm, mkS_len]; done);conv=>whnf)
           (apply rq_s (by (((simp [maxBytes, subA]; omega))));conv=>whnf)
           (refine app0_s ?_;conv=>whnf)
           (apply rq_s (by simp only [lnm, mkS_len]; done);conv=>whnf)
           iterate 2 (apply rq_s rfl;conv=>whnf)
           (apply rows_s rfl;conv=>whnf)
           rotate_left)
       | ( iterate 5 (apply br_f rfl;conv=>whnf)
           (apply br_t rfl;conv=>whnf)
           (apply rq_s (by simp only [Bool.and_eq_true, decide_eq_true_eq, List.length_map]; omega);conv=>whnf)
           (refine rq_s (by refine and_s rfl ?_; simp only [lnm]; omega) ?_;conv=>whnf)
           (apply rq_s rfl;conv=>whnf)
           (refine br_s ?_ ?_ <;> intro hb <;> (try simp only [cln] at hb) <;> conv=>whnf)
           iterate 2 (apply br_t rfl;conv=>whnf)
           iterate 2 (apply rq_s rfl;conv=>whnf)
           (apply rows_s (by (exact sub_map _ _ _ _));conv=>whnf)
           rotate_left
           (apply br_f rfl;conv=>whnf)
           iterate 2 (apply rq_s rfl;conv=>whnf)
           (apply rows_s (by (exact sub_map _ _ _ _));conv=>whnf)
           rotate_left
           iterate 5 (apply br_f rfl;conv=>whnf)
           (apply br_t rfl;conv=>whnf)
           (apply rq_s (by simp only [Bool.and_eq_true, decide_eq_true_eq, List.length_map]; omega);conv=>whnf)
           (refine rq_s (by refine and_s rfl ?_; simp only [lnm]; omega) ?_;conv=>whnf)
           (apply rq_s rfl;conv=>whnf)
           iterate 2 (apply br_f rfl;conv=>whnf)
           iterate 2 (apply rq_s rfl;conv=>whnf)
           (apply rows_s (by (exact sub_map _ _ _ _));conv=>whnf)
           rotate_left)
       | ( (apply br_f rfl;conv=>whnf)
           iterate 2 (apply br_t rfl;conv=>whnf)
           iterate 3 (apply rq_s rfl;conv=>whnf)
           (apply rq_s (by (((simp [maxBytes, subA]; omega))));conv=>whnf)
           (refine app0_s ?_;conv=>whnf)
           (apply rq_s rfl;conv=>whnf)
           (apply rq_s (by simp only [lnm, mkS_len]; done);conv=>whnf)
           iterate 2 (apply rq_s rfl;conv=>whnf)
           (apply rq_s (by simp only [lnm, mkS_len]; done);conv=>whnf)
           (apply rq_s (by (((simp [maxBytes, subA]; omega))));conv=>whnf)
           (refine app0_s ?_;conv=>whnf)
           (apply rq_s (by simp only [lnm, mkS_len]; done);conv=>whnf)
           iterate 2 (apply rq_s rfl;conv=>whnf)
           (apply rows_s rfl;conv=>whnf)
           rotate_left
           (apply br_f rfl;conv=>whnf)
           iterate 2 (apply br_t rfl;conv=>whnf)
           iterate 3 (apply rq_s rfl;conv=>whnf)
           (apply rq_s (by simp only [Bool.and_eq_true, decide_eq_true_eq, List.length_map]; omega);conv=>whnf)
           (refine app0_s ?_;conv=>whnf)
           (apply rq_s rfl;conv=>whnf)
           (apply rq_s (by simp only [lnm, mkS_len]; done);conv=>whnf)
           iterate 2 (apply rq_s rfl;conv=>whnf)
           (apply rq_s (by simp only [lnm, mkS_len]; done);conv=>whnf)
           (apply rq_s (by (((simp [maxBytes, subA]; omega))));conv=>whnf)
           (refine app0_s ?_;conv=>whnf)
           (apply rq_s (by simp only [lnm, mkS_len]; done);conv=>whnf)
           iterate 2 (apply rq_s rfl;conv=>whnf)
           (apply rows_s rfl;conv=>whnf)
           rotate_left)
       | ( iterate 6 (apply br_f rfl;conv=>whnf)
           (apply br_t rfl;conv=>whnf)
           (apply rq_s (by simp only [Bool.and_eq_true, decide_eq_true_eq, List.length_map]; omega);conv=>whnf)
           (refine rq_s (by refine and_s rfl ?_; simp only [lnm]; omega) ?_;conv=>whnf)
           iterate 3 (apply rq_s rfl;conv=>whnf)
           (apply rows_s (by (exact sub_map _ _ _ _));conv=>whnf)
           rotate_left
           iterate 6 (apply br_f rfl;conv=>whnf)
           (apply br_t rfl;conv=>whnf)
           (apply rq_s (by simp only [Bool.and_eq_true, decide_eq_true_eq, List.length_map]; omega);conv=>whnf)
           (refine rq_s (by refine and_s rfl ?_; simp only [lnm]; omega) ?_;conv=>whnf)
           iterate 3 (apply rq_s rfl;conv=>whnf)
           (apply rows_s (by (exact sub_map _ _ _ _));conv=>whnf)
           rotate_left)
       | ( iterate 4 (apply br_f rfl;conv=>whnf)
           (apply br_t rfl;conv=>whnf)
           (apply rq_s rfl;conv=>whnf)
           (apply rq_s (by simp only [Bool.and_eq_true, decide_eq_true_eq, List.length_map]; omega);conv=>whnf)
           (refine rq_s (by refine and_s rfl ?_; simp only [lnm]; omega) ?_;conv=>whnf)
           iterate 3 (apply rq_s rfl;conv=>whnf)
           (apply rq_s (by (((simp [maxBytes, subA]; omega))));conv=>whnf)
           (refine app0_s ?_;conv=>whnf)
           (apply rq_s rfl;conv=>whnf)
           (apply rq_s (by simp only [lnm, mkS_len]; done);conv=>whnf)
           iterate 2 (apply rq_s rfl;conv=>whnf)
           (apply rq_s (by simp only [lnm, mkS_len]; done);conv=>whnf)
           (apply rq_s (by (((simp [maxBytes, subA]; omega))));conv=>whnf)
           (refine app0_s ?_;conv=>whnf)
           (apply rq_s (by simp only [lnm, mkS_len]; done);conv=>whnf)
           iterate 2 (apply rq_s rfl;conv=>whnf)
           (apply rows_s rfl;conv=>whnf)
           rotate_left
           iterate 4 (apply br_f rfl;conv=>whnf)
           (apply br_t rfl;conv=>whnf)
           (apply rq_s rfl;conv=>whnf)
           (apply rq_s (by simp only [Bool.and_eq_true, decide_eq_true_eq, List.length_map]; omega);conv=>whnf)
           (refine rq_s (by refine and_s rfl ?_; simp only [lnm]; omega) ?_;conv=>whnf)
           iterate 3 (apply rq_s rfl;conv=>whnf)
           (apply rq_s (by (((simp [maxBytes, subA]; omega))));conv=>whnf)
           (refine app0_s ?_;conv=>whnf)
           (apply rq_s rfl;conv=>whnf)
           (apply rq_s (by simp only [lnm, mkS_len]; done);conv=>whnf)
           iterate 2 (apply rq_s rfl;conv=>whnf)
           (apply rq_s (by simp only [lnm, mkS_len]; done);conv=>whnf)
           (apply rq_s (by (((simp [maxBytes, subA]; omega))));conv=>whnf)
           (refine app0_s ?_;conv=>whnf)
           (apply rq_s (by simp only [lnm, mkS_len]; done);conv=>whnf)
           iterate 2 (apply rq_s rfl;conv=>whnf)
           (apply rows_s rfl;conv=>whnf)
           rotate_left)
       | ( iterate 7 (apply br_f rfl;conv=>whnf)
           (apply br_t rfl;conv=>whnf)
           (apply rq_s (by simp only [Bool.and_eq_true, decide_eq_true_eq, List.length_map]; omega);conv=>whnf)
           (refine rq_s (by refine and_s rfl ?_; simp only [lnm]; omega) ?_;conv=>whnf)
           iterate 3 (apply rq_s rfl;conv=>whnf)
           (apply rows_s (by (exact sub_map _ _ _ _));conv=>whnf)
           rotate_left
           iterate 7 (apply br_f rfl;conv=>whnf)
           (apply br_t rfl;conv=>whnf)
           (apply rq_s (by simp only [Bool.and_eq_true, decide_eq_true_eq, List.length_map]; omega);conv=>whnf)
           (refine rq_s (by refine and_s rfl ?_; simp only [lnm]; omega) ?_;conv=>whnf)
           iterate 3 (apply rq_s rfl;conv=>whnf)
           (apply rows_s (by (exact sub_map _ _ _ _));conv=>whnf)
           rotate_left)
       | ( iterate 2 (apply br_f rfl;conv=>whnf)
           (apply br_t rfl;conv=>whnf)
           iterate 3 (apply rq_s rfl;conv=>whnf)
           (apply rq_s (by (((simp [maxBytes, subA]; omega))));conv=>whnf)
           (refine app0_s ?_;conv=>whnf)
           (apply rq_s rfl;conv=>whnf)
           (apply rq_s (by simp only [lnm, mkS_len]; done);conv=>whnf)
           iterate 2 (apply rq_s rfl;conv=>whnf)
           (apply rq_s (by simp only [lnm, mkS_len]; done);conv=>whnf)
           (apply rq_s (by (((simp [maxBytes, subA]; omega))));conv=>whnf)
           (refine app0_s ?_;conv=>whnf)
           (apply rq_s (by simp only [lnm, mkS_len]; done);conv=>whnf)
           iterate 2 (apply rq_s rfl;conv=>whnf)
           (apply rows_s rfl;conv=>whnf)
           rotate_left
           iterate 2 (apply br_f rfl;conv=>whnf)
           (apply br_t rfl;conv=>whnf)
           iterate 3 (apply rq_s rfl;conv=>whnf)
           (apply rq_s (by simp only [Bool.and_eq_true, decide_eq_true_eq, List.length_map]; omega);conv=>whnf)
           (refine app0_s ?_;conv=>whnf)
           (apply rq_s rfl;conv=>whnf)
           (apply rq_s (by simp only [lnm, mkS_len]; done);conv=>whnf)
           iterate 2 (apply rq_s rfl;conv=>whnf)
           (apply rq_s (by simp only [lnm, mkS_len]; done);conv=>whnf)
           (apply rq_s (by (((simp [maxBytes, subA]; omega))));conv=>whnf)
           (refine app0_s ?_;conv=>whnf)
           (apply rq_s (by simp only [lnm, mkS_len]; done);conv=>whnf)
           iterate 2 (apply rq_s rfl;conv=>whnf)
           (apply rows_s rfl;conv=>whnf)
           rotate_left)
       | ( iterate 8 (apply br_f rfl;conv=>whnf)
           iterate 2 (apply br_t rfl;conv=>whnf)
           (apply rq_s (by simp only [Bool.and_eq_true, decide_eq_true_eq, List.length_map]; omega);conv=>whnf)
           (refine rq_s (by refine and_s rfl ?_; simp only [lnm]; omega) ?_;conv=>whnf)
           iterate 3 (apply rq_s rfl;conv=>whnf)
           (apply rows_s (by (exact sub_map _ _ _ _));conv=>whnf)
           rotate_left
           iterate 8 (apply br_f rfl;conv=>whnf)
           iterate 2 (apply br_t rfl;conv=>whnf)
           (apply rq_s (by simp only [Bool.and_eq_true, decide_eq_true_eq, List.length_map]; omega);conv=>whnf)
           (refine rq_s (by refine and_s rfl ?_; simp only [lnm]; omega) ?_;conv=>whnf)
           iterate 3 (apply rq_s rfl;conv=>whnf)
           (apply rows_s (by (exact sub_map _ _ _ _));conv=>whnf)
           rotate_left)
       | ( iterate 9 (apply br_f rfl;conv=>whnf)
           (apply br_t rfl;conv=>whnf)
           (apply rq_s (by simp only [Bool.and_eq_true, decide_eq_true_eq, List.length_map]; omega);conv=>whnf)
           (refine rq_s (by refine and_s rfl ?_; simp only [lnm]; omega) ?_;conv=>whnf)
           iterate 3 (apply rq_s rfl;conv=>whnf)
           (apply rows_s (by (exact sub_map _ _ _ _));conv=>whnf)
           rotate_left
           iterate 9 (apply br_f rfl;conv=>whnf)
           (apply br_t rfl;conv=>whnf)
           (apply rq_s (by simp only [Bool.and_eq_true, decide_eq_true_eq, List.length_map]; omega);conv=>whnf)
           (refine rq_s (by refine and_s rfl ?_; simp only [lnm]; omega) ?_;conv=>whnf)
           iterate 3 (apply rq_s rfl;conv=>whnf)
           (apply rows_s (by (exact sub_map _ _ _ _));conv=>whnf)
           rotate_left)
     all_goals (first
       | refine ⟨stepO (by omega) ?_ ?_⟩
       | refine ⟨stepR ?_ ?_⟩)
     all_goals (first
       | (first | rw [(ft_o (by omega)).1] | rw [ft_t (by omega)] | rw [ft_c (by omega)])
       | (first | rw [(ft_o (by omega)).2.2] | skip))
     all_goals (try simp only [List.length_map, w3])
     all_goals (first
       | (simp [subA, intR, List.map_take, List.take_of_length_le]; done)
       | (rw [Bool.eq_iff_iff]; (try simp only [fb4, fb5, fb7, fb8, fb9, fb11, fb12]); simp; done)
       | (rw [Bool.eq_iff_iff]; (try simp only [fb4, fb5, fb7, fb8, fb9, fb11, fb12]); simp; omega)))
  · have e3 : (k == 3) = false := by simp; omega
    have e4 : (k == 4) = false := by simp; omega
    have e5 : (k == 5) = false := by simp; omega
    have e6 : (k == 6) = false := by simp; omega
    have e7 : (k == 7) = false := by simp; omega
    have e8 : (k == 8) = false := by simp; omega
    have e9 : (k == 9) = false := by simp; omega
    have e10 : (k == 10) = false := by simp; omega
    have e11 : (k == 11) = false := by simp; omega
    have e12 : (k == 12) = false := by simp; omega
    rw [(ft_n hk).1, (ft_n hk).2.2]
    refine Con.ev 100 T_ok mix Tryz.func188 rfl rfl rfl rfl [.tmp 4, .tmp 5] rfl ?_
    conv => whnf
    (refine br_s ?_ ?_ <;> intro hb <;> (try simp only [cln] at hb) <;> conv=>whnf)
    (apply rq_s (by simp only [Bool.and_eq_true, decide_eq_true_eq, List.length_map]; omega);conv=>whnf)
    (refine rq_s (by refine and_s rfl ?_; simp only [lnm]; omega) ?_;conv=>whnf)
    (refine row_s (by ((try simp only [Nat.zero_add, List.length_map]); exact row_last _ (by omega) (by omega))) ?_;conv=>whnf)
    iterate 10 (apply br_f (by assumption);conv=>whnf)
    iterate 2 (apply rq_s rfl;conv=>whnf)
    (apply rows_s rfl;conv=>whnf)
    (refine sh_s ?_; (rfl))
    iterate 10 (apply br_f (by assumption);conv=>whnf)
    iterate 2 (apply rq_s rfl;conv=>whnf)
    (apply rows_s rfl;conv=>whnf)
    (refine sh_s ?_; (rfl))
end I3

/- What is open behind items, checks, sizes: contracts. -/
set_option linter.unusedVariables false
set_option linter.unusedSimpArgs false
set_option maxRecDepth 100000
open Go Go.Abs Go.Proofs V1 H1 I1 I2 I3
namespace I4

def openR (r : List Int × Int) : AV := .tup [roI r.1, .int .i64 r.2]

theorem c70 (xs : List Itm) : Con Tryz.prog 70 [roT xs] (undefs [roT xs]) (openR (openF xs)) := by
  refine Con.evF 30 T_ok mix Tryz.func70 rfl rfl rfl rfl [.tmp 2, .tmp 3] rfl fun ⟨hx, _⟩ => ?_
  have hx := facts_len hx
  conv => whnf
  (apply rq_s rfl;conv=>whnf)
  rotate_left
  refine LoopG.emp 4 zI rfl ?_
  refine LoopG.rounds (α := Nat × List Int) T_ok mix [10, 11, 12, 4] [] (fun a => [(10, roT xs), (11, .int .i64 xs.length), (12, .int .i64 a.1), (4, roI a.2)]) (fun _ => []) (fun a => a.1 ≤ xs.length ∧ openK a.2 ∧ openGo (xs.drop a.1) a.1 a.2 = openF xs) (fun a => xs.length - a.1) ?_ ?_
  · conv => whnf
    exact head_s (0, []) ⟨by simp, openK_nil, by simp [openF]⟩ (by simp [roT, roI, subA]) rfl
  · rintro ⟨i, op⟩ ⟨h1, h2, h3⟩ - -
    simp only at h1 h2 h3 ⊢
    conv => whnf
    (refine br_s ?_ ?_ <;> intro hb <;> (try simp only [cln] at hb) <;> conv=>whnf)
    (apply rq_s rfl;conv=>whnf)
    (refine rq_s (by refine and_s rfl ?_; simp only [lnm]; omega) ?_;conv=>whnf)
    (refine row_s (by ((try simp only [Int.toNat_natCast]); exact row_map itR _ _ _ default (by first | omega | (simp; omega)))) ?_;conv=>whnf)
    iterate 3 (apply rq_s rfl;conv=>whnf)
    (apply lend_s;conv=>whnf)
    (apply rows_s rfl;conv=>whnf)
    (refine call_s (c128 _ _ (openK_last h2) h2.2) ?_;conv=>whnf)
    (refine fac_s (fun hf => ?_);conv=>whnf)
    (refine br_s ?_ ?_ <;> intro hb <;> (try simp only [cln] at hb) <;> conv=>whnf)
    iterate 2 (apply rq_s rfl;conv=>whnf)
    iterate 2 (rotate_left)
    iterate 2 (apply rq_s rfl;conv=>whnf)
    (apply rows_s rfl;conv=>whnf)
    rotate_left
    · rw [openGo_next (by assumption), if_neg (by simpa using hb)] at h3
      exact ⟨by rw [← h3]; exact Sh.tup ⟨Sh.emp_ro _, Sh.refl _, trivial⟩⟩
    · have hb' : fitB op (xs.getD i default).k = true := by simpa using hb
      rw [openGo_next (by assumption), if_pos hb'] at h3
      exact head_s (i + 1, fitL op (xs.getD i default).k) ⟨⟨by simp only; omega, openK_fit h2 hb', h3⟩, by simp only; omega⟩ (by rw [wrap64 (by omega) (by omega), fitI_t hb']; rfl) rfl
    · obtain rfl : i = xs.length := by omega
      rw [List.drop_length] at h3
      exact sh_s (by rw [← h3]; rfl)

theorem c181 (xs : List Itm) : Con Tryz.prog 181 [roT xs] (undefs [roT xs]) (.int .i64 (checkF xs)) := by
  have ho := c70 xs
  unfold openR at ho
  generalize hr : openF xs = r at ho
  obtain ⟨op, at'⟩ := r
  refine Con.ev 20 T_ok mix Tryz.func181 rfl rfl rfl rfl [.tmp 2] rfl ?_
  conv => whnf
  (apply rq_s rfl;conv=>whnf)
  (apply lend_s;conv=>whnf)
  (apply rows_s rfl;conv=>whnf)
  (refine call_s (ho ..) ?_;conv=>whnf)
  iterate 2 (refine fac_s (fun hf => ?_);conv=>whnf)
  (refine br_s ?_ ?_ <;> intro hb <;> (try simp only [cln] at hb) <;> conv=>whnf)
  iterate 2 (apply br_t rfl;conv=>whnf)
  (refine br_s ?_ ?_ <;> intro hb <;> (try simp only [cln] at hb) <;> conv=>whnf)
  (apply rq_s rfl;conv=>whnf)
  (focus (refine sh_s ?_; ((simp only [checkF, hr, List.length_map]; first | (rw [if_pos (by omega)]; done) | (rw [if_neg (by omega)]; done)))))
  (apply rq_s rfl;conv=>whnf)
  (focus (refine sh_s ?_; ((simp only [checkF, hr, List.length_map]; first | (rw [if_pos (by omega)]; done) | (rw [if_neg (by omega)]; done)))))
  iterate 4 (apply br_f rfl;conv=>whnf)
  (apply rq_s rfl;conv=>whnf)
  (focus (refine sh_s ?_; ((simp only [checkF, hr, List.length_map]; first | (rw [if_pos (by omega)]; done) | (rw [if_neg (by omega)]; done)))))
theorem c116 (xs : List Itm) : Con Tryz.prog 116 [roT xs] (undefs [roT xs]) (.tup [.int .i64 (if askF xs = 0 then (chkF xs).1 else 0), .int .i64 (if askF xs = 0 then (chkF xs).2 else askF xs)]) := by
  refine Con.ev 16 T_ok mix Tryz.func116 rfl rfl rfl rfl [.tmp 2, .tmp 3] rfl ?_
  conv => whnf
  (apply rq_s rfl;conv=>whnf)
  (apply lend_s;conv=>whnf)
  (apply rows_s rfl;conv=>whnf)
  (refine call_s (c69 ..) ?_;conv=>whnf)
  (refine fac_s (fun hf => ?_);conv=>whnf)
  (refine br_s ?_ ?_ <;> intro hb <;> (try simp only [cln] at hb) <;> conv=>whnf)
  iterate 2 (apply rq_s rfl;conv=>whnf)
  (refine sh_s ?_; (((simp only [chkF]; repeat' split) <;> first | rfl | (exfalso; omega))))
  (apply rq_s rfl;conv=>whnf)
  (apply lend_s;conv=>whnf)
  (apply rows_s rfl;conv=>whnf)
  (refine call_s (c181 ..) ?_;conv=>whnf)
  (refine fac_s (fun hf => ?_);conv=>whnf)
  (refine br_s ?_ ?_ <;> intro hb <;> (try simp only [cln] at hb) <;> conv=>whnf)
  iterate 2 (apply rq_s rfl;conv=>whnf)
  (refine sh_s ?_; (((simp only [chkF]; repeat' split) <;> first | rfl | (exfalso; omega))))
  iterate 2 (apply rq_s rfl;conv=>whnf)
  (refine sh_s ?_; (((simp only [chkF]; repeat' split) <;> first | rfl | (exfalso; omega))))

theorem check_f {xs : List Itm} {i : Nat} (h : ([], (i : Int)) = openF xs) : chkF xs = ((i : Int), 12) := by
  have : checkF xs = i := by rw [checkF, ← h, if_neg (by simp)]
  rw [chkF, this, if_pos (by omega)]
theorem check_o {xs : List Itm} {op : List Int} (h : (op, -1) = openF xs) (h0 : op.length > 0) : chkF xs = ((xs.length : Int), 12) := by
  have : checkF xs = xs.length := by rw [checkF, ← h, if_pos ⟨by simp, h0⟩]
  rw [chkF, this, if_pos (by omega)]
theorem check_t {xs : List Itm} {op : List Int} (h : (op, -1) = openF xs) (h0 : ¬ op.length > 0) : chkF xs = (0, 0) := by
  have : checkF xs = -1 := by rw [checkF, ← h, if_neg (fun e => h0 e.2)]
  rw [chkF, this, if_neg (by omega)]
theorem c164 (xs : List Itm) : Con Tryz.prog 164 [roT xs] (undefs [roT xs]) (.tup [.int .i64 (chkF xs).1, .int .i64 (chkF xs).2]) := by
  refine Con.evF 34 T_ok mix Tryz.func164 rfl rfl rfl rfl [.tmp 2, .tmp 3] rfl fun ⟨hx, _⟩ => ?_
  have hx := facts_len hx
  conv => whnf
  (apply rq_s rfl;conv=>whnf)
  rotate_left
  refine LoopG.emp 4 zI rfl ?_
  refine LoopG.rounds (α := Nat × List Int) T_ok mix [0, 5, 4] [] (fun a => [(0, roT xs), (5, .int .i64 a.1), (4, roI a.2)]) (fun _ => []) (fun a => a.1 ≤ xs.length ∧ openK a.2 ∧ openGo (xs.drop a.1) a.1 a.2 = openF xs) (fun a => xs.length - a.1) ?_ ?_
  · conv => whnf
    exact head_s (0, []) ⟨by simp, openK_nil, by simp [openF]⟩ (by simp [roT, roI, subA]) rfl
  · rintro ⟨i, op⟩ ⟨h1, h2, h3⟩ - -
    simp only at h1 h2 h3 ⊢
    conv => whnf
    (refine br_s ?_ ?_ <;> intro hb <;> (try simp only [cln] at hb) <;> conv=>whnf)
    (apply rq_s rfl;conv=>whnf)
    (refine rq_s (by refine and_s rfl ?_; simp only [lnm]; omega) ?_;conv=>whnf)
    (apply rq_s rfl;conv=>whnf)
    (refine row_s (by ((try simp only [Int.toNat_natCast]); exact row_map itR _ _ _ default (by first | omega | (simp; omega)))) ?_;conv=>whnf)
    iterate 2 (apply rq_s rfl;conv=>whnf)
    (apply lend_s;conv=>whnf)
    (apply rows_s rfl;conv=>whnf)
    (refine call_s (c188 _ _ h2.2) ?_;conv=>whnf)
    (refine fac_s (fun hf => ?_);conv=>whnf)
    (refine br_s ?_ ?_ <;> intro hb <;> (try simp only [cln] at hb) <;> conv=>whnf)
    iterate 2 (apply rq_s rfl;conv=>whnf)
    iterate 2 (rotate_left)
    (refine br_s ?_ ?_ <;> intro hb <;> (try simp only [cln] at hb) <;> conv=>whnf)
    iterate 2 (apply rq_s rfl;conv=>whnf)
    rotate_left
    iterate 2 (apply rq_s rfl;conv=>whnf)
    rotate_left
    · rw [openGo_next (by assumption), if_neg (by simpa using hb)] at h3
      exact sh_s (by rw [check_f h3])
    · have hb' : fitB op (xs.getD i default).k = true := by simpa using hb
      rw [openGo_next (by assumption), if_pos hb'] at h3
      exact head_s (i + 1, fitL op (xs.getD i default).k) ⟨⟨by simp only; omega, openK_fit h2 hb', h3⟩, by simp only; omega⟩ (by rw [wrap64 (by omega) (by omega)]; rfl) rfl
    · obtain rfl : i = xs.length := by omega
      rw [List.drop_length] at h3
      exact sh_s (by rw [check_o h3 (by omega)]; simp)
    · obtain rfl : i = xs.length := by omega
      rw [List.drop_length] at h3
      exact sh_s (by rw [check_t h3 (by omega)])
theorem c182 (x : Itm) : Con Tryz.prog 182 [itV x] (undefs [itV x]) (.int .i64 (itSz x.k)) := by
  refine Con.ev 12 T_ok mix Tryz.func182 rfl rfl rfl rfl [.tmp 2] rfl ?_
  conv => whnf
  iterate 2 (apply rq_s rfl;conv=>whnf)
  (refine br_s ?_ ?_ <;> intro hb <;> (try simp only [cln] at hb) <;> conv=>whnf)
  (apply br_t rfl;conv=>whnf)
  (apply rq_s rfl;conv=>whnf)
  (refine sh_s ?_; ((simp_all [itSz])))
  (refine br_s ?_ ?_ <;> intro hb <;> (try simp only [cln] at hb) <;> conv=>whnf)
  (apply rq_s rfl;conv=>whnf)
  (refine sh_s ?_; ((simp_all [itSz])))
  (refine br_s ?_ ?_ <;> intro hb <;> (try simp only [cln] at hb) <;> conv=>whnf)
  (apply br_t rfl;conv=>whnf)
  (apply rq_s rfl;conv=>whnf)
  (refine sh_s ?_; ((simp_all [itSz])))
  (refine br_s ?_ ?_ <;> intro hb <;> (try simp only [cln] at hb) <;> conv=>whnf)
  (apply br_t rfl;conv=>whnf)
  (apply rq_s rfl;conv=>whnf)
  (refine sh_s ?_; ((simp_all [itSz])))
  (refine br_s ?_ ?_ <;> intro hb <;> (try simp only [cln] at hb) <;> conv=>whnf)
  (apply rq_s rfl;conv=>whnf)
  (refine sh_s ?_; ((simp_all [itSz])))
  (apply rq_s rfl;conv=>whnf)
  (refine sh_s ?_; ((simp_all [itSz])))
theorem c117 (xs : List Itm) (h : xs.length ≤ 1000000) : Con Tryz.prog 117 [roT xs] (undefs [roT xs]) (.int .i64 (sizeF xs)) := by
  refine Con.ev 18 T_ok mix Tryz.func117 rfl rfl rfl rfl [.tmp 2] rfl ?_
  conv => whnf
  rotate_left
  refine LoopG.rounds (α := Nat) T_ok mix [6, 7, 8, 3] [] (fun i => [(6, roT xs), (7, .int .i64 xs.length), (8, .int .i64 i), (3, .int .i64 (1 + szF (xs.take i)))]) (fun _ => []) (fun i => i ≤ xs.length) (fun i => xs.length - i) ?_ ?_
  · conv => whnf
    exact head_s 0 (by simp) (by simp [roT, szF]) rfl
  · intro i h1 _ _
    have h2 := szF_le (xs.take i)
    have h3 : (xs.take i).length ≤ xs.length := by simp; omega
    have h4 := itSz_le (xs.getD i default).k
    conv => whnf
    (refine br_s ?_ ?_ <;> intro hb <;> (try simp only [cln] at hb) <;> conv=>whnf)
    (apply rq_s rfl;conv=>whnf)
    (refine rq_s (by refine and_s rfl ?_; simp only [lnm]; omega) ?_;conv=>whnf)
    (refine row_s (by ((try simp only [Int.toNat_natCast]); exact row_map itR _ _ _ default (by first | omega | (simp; omega)))) ?_;conv=>whnf)
    iterate 2 (apply rq_s rfl;conv=>whnf)
    (apply lend_s;conv=>whnf)
    (refine call_s (c182 ..) ?_;conv=>whnf)
    (refine fac_s (fun hf => ?_);conv=>whnf)
    rotate_left
    (apply rq_s rfl;conv=>whnf)
    rotate_left
    · exact head_s (i + 1) ⟨by omega, by omega⟩ (by rw [szF_take (by assumption), wrap64 (by omega) (by omega), wrap64 (by omega) (by omega), Int.add_assoc]; rfl) rfl
    · obtain rfl : i = xs.length := by omega
      exact sh_s (by rw [List.take_length]; rfl)
end I4

/- Code of items, by the program: contracts. -/
set_option linter.unusedVariables false
set_option linter.unusedSimpArgs false
set_option maxRecDepth 100000
open Go Go.Abs Go.Proofs V1 H1 I1 I2 I3 I4
namespace I5


theorem c183 (op : List Int) (h1 : 1 ≤ op.length) (h2 : op.length ≤ 1000) : Con Tryz.prog 183 [.obj [ownI op]] [.obj [ownI (op.take (op.length - 1))]] (.int .i64 (lastF op)) := by
  have w1 : IntKind.i64.wrap ((op.length : Int) - 1) = (op.length : Int) - 1 := wrap64 (by omega) (by omega)
  have w2 : (IntKind.i64.wrap ((op.length : Int) - 1)).toNat = op.length - 1 := by omega
  refine Con.evP 15 [500000] rfl T_ok mix Tryz.func183 rfl rfl rfl rfl [.tmp 1] rfl ?_
  conv => whnf
  (apply rq_s (by simp only [Bool.and_eq_true, decide_eq_true_eq, List.length_map]; omega);conv=>whnf)
  (apply rq_s (by simp only [lnm, mkS_len, setRow_len]; done);conv=>whnf)
  (refine rq_s (by refine and_s rfl ?_; simp only [lnm]; omega) ?_;conv=>whnf)
  (refine row_s (by ((try simp only [Nat.zero_add, List.length_map]); exact row_last _ (by omega) (by omega))) ?_;conv=>whnf)
  (apply rq_s (by simp only [Bool.and_eq_true, decide_eq_true_eq, List.length_map]; omega);conv=>whnf)
  (refine rq_s (by refine and_s rfl ?_; simp only [lnm]; omega) ?_;conv=>whnf)
  (apply rq_s (by simp only [lnm, mkS_len, setRow_len]; done);conv=>whnf)
  iterate 2 (apply rq_s rfl;conv=>whnf)
  (refine aftp_s (by rfl) ?_;conv=>whnf)
  (apply rows_s (by (exact sub_map _ _ _ _));conv=>whnf)
  (refine aftp_s (by (simp [w2, ownI, subA, List.map_take])) ?_;conv=>whnf)
  exact True.intro
theorem c184 (a : Int) (c : List Int) (h1 : 0 ≤ a) (h2 : a ≤ 100000) (h3 : c.length ≤ 1000) : Con Tryz.prog 184 [.rp [.int .i64 a] 0, .rp [roI c] 0] (undefs [.rp [.int .i64 a] 0, .rp [roI c] 0]) (.int .i64 (a + c.length)) := by
  refine Con.ev 7 T_ok mix Tryz.func184 rfl rfl rfl rfl [.tmp 2] rfl ?_
  conv => whnf
  iterate 2 (refine row_s (by (rfl)) ?_;conv=>whnf)
  (apply rq_s rfl;conv=>whnf)
  (refine sh_s ?_; ((rw [wrap64 (by simp; omega) (by simp; omega)]; simp)))
def innF (k : Int) : Int := if k = 2 then 57 else if k = 3 ∨ k = 7 ∨ k = 8 then 59 else if k = 4 ∨ k = 9 then 58 else if k = 11 then 61 else 62
theorem c185 (x : Itm) : Con Tryz.prog 185 [itV x] (undefs [itV x]) (.int .i64 (innF x.k)) := by
  refine Con.ev 16 T_ok mix Tryz.func185 rfl rfl rfl rfl [.tmp 2] rfl ?_
  conv => whnf
  iterate 2 (apply rq_s rfl;conv=>whnf)
  (refine br_s ?_ ?_ <;> intro hb <;> (try simp only [cln] at hb) <;> conv=>whnf)
  (apply rq_s rfl;conv=>whnf)
  (refine sh_s ?_; ((simp_all [innF])))
  (refine br_s ?_ ?_ <;> intro hb <;> (try simp only [cln] at hb) <;> conv=>whnf)
  (apply br_t rfl;conv=>whnf)
  (apply rq_s rfl;conv=>whnf)
  (refine sh_s ?_; ((simp_all [innF])))
  (refine br_s ?_ ?_ <;> intro hb <;> (try simp only [cln] at hb) <;> conv=>whnf)
  (apply br_t rfl;conv=>whnf)
  (apply rq_s rfl;conv=>whnf)
  (refine sh_s ?_; ((simp_all [innF])))
  (refine br_s ?_ ?_ <;> intro hb <;> (try simp only [cln] at hb) <;> conv=>whnf)
  (apply rq_s rfl;conv=>whnf)
  (refine sh_s ?_; ((simp_all [innF])))
  (refine br_s ?_ ?_ <;> intro hb <;> (try simp only [cln] at hb) <;> conv=>whnf)
  (apply br_t rfl;conv=>whnf)
  (apply rq_s rfl;conv=>whnf)
  (refine sh_s ?_; ((simp_all [innF])))
  (refine br_s ?_ ?_ <;> intro hb <;> (try simp only [cln] at hb) <;> conv=>whnf)
  (apply rq_s rfl;conv=>whnf)
  (refine sh_s ?_; ((simp_all [innF])))
  (refine br_s ?_ ?_ <;> intro hb <;> (try simp only [cln] at hb) <;> conv=>whnf)
  (apply rq_s rfl;conv=>whnf)
  (refine sh_s ?_; ((simp_all [innF])))
  (apply rq_s rfl;conv=>whnf)
  (refine sh_s ?_; ((simp_all [innF])))
end I5

/- Code of items, by the program: the loop; contracts. -/
set_option linter.unusedVariables false
set_option linter.unusedSimpArgs false
set_option maxRecDepth 100000
open Go Go.Abs Go.Proofs V1 H1 I1 I2 I3 I4 I5
namespace I6




structure LS where
  i : Nat
  c : List Int
  st : List Op1
theorem c118 (xs : List Itm) (at' self : Int) (h60 : xs.length ≤ 60) (hx : itemsOK xs = true) (ho : openF xs = ([], -1)) (ha : 0 ≤ at' ∧ at' ≤ 400) (hs : 1 ≤ self ∧ self ≤ 103) :
    Con Tryz.prog 118 [roT xs, .int .i64 at', .int .i64 self] (undefs [roT xs, .int .i64 at', .int .i64 self]) (ownI (compF xs at' self)) := by
  refine Con.ev 126 T_ok mix Tryz.func118 rfl rfl rfl rfl [.tmp 6] rfl ?_
  conv => whnf
  iterate 3 (apply rq_s rfl;conv=>whnf)
  rotate_left
  refine LoopG.bearM 7 0 101 zI rfl rfl rfl ?_
  refine LoopG.bearM 8 0 102 zI rfl rfl rfl ?_
  refine LoopG.auto (α := LS) T_ok mix [2, 4, 7, 8, 9, 10, 18, 19, 20]
    (fun a => [(2, .int .i64 self), (4, .ptr 1 0 0), (7, .ptr 2 0 0), (8, .ptr 4 0 0), (9, .fn 183 [.ptr 4 0 0]), (10, .fn 184 [.ptr 1 0 0, .ptr 2 0 0]), (18, roT xs), (19, .int .i64 xs.length), (20, .int .i64 a.i)])
    (fun a => [(1, .live ⟨false, 0, [.int .i64 at'], [[.int .i64 at']]⟩), (2, .live ⟨false, 0, [.emp], [[.ref 3 0 a.c.length]]⟩), (3, .live ⟨true, 0, zI, a.c.map intR⟩), (4, .live ⟨false, 0, [.emp], [[.ref 5 0 (flat a.st).length]]⟩), (5, .live ⟨true, 0, zI, (flat a.st).map intR⟩)])
    (fun a => CInv xs a.i a.c a.st ∧ compGo at' self (xs.drop a.i) a.c (a.st.map (·.2)) = compF xs at' self) (fun a => xs.length - a.i) ?_ ?_
  · conv => whnf
    (refine ChkS.mk (by kernel_rfl) ?_;conv=>whnf)
    rotate_left
    exact head_s ⟨0, [], []⟩ ⟨CInv.zero ho, rfl⟩ (by simp [roT]) rfl
  · rintro ⟨i, c, st⟩ ⟨hI, hC⟩ _ _
    simp only at hI hC ⊢
    have h16 := hI.fl16
    have hcl := hI.hl
    have hin := hI.hi
    by_cases hi : i < xs.length
    · have hok : itemOK (xs.getD i default) = true := by
        have : xs.getD i default = xs[i] := by simp [hi]
        rw [this]
        exact List.all_eq_true.1 hx _ (List.getElem_mem hi)
      have hk := item_k hok
      have hv := item_v hok
      have hn := hI.next hi hk at' self
      have hc := hC
      rw [compGo_next hi, st_snd at' self _ c st hk] at hc
      obtain ⟨f4, f5, f7, f8, f9, f11⟩ := fit_last (hI.fit hi)
      have P3 : (xs.getD i default).k = 4 ∨ (xs.getD i default).k = 5 → _ := fun e => hI.pop3 (by omega)
      have P6 : (xs.getD i default).k = 7 ∨ (xs.getD i default).k = 8 ∨ (xs.getD i default).k = 11 ∨ (xs.getD i default).k = 12 → _ := fun e => hI.pop6 (by omega)
      have P8 : (xs.getD i default).k = 9 → _ := fun e => hI.pop8 (by omega)
      have wc : IntKind.i64.wrap ((c.length : Int) + 2 - 1) = c.length + 1 := (wrap64 (by omega) (by omega)).trans (by omega)
      have wd : ∀ a b : Int, IntKind.i64.wrap (((c ++ [a, b]).length : Int) - 1) = c.length + 1 := fun a b => (wrap64 (by simp; omega) (by simp; omega)).trans (by simp; omega)
      have wt : ((c.length : Int) + 1).toNat = c.length + 1 := by omega
      generalize hxe : xs.getD i default = x at *
      obtain ⟨k, v⟩ := x
      simp only at hk hv hn hc P3 P6 P8 f4 f5 f7 f8 f9 f11
      have hrow : ∀ z, rowA (xs.map itR) i z = itR ⟨k, v⟩ := fun z => (row_map itR xs i z default hi).trans (congrArg itR hxe)
      have hlt : decide ((i : Int) < (xs.length : Int)) = true := by simp; omega
      have : k = 1 ∨ k = 2 ∨ k = 3 ∨ k = 4 ∨ k = 5 ∨ k = 6 ∨ k = 7 ∨ k = 8 ∨ k = 9 ∨ k = 10 ∨ k = 11 ∨ k = 12 ∨ k = 13 := by omega
      rcases this with rfl | rfl | rfl | rfl | rfl | rfl | rfl | rfl | rfl | rfl | rfl | rfl | rfl
      all_goals first | have P := P3 (by omega) | have P := P6 (by omega) | have P := P8 (by omega) | skip
      all_goals (
        conv => whnf
        (apply br_t (by assumption);conv=>whnf)
        (apply rq_s rfl;conv=>whnf)
        (refine rq_s (by refine and_s rfl ?_; simp only [lnm]; omega) ?_;conv=>whnf)
        (refine row_s (by (exact hrow _)) ?_;conv=>whnf)
        (apply rq_s rfl;conv=>whnf)
        first
          | ( (apply br_t rfl;conv=>whnf)
              iterate 2 (apply rq_s rfl;conv=>whnf)
              (apply rq_s (by simp only [lnm, mkS_len, setRow_len]; done);conv=>whnf)
              iterate 2 (apply rq_s rfl;conv=>whnf)
              (apply rq_s (by simp only [lnm, mkS_len, setRow_len]; done);conv=>whnf)
              (refine rq_s (by (((first | (simp [maxBytes, subA]; done) | (simp [maxBytes, subA]; omega) | (simp only [List.length_append, List.length_cons, List.length_nil, decide_eq_true_eq, List.length_map, Bool.and_eq_true]; rw [wrap64 (by omega) (by omega)]; first | done | omega | (refine ⟨by rfl, ?_⟩; omega)))))) ?_;conv=>whnf)
              (refine appf_s intR rfl ?_;conv=>whnf)
              (refine ChkS.mk (by kernel_rfl) ?_;conv=>whnf)
              rotate_left)
          | ( iterate 5 (apply br_f rfl;conv=>whnf)
              iterate 3 (refine ChkS.mk (by kernel_rfl) ?_;conv=>whnf)
              iterate 2 (apply rq_s rfl;conv=>whnf)
              (refine call_s (c185 ..) ?_;conv=>whnf)
              (refine ChkS.mk (by kernel_rfl) ?_;conv=>whnf)
              (apply rq_s rfl;conv=>whnf)
              (refine ChkS.mk (by kernel_rfl) ?_;conv=>whnf)
              (apply rq_s (by simp only [lnm, mkS_len, setRow_len]; done);conv=>whnf)
              iterate 2 (apply rq_s rfl;conv=>whnf)
              (apply rq_s (by simp only [lnm, mkS_len, setRow_len]; done);conv=>whnf)
              (refine rq_s (by (((first | (simp [maxBytes, subA]; done) | (simp [maxBytes, subA]; omega) | (simp only [List.length_append, List.length_cons, List.length_nil, decide_eq_true_eq, List.length_map, Bool.and_eq_true]; rw [wrap64 (by omega) (by omega)]; first | done | omega | (refine ⟨by rfl, ?_⟩; omega)))))) ?_;conv=>whnf)
              (refine app2_s intR rfl rfl ?_;conv=>whnf)
              iterate 2 (refine ChkS.mk (by kernel_rfl) ?_;conv=>whnf)
              (refine fac_s (fun hf => ?_);conv=>whnf)
              (apply rq_s rfl;conv=>whnf)
              first
                | ( (apply br_t rfl;conv=>whnf)
                    (apply rq_s rfl;conv=>whnf)
                    (apply rq_s (by ((simp; omega)));conv=>whnf)
                    (apply rq_s (by simp only [lnm, mkS_len, setRow_len]; done);conv=>whnf)
                    (apply rq_s (by ((simp; omega)));conv=>whnf)
                    (apply rows_s (by ((rw [wd, setRow_int _ _ _ _ (by simp)])));conv=>whnf)
                    (refine ChkS.mk (by kernel_rfl) ?_;conv=>whnf)
                    rotate_left)
                | ( (apply br_f rfl;conv=>whnf)
                    iterate 2 (apply br_t rfl;conv=>whnf)
                    (apply rq_s rfl;conv=>whnf)
                    (apply rq_s (by simp only [lnm, mkS_len, setRow_len]; done);conv=>whnf)
                    iterate 2 (apply rq_s rfl;conv=>whnf)
                    (apply rq_s (by simp only [lnm, mkS_len, setRow_len]; done);conv=>whnf)
                    (refine rq_s (by (((first | (simp [maxBytes, subA]; done) | (simp [maxBytes, subA]; omega) | (simp only [List.length_append, List.length_cons, List.length_nil, decide_eq_true_eq, List.length_map, Bool.and_eq_true]; rw [wrap64 (by omega) (by omega)]; first | done | omega | (refine ⟨by rfl, ?_⟩; omega)))))) ?_;conv=>whnf)
                    (refine appf_s intR rfl ?_;conv=>whnf)
                    (refine ChkS.mk (by kernel_rfl) ?_;conv=>whnf)
                    rotate_left)
                | ( iterate 3 (apply br_f rfl;conv=>whnf)
                    (apply br_t rfl;conv=>whnf)
                    iterate 3 (refine ChkS.mk (by kernel_rfl) ?_;conv=>whnf)
                    (refine handp_s 183 [some 1] ?_;conv=>whnf)
                    (apply rq_s rfl;conv=>whnf)
                    (focus (apply callpe_s (f := 183); (· repeat' (first | (refine sub_all ?_; simp [List.length_map, mkS_len, setRow_len]; done) | exact sub_map _ _ _ _ | apply cons_eq | apply obj_eq | apply agg_eq | apply own_eq | apply ro_eq | apply rp_eq | apply fnc_eq | rfl)); refine callp_s (f := 183) rfl (c183 _ (by first | omega | (dsimp only; omega) | (simp; omega)) (by first | omega | (dsimp only; omega) | (simp; omega))) ?_;conv=>whnf))
                    iterate 2 (refine ChkS.mk (by kernel_rfl) ?_;conv=>whnf)
                    (refine handp_s 184 [none, none] ?_;conv=>whnf)
                    iterate 3 (apply rq_s rfl;conv=>whnf)
                    (apply rq_s (by simp only [lnm, mkS_len, setRow_len]; done);conv=>whnf)
                    (apply rq_s rfl;conv=>whnf)
                    (focus (apply callpe_s (f := 184); (· repeat' (first | (refine sub_all ?_; simp [List.length_map, mkS_len, setRow_len]; done) | exact sub_map _ _ _ _ | apply cons_eq | apply obj_eq | apply agg_eq | apply own_eq | apply ro_eq | apply rp_eq | apply fnc_eq | rfl)); refine callp_s (f := 184) rfl (c184 _ _ (by first | omega | (dsimp only; omega) | (simp; omega)) (by first | omega | (dsimp only; omega) | (simp; omega)) (by first | omega | (dsimp only; omega) | (simp; omega))) ?_;conv=>whnf))
                    (refine ChkS.mk (by kernel_rfl) ?_;conv=>whnf)
                    (apply rq_s (by simp only [Bool.and_eq_true, decide_eq_true_eq, List.length_map]; omega);conv=>whnf)
                    (apply rq_s (by simp only [lnm, mkS_len, setRow_len]; done);conv=>whnf)
                    (apply rq_s (by ((simp; omega)));conv=>whnf)
                    (refine ChkS.mk (by kernel_rfl) ?_;conv=>whnf)
                    (apply rows_s (by ((rw [setRow_int _ _ _ _ (by first | omega | (simp only [List.length_append, List.length_cons, List.length_nil, Nat.zero_add, Int.natCast_add, Int.cast_ofNat_Int]; omega))])));conv=>whnf)
                    (refine ChkS.mk (by kernel_rfl) ?_;conv=>whnf)
                    iterate 2 (refine fac_s (fun hf => ?_);conv=>whnf)
                    (apply rq_s rfl;conv=>whnf)
                    (apply rq_s (by simp only [lnm, mkS_len, setRow_len]; done);conv=>whnf)
                    iterate 2 (apply rq_s rfl;conv=>whnf)
                    (apply rq_s (by simp only [lnm, mkS_len, setRow_len]; done);conv=>whnf)
                    (refine rq_s (by (((first | (simp [maxBytes, subA]; done) | (simp [maxBytes, subA]; omega) | (simp only [List.length_append, List.length_cons, List.length_nil, decide_eq_true_eq, List.length_map, Bool.and_eq_true]; rw [wrap64 (by omega) (by omega)]; first | done | omega | (refine ⟨by rfl, ?_⟩; omega)))))) ?_;conv=>whnf)
                    (refine app0_s ?_;conv=>whnf)
                    (refine ChkS.mk (by kernel_rfl) ?_;conv=>whnf)
                    rotate_left)
                | ( iterate 4 (apply br_f rfl;conv=>whnf)
                    iterate 2 (apply br_t rfl;conv=>whnf)
                    iterate 4 (refine ChkS.mk (by kernel_rfl) ?_;conv=>whnf)
                    (refine handp_s 183 [some 1] ?_;conv=>whnf)
                    (apply rq_s rfl;conv=>whnf)
                    (focus (apply callpe_s (f := 183); (· repeat' (first | (refine sub_all ?_; simp [List.length_map, mkS_len, setRow_len]; done) | exact sub_map _ _ _ _ | apply cons_eq | apply obj_eq | apply agg_eq | apply own_eq | apply ro_eq | apply rp_eq | apply fnc_eq | rfl)); refine callp_s (f := 183) rfl (c183 _ (by first | omega | (dsimp only; omega) | (simp; omega)) (by first | omega | (dsimp only; omega) | (simp; omega))) ?_;conv=>whnf))
                    (refine ChkS.mk (by kernel_rfl) ?_;conv=>whnf)
                    (apply rq_s (by ((simp; omega)));conv=>whnf)
                    (apply rq_s (by simp only [lnm, mkS_len, setRow_len]; done);conv=>whnf)
                    (apply rq_s (by ((simp; omega)));conv=>whnf)
                    (refine ChkS.mk (by kernel_rfl) ?_;conv=>whnf)
                    (apply rows_s (by ((rw [wd, setRow_int _ _ _ _ (by simp)])));conv=>whnf)
                    (refine ChkS.mk (by kernel_rfl) ?_;conv=>whnf)
                    (refine fac_s (fun hf => ?_);conv=>whnf)
                    (refine ChkS.mk (by kernel_rfl) ?_;conv=>whnf)
                    rotate_left)
                | ( iterate 2 (apply br_f rfl;conv=>whnf)
                    (apply br_t rfl;conv=>whnf)
                    (apply rq_s rfl;conv=>whnf)
                    (apply rq_s (by simp only [lnm, mkS_len, setRow_len]; done);conv=>whnf)
                    iterate 2 (apply rq_s rfl;conv=>whnf)
                    (apply rq_s (by simp only [lnm, mkS_len, setRow_len]; done);conv=>whnf)
                    (refine rq_s (by (((first | (simp [maxBytes, subA]; done) | (simp [maxBytes, subA]; omega) | (simp only [List.length_append, List.length_cons, List.length_nil, decide_eq_true_eq, List.length_map, Bool.and_eq_true]; rw [wrap64 (by omega) (by omega)]; first | done | omega | (refine ⟨by rfl, ?_⟩; omega)))))) ?_;conv=>whnf)
                    (refine appf_s intR rfl ?_;conv=>whnf)
                    (refine ChkS.mk (by kernel_rfl) ?_;conv=>whnf)
                    rotate_left)
                | ( iterate 7 (apply br_f rfl;conv=>whnf)
                    (apply br_t rfl;conv=>whnf)
                    iterate 3 (refine ChkS.mk (by kernel_rfl) ?_;conv=>whnf)
                    (refine handp_s 183 [some 1] ?_;conv=>whnf)
                    (apply rq_s rfl;conv=>whnf)
                    (focus (apply callpe_s (f := 183); (· repeat' (first | (refine sub_all ?_; simp [List.length_map, mkS_len, setRow_len]; done) | exact sub_map _ _ _ _ | apply cons_eq | apply obj_eq | apply agg_eq | apply own_eq | apply ro_eq | apply rp_eq | apply fnc_eq | rfl)); refine callp_s (f := 183) rfl (c183 _ (by first | omega | (dsimp only; omega) | (simp; omega)) (by first | omega | (dsimp only; omega) | (simp; omega))) ?_;conv=>whnf))
                    iterate 2 (refine ChkS.mk (by kernel_rfl) ?_;conv=>whnf)
                    (refine handp_s 184 [none, none] ?_;conv=>whnf)
                    iterate 3 (apply rq_s rfl;conv=>whnf)
                    (apply rq_s (by simp only [lnm, mkS_len, setRow_len]; done);conv=>whnf)
                    (apply rq_s rfl;conv=>whnf)
                    (focus (apply callpe_s (f := 184); (· repeat' (first | (refine sub_all ?_; simp [List.length_map, mkS_len, setRow_len]; done) | exact sub_map _ _ _ _ | apply cons_eq | apply obj_eq | apply agg_eq | apply own_eq | apply ro_eq | apply rp_eq | apply fnc_eq | rfl)); refine callp_s (f := 184) rfl (c184 _ _ (by first | omega | (dsimp only; omega) | (simp; omega)) (by first | omega | (dsimp only; omega) | (simp; omega)) (by first | omega | (dsimp only; omega) | (simp; omega))) ?_;conv=>whnf))
                    (refine ChkS.mk (by kernel_rfl) ?_;conv=>whnf)
                    (apply rq_s (by simp only [Bool.and_eq_true, decide_eq_true_eq, List.length_map]; omega);conv=>whnf)
                    (apply rq_s (by simp only [lnm, mkS_len, setRow_len]; done);conv=>whnf)
                    (apply rq_s (by ((simp; omega)));conv=>whnf)
                    (refine ChkS.mk (by kernel_rfl) ?_;conv=>whnf)
                    (apply rows_s (by ((rw [setRow_int _ _ _ _ (by first | omega | (simp only [List.length_append, List.length_cons, List.length_nil, Nat.zero_add, Int.natCast_add, Int.cast_ofNat_Int]; omega))])));conv=>whnf)
                    (refine ChkS.mk (by kernel_rfl) ?_;conv=>whnf)
                    iterate 2 (refine fac_s (fun hf => ?_);conv=>whnf)
                    iterate 4 (refine ChkS.mk (by kernel_rfl) ?_;conv=>whnf)
                    (refine handp_s 183 [some 1] ?_;conv=>whnf)
                    (apply rq_s rfl;conv=>whnf)
                    (focus (apply callpe_s (f := 183); (· repeat' (first | (refine sub_all ?_; simp [List.length_map, mkS_len, setRow_len]; done) | exact sub_map _ _ _ _ | apply cons_eq | apply obj_eq | apply agg_eq | apply own_eq | apply ro_eq | apply rp_eq | apply fnc_eq | rfl)); refine callp_s (f := 183) rfl (c183 _ (by first | omega | (dsimp only; omega) | (simp; omega)) (by first | omega | (dsimp only; omega) | (simp; omega))) ?_;conv=>whnf))
                    (refine ChkS.mk (by kernel_rfl) ?_;conv=>whnf)
                    (apply rq_s (by ((simp; omega)));conv=>whnf)
                    (apply rq_s (by simp only [lnm, mkS_len, setRow_len]; done);conv=>whnf)
                    (apply rq_s (by ((simp; omega)));conv=>whnf)
                    (refine ChkS.mk (by kernel_rfl) ?_;conv=>whnf)
                    (apply rows_s (by ((rw [wd, setRow_int _ _ _ _ (by simp)])));conv=>whnf)
                    (refine ChkS.mk (by kernel_rfl) ?_;conv=>whnf)
                    (refine fac_s (fun hf => ?_);conv=>whnf)
                    (refine ChkS.mk (by kernel_rfl) ?_;conv=>whnf)
                    rotate_left)
                | ( iterate 5 (apply br_f rfl;conv=>whnf)
                    iterate 2 (apply br_t rfl;conv=>whnf)
                    iterate 4 (refine ChkS.mk (by kernel_rfl) ?_;conv=>whnf)
                    (refine handp_s 183 [some 1] ?_;conv=>whnf)
                    (apply rq_s rfl;conv=>whnf)
                    (focus (apply callpe_s (f := 183); (· repeat' (first | (refine sub_all ?_; simp [List.length_map, mkS_len, setRow_len]; done) | exact sub_map _ _ _ _ | apply cons_eq | apply obj_eq | apply agg_eq | apply own_eq | apply ro_eq | apply rp_eq | apply fnc_eq | rfl)); refine callp_s (f := 183) rfl (c183 _ (by first | omega | (dsimp only; omega) | (simp; omega)) (by first | omega | (dsimp only; omega) | (simp; omega))) ?_;conv=>whnf))
                    (refine ChkS.mk (by kernel_rfl) ?_;conv=>whnf)
                    (apply rq_s (by ((simp; omega)));conv=>whnf)
                    (apply rq_s (by simp only [lnm, mkS_len, setRow_len]; done);conv=>whnf)
                    (apply rq_s (by ((simp; omega)));conv=>whnf)
                    (refine ChkS.mk (by kernel_rfl) ?_;conv=>whnf)
                    (apply rows_s (by ((rw [wd, setRow_int _ _ _ _ (by simp)])));conv=>whnf)
                    (refine ChkS.mk (by kernel_rfl) ?_;conv=>whnf)
                    (refine fac_s (fun hf => ?_);conv=>whnf)
                    (refine ChkS.mk (by kernel_rfl) ?_;conv=>whnf)
                    rotate_left)
                | ( iterate 6 (apply br_f rfl;conv=>whnf)
                    (apply br_t rfl;conv=>whnf)
                    iterate 4 (refine ChkS.mk (by kernel_rfl) ?_;conv=>whnf)
                    (refine handp_s 183 [some 1] ?_;conv=>whnf)
                    (apply rq_s rfl;conv=>whnf)
                    (focus (apply callpe_s (f := 183); (· repeat' (first | (refine sub_all ?_; simp [List.length_map, mkS_len, setRow_len]; done) | exact sub_map _ _ _ _ | apply cons_eq | apply obj_eq | apply agg_eq | apply own_eq | apply ro_eq | apply rp_eq | apply fnc_eq | rfl)); refine callp_s (f := 183) rfl (c183 _ (by first | omega | (dsimp only; omega) | (simp; omega)) (by first | omega | (dsimp only; omega) | (simp; omega))) ?_;conv=>whnf))
                    (refine ChkS.mk (by kernel_rfl) ?_;conv=>whnf)
                    (apply rq_s (by ((simp; omega)));conv=>whnf)
                    (apply rq_s (by simp only [lnm, mkS_len, setRow_len]; done);conv=>whnf)
                    (apply rq_s (by ((simp; omega)));conv=>whnf)
                    (refine ChkS.mk (by kernel_rfl) ?_;conv=>whnf)
                    (apply rows_s (by ((rw [wd, setRow_int _ _ _ _ (by simp)])));conv=>whnf)
                    (refine ChkS.mk (by kernel_rfl) ?_;conv=>whnf)
                    (refine fac_s (fun hf => ?_);conv=>whnf)
                    (refine ChkS.mk (by kernel_rfl) ?_;conv=>whnf)
                    rotate_left))
          | ( iterate 2 (apply br_f rfl;conv=>whnf)
              (apply br_t rfl;conv=>whnf)
              iterate 3 (refine ChkS.mk (by kernel_rfl) ?_;conv=>whnf)
              (refine handp_s 183 [some 1] ?_;conv=>whnf)
              (apply rq_s rfl;conv=>whnf)
              (focus (apply callpe_s (f := 183); (· repeat' (first | (refine sub_all ?_; simp [List.length_map, mkS_len, setRow_len]; done) | exact sub_map _ _ _ _ | apply cons_eq | apply obj_eq | apply agg_eq | apply own_eq | apply ro_eq | apply rp_eq | apply fnc_eq | rfl)); refine callp_s (f := 183) rfl (c183 _ (by first | omega | (dsimp only; omega) | (simp; omega)) (by first | omega | (dsimp only; omega) | (simp; omega))) ?_;conv=>whnf))
              iterate 2 (refine ChkS.mk (by kernel_rfl) ?_;conv=>whnf)
              (refine handp_s 184 [none, none] ?_;conv=>whnf)
              iterate 3 (apply rq_s rfl;conv=>whnf)
              (apply rq_s (by simp only [lnm, mkS_len, setRow_len]; done);conv=>whnf)
              (apply rq_s rfl;conv=>whnf)
              (focus (apply callpe_s (f := 184); (· repeat' (first | (refine sub_all ?_; simp [List.length_map, mkS_len, setRow_len]; done) | exact sub_map _ _ _ _ | apply cons_eq | apply obj_eq | apply agg_eq | apply own_eq | apply ro_eq | apply rp_eq | apply fnc_eq | rfl)); refine callp_s (f := 184) rfl (c184 _ _ (by first | omega | (dsimp only; omega) | (simp; omega)) (by first | omega | (dsimp only; omega) | (simp; omega)) (by first | omega | (dsimp only; omega) | (simp; omega))) ?_;conv=>whnf))
              (refine ChkS.mk (by kernel_rfl) ?_;conv=>whnf)
              (apply rq_s (by simp only [Bool.and_eq_true, decide_eq_true_eq, List.length_map]; omega);conv=>whnf)
              (apply rq_s (by simp only [lnm, mkS_len, setRow_len]; done);conv=>whnf)
              (refine rq_s (by refine and_s rfl ?_; simp only [lnm]; omega) ?_;conv=>whnf)
              (refine ChkS.mk (by kernel_rfl) ?_;conv=>whnf)
              (apply rows_s (by ((rw [setRow_int _ _ _ _ (by first | omega | (simp only [List.length_append, List.length_cons, List.length_nil, Nat.zero_add, Int.natCast_add, Int.cast_ofNat_Int]; omega))])));conv=>whnf)
              (refine ChkS.mk (by kernel_rfl) ?_;conv=>whnf)
              iterate 2 (refine fac_s (fun hf => ?_);conv=>whnf)
              (refine ChkS.mk (by kernel_rfl) ?_;conv=>whnf)
              rotate_left)
          | ( iterate 3 (apply br_f rfl;conv=>whnf)
              (apply br_t rfl;conv=>whnf)
              iterate 3 (refine ChkS.mk (by kernel_rfl) ?_;conv=>whnf)
              (refine handp_s 184 [none, none] ?_;conv=>whnf)
              iterate 3 (apply rq_s rfl;conv=>whnf)
              (apply rq_s (by simp only [lnm, mkS_len, setRow_len]; done);conv=>whnf)
              (apply rq_s rfl;conv=>whnf)
              (focus (apply callpe_s (f := 184); (· repeat' (first | (refine sub_all ?_; simp [List.length_map, mkS_len, setRow_len]; done) | exact sub_map _ _ _ _ | apply cons_eq | apply obj_eq | apply agg_eq | apply own_eq | apply ro_eq | apply rp_eq | apply fnc_eq | rfl)); refine callp_s (f := 184) rfl (c184 _ _ (by first | omega | (dsimp only; omega) | (simp; omega)) (by first | omega | (dsimp only; omega) | (simp; omega)) (by first | omega | (dsimp only; omega) | (simp; omega))) ?_;conv=>whnf))
              (refine ChkS.mk (by kernel_rfl) ?_;conv=>whnf)
              (apply rq_s rfl;conv=>whnf)
              (refine ChkS.mk (by kernel_rfl) ?_;conv=>whnf)
              (apply rq_s (by simp only [lnm, mkS_len, setRow_len]; done);conv=>whnf)
              iterate 2 (apply rq_s rfl;conv=>whnf)
              (apply rq_s (by simp only [lnm, mkS_len, setRow_len]; done);conv=>whnf)
              (refine rq_s (by (((first | (simp [maxBytes, subA]; done) | (simp [maxBytes, subA]; omega) | (simp only [List.length_append, List.length_cons, List.length_nil, decide_eq_true_eq, List.length_map, Bool.and_eq_true]; rw [wrap64 (by omega) (by omega)]; first | done | omega | (refine ⟨by rfl, ?_⟩; omega)))))) ?_;conv=>whnf)
              (refine appf_s intR rfl ?_;conv=>whnf)
              iterate 2 (refine ChkS.mk (by kernel_rfl) ?_;conv=>whnf)
              (refine fac_s (fun hf => ?_);conv=>whnf)
              (refine ChkS.mk (by kernel_rfl) ?_;conv=>whnf)
              rotate_left)
          | ( iterate 4 (apply br_f rfl;conv=>whnf)
              (apply br_t rfl;conv=>whnf)
              (apply rq_s rfl;conv=>whnf)
              (apply rq_s (by simp only [lnm, mkS_len, setRow_len]; done);conv=>whnf)
              iterate 2 (apply rq_s rfl;conv=>whnf)
              (apply rq_s (by simp only [lnm, mkS_len, setRow_len]; done);conv=>whnf)
              (refine rq_s (by (((first | (simp [maxBytes, subA]; done) | (simp [maxBytes, subA]; omega) | (simp only [List.length_append, List.length_cons, List.length_nil, decide_eq_true_eq, List.length_map, Bool.and_eq_true]; rw [wrap64 (by omega) (by omega)]; first | done | omega | (refine ⟨by rfl, ?_⟩; omega)))))) ?_;conv=>whnf)
              (refine appf_s intR rfl ?_;conv=>whnf)
              iterate 3 (refine ChkS.mk (by kernel_rfl) ?_;conv=>whnf)
              (refine handp_s 184 [none, none] ?_;conv=>whnf)
              iterate 3 (apply rq_s rfl;conv=>whnf)
              (apply rq_s (by simp only [lnm, mkS_len, setRow_len]; done);conv=>whnf)
              (apply rq_s rfl;conv=>whnf)
              (focus (apply callpe_s (f := 184); (· repeat' (first | (refine sub_all ?_; simp [List.length_map, mkS_len, setRow_len]; done) | exact sub_map _ _ _ _ | apply cons_eq | apply obj_eq | apply agg_eq | apply own_eq | apply ro_eq | apply rp_eq | apply fnc_eq | rfl)); refine callp_s (f := 184) rfl (c184 _ _ (by first | omega | (dsimp only; omega) | (simp; omega)) (by first | omega | (dsimp only; omega) | (simp; omega)) (by first | omega | (dsimp only; omega) | (simp; omega))) ?_;conv=>whnf))
              (refine ChkS.mk (by kernel_rfl) ?_;conv=>whnf)
              (apply rq_s rfl;conv=>whnf)
              (refine ChkS.mk (by kernel_rfl) ?_;conv=>whnf)
              (apply rq_s (by simp only [lnm, mkS_len, setRow_len]; done);conv=>whnf)
              iterate 2 (apply rq_s rfl;conv=>whnf)
              (apply rq_s (by simp only [lnm, mkS_len, setRow_len]; done);conv=>whnf)
              (refine rq_s (by (((first | (simp [maxBytes, subA]; done) | (simp [maxBytes, subA]; omega) | (simp only [List.length_append, List.length_cons, List.length_nil, decide_eq_true_eq, List.length_map, Bool.and_eq_true]; rw [wrap64 (by omega) (by omega)]; first | done | omega | (refine ⟨by rfl, ?_⟩; omega)))))) ?_;conv=>whnf)
              (refine appf_s intR rfl ?_;conv=>whnf)
              iterate 2 (refine ChkS.mk (by kernel_rfl) ?_;conv=>whnf)
              (refine fac_s (fun hf => ?_);conv=>whnf)
              (refine ChkS.mk (by kernel_rfl) ?_;conv=>whnf)
              rotate_left)
          | ( (apply br_f rfl;conv=>whnf)
              (apply br_t rfl;conv=>whnf)
              (apply rq_s rfl;conv=>whnf)
              (apply rq_s (by simp only [lnm, mkS_len, setRow_len]; done);conv=>whnf)
              iterate 2 (apply rq_s rfl;conv=>whnf)
              (apply rq_s (by simp only [lnm, mkS_len, setRow_len]; done);conv=>whnf)
              (refine rq_s (by (((first | (simp [maxBytes, subA]; done) | (simp [maxBytes, subA]; omega) | (simp only [List.length_append, List.length_cons, List.length_nil, decide_eq_true_eq, List.length_map, Bool.and_eq_true]; rw [wrap64 (by omega) (by omega)]; first | done | omega | (refine ⟨by rfl, ?_⟩; omega)))))) ?_;conv=>whnf)
              (refine appf_s intR rfl ?_;conv=>whnf)
              (refine ChkS.mk (by kernel_rfl) ?_;conv=>whnf)
              rotate_left))
      all_goals try refine head_s (LS.mk (i + 1) _ _) ⟨⟨hn, hc⟩, by simp only; omega⟩ (by rw [wrap64 (by omega) (by omega)]; rfl) ?_
      all_goals first
        | (simp [cstep, stStep, flat_snoc, flatP, flatK, subA, intR, List.take_of_length_le, lastM_map, innF, wc, wd, wt, P]; done)
        | (simp [cstep, stStep, flat_snoc, flatP, flatK, subA, intR, List.take_of_length_le, lastM_map, innF, wc, wd, wt]; done)
        | (simp only [P.2.1, P.2.2.1]; simp [cstep, stStep, flat_snoc, flatP, flatK, subA, intR, List.take_of_length_le, lastM_map, innF, wc, wd, wt]; done)
        | (have ph : ((lastS st).2.1).toNat < c.length := by omega
           simp only [P.2.1, P.2.2.2.2.1, P.2.2.2.2.2]
           simp [cstep, stStep, flat_snoc, flatP, flatK, subA, intR, List.take_of_length_le, lastM_map, innF, wc, wd, wt, List.set_append, ph]; done)
        | skip
    · have hlt : decide ((i : Int) < (xs.length : Int)) = false := by simp; omega
      obtain rfl : i = xs.length := by omega
      rw [List.drop_length] at hC
      conv => whnf
      (focus (apply br_f (by (simp; done));conv=>whnf))
      (apply rq_s rfl;conv=>whnf)
      (apply rq_s (by simp only [lnm, mkS_len, setRow_len]; done);conv=>whnf)
      iterate 2 (apply rq_s rfl;conv=>whnf)
      (apply rq_s (by simp only [lnm, mkS_len, setRow_len]; done);conv=>whnf)
      (apply rq_s (by (((simp [maxBytes, subA]; omega))));conv=>whnf)
      (refine appf_s intR rfl ?_;conv=>whnf)
      (apply rq_s (by simp only [lnm, mkS_len, setRow_len]; done);conv=>whnf)
      (apply rq_s rfl;conv=>whnf)
      (refine rows_s (by ((refine sub_all ?_; simp [List.length_map, mkS_len, setRow_len]; done))) ?_;conv=>whnf)
      rotate_left
      exact ⟨by rw [← hC]; exact Sh.refl _⟩
end I6

/- CompileItems: the program's function; the reference's parts: contracts. -/
set_option linter.unusedVariables false
set_option linter.unusedSimpArgs false
set_option maxRecDepth 100000
open Go Go.Abs Go.Proofs V1 H1 I1 I2 I3 I4 I5 I6
namespace I7

theorem open_of {xs : List Itm} (h : (chkF xs).2 = 0) : openF xs = ([], -1) := by
  have h1 := openGo_lt xs 0 [] (by omega)
  unfold chkF at h
  split at h
  · simp at h
  · rename_i h2
    unfold checkF at h2
    have h3 : (openF xs).2 = -1 := by
      rcases h1 with h1 | h1
      · exact h1
      · exfalso
        apply h2
        rw [if_neg (by unfold openF; omega)]
        exact h1.1
    have h4 : (openF xs).1 = [] := by
      cases h5 : (openF xs).1 with
      | nil => rfl
      | cons a l =>
        exfalso
        apply h2
        rw [if_pos ⟨by omega, by rw [h5]; simp⟩]
        omega
    exact Prod.ext h4 h3
def ciF (xs : List Itm) (a s : Int) : List Int × Int :=
  if askF xs ≠ 0 then ([], askF xs) else if (chkF xs).2 ≠ 0 then ([], (chkF xs).2) else if inR a 0 400 = false ∨ inR s 1 103 = false then ([], 4) else if a + sizeF xs > 400 then ([], 7) else (compF xs a s, 0)
def ciV (r : List Int × Int) : AV := .tup [ownI r.1, .int .i64 r.2]
section
variable {xs : List Itm} {a s : Int}
theorem ci_ask (h : askF xs ≠ 0) : ciF xs a s = ([], askF xs) := by rw [ciF, if_pos h]
theorem ci_chk (h : askF xs = 0) (h2 : (chkF xs).2 ≠ 0) : ciF xs a s = ([], (chkF xs).2) := by rw [ciF, if_neg (by omega), if_pos h2]
theorem ci_r (h : askF xs = 0) (h2 : (chkF xs).2 = 0) (h3 : inR a 0 400 = false ∨ inR s 1 103 = false) : ciF xs a s = ([], 4) := by rw [ciF, if_neg (by omega), if_neg (by omega), if_pos h3]
theorem ci_f (h : askF xs = 0) (h2 : (chkF xs).2 = 0) (h3 : inR a 0 400 = true) (h4 : inR s 1 103 = true) (h5 : a + sizeF xs > 400) : ciF xs a s = ([], 7) := by rw [ciF, if_neg (by omega), if_neg (by omega), if_neg (by simp [h3, h4]), if_pos h5]
theorem ci_0 (h : askF xs = 0) (h2 : (chkF xs).2 = 0) (h3 : inR a 0 400 = true) (h4 : inR s 1 103 = true) (h5 : ¬ a + sizeF xs > 400) : ciF xs a s = (compF xs a s, 0) := by rw [ciF, if_neg (by omega), if_neg (by omega), if_neg (by simp [h3, h4]), if_neg h5]
end
theorem ci_sh (n : Int) : Sh (.tup [.emp, .int .i64 n]) (ciV ([], n)) := Sh.tup ⟨Sh.emp_own _ _, Sh.refl _, trivial⟩

theorem c58 (xs : List Itm) (a s : Int) : Con Tryz.prog 58 [roT xs, .int .i64 a, .int .i64 s] (undefs [roT xs, .int .i64 a, .int .i64 s]) (ciV (ciF xs a s)) := by
  have hc := c116 xs
  generalize hq : (if askF xs = 0 then (chkF xs).1 else 0) = q at hc
  by_cases h0 : askF xs = 0
  · rw [if_pos h0] at hc
    have hl := askF_0 h0
    have hz := szF_le xs
    have hw : inR a 0 400 = true → IntKind.i64.wrap (a + sizeF xs) = a + sizeF xs := fun e => by
      have := inR_t e
      have := hl.1
      exact wrap64 (by unfold sizeF; omega) (by unfold sizeF; omega)
    refine Con.ev 37 T_ok mix Tryz.func58 rfl rfl rfl rfl [.tmp 6, .tmp 7] rfl ?_
    conv => whnf
    (apply rq_s rfl;conv=>whnf)
    (apply lend_s;conv=>whnf)
    (apply rows_s rfl;conv=>whnf)
    (refine call_s (hc ..) ?_;conv=>whnf)
    iterate 2 (refine fac_s (fun hf => ?_);conv=>whnf)
    (refine br_s ?_ ?_ <;> intro hb <;> (try simp only [cln] at hb) <;> conv=>whnf)
    iterate 2 (apply rq_s rfl;conv=>whnf)
    rotate_left
    iterate 3 (apply rq_s rfl;conv=>whnf)
    (apply lend_s;conv=>whnf)
    (refine call_s (c57 ..) ?_;conv=>whnf)
    (refine br_s ?_ ?_ <;> intro hb <;> (try simp only [cln] at hb) <;> conv=>whnf)
    iterate 4 (apply br_t rfl;conv=>whnf)
    iterate 2 (apply rq_s rfl;conv=>whnf)
    rotate_left
    (apply br_f rfl;conv=>whnf)
    iterate 3 (apply rq_s rfl;conv=>whnf)
    (apply lend_s;conv=>whnf)
    (refine call_s (c57 ..) ?_;conv=>whnf)
    (apply br_f rfl;conv=>whnf)
    (refine br_s ?_ ?_ <;> intro hb <;> (try simp only [cln] at hb) <;> conv=>whnf)
    iterate 2 (apply rq_s rfl;conv=>whnf)
    rotate_left
    (apply rq_s rfl;conv=>whnf)
    (apply lend_s;conv=>whnf)
    (apply rows_s rfl;conv=>whnf)
    (refine call_s (c117 _ (by first | omega | (dsimp only; omega) | (simp; omega))) ?_;conv=>whnf)
    (refine fac_s (fun hf => ?_);conv=>whnf)
    (refine br_s ?_ ?_ <;> intro hb <;> (try simp only [cln] at hb) <;> conv=>whnf)
    iterate 2 (apply rq_s rfl;conv=>whnf)
    rotate_left
    iterate 3 (apply rq_s rfl;conv=>whnf)
    (apply lend_s;conv=>whnf)
    (apply rows_s rfl;conv=>whnf)
    (refine call_s (c118 _ _ _ hl.1 hl.2 (open_of (by assumption)) (inR_t (by assumption)) (inR_t (by assumption))) ?_;conv=>whnf)
    (refine fac_s (fun hf => ?_);conv=>whnf)
    (apply rq_s (by simp only [lnm, mkS_len, setRow_len]; done);conv=>whnf)
    iterate 2 (apply rq_s rfl;conv=>whnf)
    (refine rows_s (by ((refine sub_all ?_; simp [List.length_map, mkS_len, setRow_len]; done))) ?_;conv=>whnf)
    rotate_left
    all_goals first
      | exact ⟨by rw [ci_chk h0 (by assumption)]; exact ci_sh _⟩
      | exact ⟨by rw [ci_r h0 (by assumption) (.inl (by assumption))]; exact ci_sh _⟩
      | exact ⟨by rw [ci_r h0 (by assumption) (.inr (by assumption))]; exact ci_sh _⟩
      | exact ⟨by rw [ci_f h0 (by assumption) (by assumption) (by assumption) (by rw [hw (by assumption)] at hb; exact hb)]; exact ci_sh _⟩
      | exact ⟨by rw [ci_0 h0 (by assumption) (by assumption) (by assumption) (by rw [hw (by assumption)] at hb; omega)]; exact Sh.refl _⟩
  · rw [if_neg h0] at hc
    refine Con.ev 37 T_ok mix Tryz.func58 rfl rfl rfl rfl [.tmp 6, .tmp 7] rfl ?_
    conv => whnf
    (apply rq_s rfl;conv=>whnf)
    (apply lend_s;conv=>whnf)
    (apply rows_s rfl;conv=>whnf)
    (refine call_s (hc ..) ?_;conv=>whnf)
    iterate 2 (refine fac_s (fun hf => ?_);conv=>whnf)
    (refine br_s ?_ ?_ <;> intro hb <;> (try simp only [cln] at hb) <;> conv=>whnf)
    iterate 2 (apply rq_s rfl;conv=>whnf)
    rotate_left
    iterate 3 (apply rq_s rfl;conv=>whnf)
    (apply lend_s;conv=>whnf)
    rotate_left
    · exact ⟨by rw [ci_ask h0]; exact ci_sh _⟩
    · exact absurd hb h0
end I7

/- The reference's words of the kernel; the parts of its compiler: contracts. -/
set_option linter.unusedVariables false
set_option linter.unusedSimpArgs false
set_option maxRecDepth 100000
open Go Go.Abs Go.Proofs V1 H1 K1 K2 K3 I1 I2 I3 I4 I5 I6 I7
namespace I8


def wnoP (nm : List UInt8) (w : Wd) : Bool := decide (w.nm = nm) && decide (w.k ≠ 5)
def wnoF (nm : List UInt8) : Int := findI (wnoP nm) kernelW + 1


theorem c225 (nm : List UInt8) : Con Tryz.prog 225 [.str nm] (undefs [.str nm]) (.int .i64 (wnoF nm)) := by
  have h83 := kernelW_len
  refine Con.ev 29 T_ok mix Tryz.func225 rfl rfl rfl rfl [.tmp 2] rfl ?_
  conv => whnf
  (apply lend_s;conv=>whnf)
  (refine call_s (c221 ..) ?_;conv=>whnf)
  (refine fac_s (fun hf => ?_);conv=>whnf)
  rotate_left
  refine LoopG.auto (α := Nat) T_ok mix [0, 3, 4] (fun i => [(0, .str nm), (3, .ref 1 0 kernelW.length), (4, .int .i64 i)]) (fun _ => [(1, .live ⟨true, 0, zW, kernelW.map wdR⟩)]) (fun i => i ≤ 83 ∧ ∀ j, j < i → wnoP nm (kernelW.getD j default) = false) (fun i => 83 - i) ?_ ?_
  · conv => whnf
    (refine ChkS.mk (by kernel_rfl) ?_;conv=>whnf)
    rotate_left
    exact head_s 0 ⟨by omega, fun j hj => by omega⟩ (by simp) rfl
  · rintro i ⟨h1, h2⟩ _ _
    conv => whnf
    (refine br_s ?_ ?_ <;> intro hb <;> (try simp only [cln] at hb) <;> conv=>whnf)
    (apply rq_s rfl;conv=>whnf)
    (apply rq_s (by simp only [lnm, mkS_len, setRow_len]; done);conv=>whnf)
    (refine rq_s (by refine and_s rfl ?_; simp only [lnm]; omega) ?_;conv=>whnf)
    (apply rq_s rfl;conv=>whnf)
    (refine row_s (by ((try simp only [Int.toNat_natCast]); exact row_map wdR kernelW _ _ default (by omega))) ?_;conv=>whnf)
    (refine br_s ?_ ?_ <;> intro hb <;> (try simp only [cln] at hb) <;> conv=>whnf)
    iterate 2 (apply br_t rfl;conv=>whnf)
    (apply rq_s rfl;conv=>whnf)
    (apply rq_s (by simp only [lnm, mkS_len, setRow_len]; done);conv=>whnf)
    (refine rq_s (by refine and_s rfl ?_; simp only [lnm]; omega) ?_;conv=>whnf)
    (apply br_t rfl;conv=>whnf)
    (apply rq_s rfl;conv=>whnf)
    (apply br_t rfl;conv=>whnf)
    (refine row_s (by ((try simp only [Int.toNat_natCast]); exact row_map wdR kernelW _ _ default (by omega))) ?_;conv=>whnf)
    (apply br_t rfl;conv=>whnf)
    (refine br_s ?_ ?_ <;> intro hb <;> (try simp only [cln] at hb) <;> conv=>whnf)
    (apply rq_s rfl;conv=>whnf)
    rotate_left
    (refine ChkS.mk (by kernel_rfl) ?_;conv=>whnf)
    rotate_left
    iterate 7 (apply br_f rfl;conv=>whnf)
    (refine ChkS.mk (by kernel_rfl) ?_;conv=>whnf)
    rotate_left
    (apply rq_s rfl;conv=>whnf)
    rotate_left
    · rename_i q1 q2
      rw [Nat.zero_add] at q2 hb
      have hp : wnoP nm (kernelW.getD i default) = true := by simp only [wnoP, q2, decide_true, Bool.true_and, decide_eq_true_eq]; exact hb
      exact sh_s (by rw [wnoF, findI_hit default (by omega) hp h2, wrap64 (by omega) (by omega)])
    · rename_i q1 q2
      rw [Nat.zero_add] at q2 hb
      have hp : wnoP nm (kernelW.getD i default) = false := by
        unfold wnoP
        rw [hb]
        simp
      refine head_s (i + 1) ⟨⟨by omega, fun j hj => ?_⟩, by omega⟩ (by rw [wrap64 (by omega) (by omega)]; rfl) rfl
      by_cases hji : j = i
      · subst hji; exact hp
      · exact h2 j (by omega)
    · rw [Nat.zero_add] at hb
      have hp : wnoP nm (kernelW.getD i default) = false := by simp only [wnoP, hb, decide_false, Bool.false_and]
      refine head_s (i + 1) ⟨⟨by omega, fun j hj => ?_⟩, by omega⟩ (by rw [wrap64 (by omega) (by omega)]; rfl) rfl
      by_cases hji : j = i
      · subst hji; exact hp
      · exact h2 j (by omega)
    · exact sh_s (by rw [wnoF, findI_none default fun j hj => h2 j (by omega)]; rfl)
end I8

/- The reference's compiler: contracts. -/
set_option linter.unusedVariables false
set_option linter.unusedSimpArgs false
set_option maxRecDepth 100000
open Go Go.Abs Go.Proofs V1 H1 I1 I2 I3 I4 I5 I6 I7 I8
namespace I9

def mkR (m : Mk) : List AV := [.int .i64 m.1, .int .i64 m.2]
def mkV (m : Mk) : AV := .agg (mkR m)
abbrev zM : List AV := [.int .i64 0, .int .i64 0]
def madC (a : Int) (c : List Int) (ms : List Mk) : List AV := [.int .i64 a, ownI c, .own 0 zM (ms.map mkR)]
def roMk (ms : List Mk) : AV := .ro zM (ms.map mkR)
theorem w57 : Con Tryz.prog 225 [.str [40, 76, 73, 84, 41]] (undefs [.str [40, 76, 73, 84, 41]]) (.int .i64 57) := by
  have h := c225 [40, 76, 73, 84, 41]
  rw [show wnoF [40, 76, 73, 84, 41] = 57 by decide +kernel] at h
  exact h
theorem w58 : Con Tryz.prog 225 [.str [40, 66, 82, 65, 78, 67, 72, 41]] (undefs [.str [40, 66, 82, 65, 78, 67, 72, 41]]) (.int .i64 58) := by
  have h := c225 [40, 66, 82, 65, 78, 67, 72, 41]
  rw [show wnoF [40, 66, 82, 65, 78, 67, 72, 41] = 58 by decide +kernel] at h
  exact h
theorem w59 : Con Tryz.prog 225 [.str [40, 48, 66, 82, 65, 78, 67, 72, 41]] (undefs [.str [40, 48, 66, 82, 65, 78, 67, 72, 41]]) (.int .i64 59) := by
  have h := c225 [40, 48, 66, 82, 65, 78, 67, 72, 41]
  rw [show wnoF [40, 48, 66, 82, 65, 78, 67, 72, 41] = 59 by decide +kernel] at h
  exact h
theorem w60 : Con Tryz.prog 225 [.str [40, 68, 79, 41]] (undefs [.str [40, 68, 79, 41]]) (.int .i64 60) := by
  have h := c225 [40, 68, 79, 41]
  rw [show wnoF [40, 68, 79, 41] = 60 by decide +kernel] at h
  exact h
theorem w61 : Con Tryz.prog 225 [.str [40, 76, 79, 79, 80, 41]] (undefs [.str [40, 76, 79, 79, 80, 41]]) (.int .i64 61) := by
  have h := c225 [40, 76, 79, 79, 80, 41]
  rw [show wnoF [40, 76, 79, 79, 80, 41] = 61 by decide +kernel] at h
  exact h
theorem w62 : Con Tryz.prog 225 [.str [40, 43, 76, 79, 79, 80, 41]] (undefs [.str [40, 43, 76, 79, 79, 80, 41]]) (.int .i64 62) := by
  have h := c225 [40, 43, 76, 79, 79, 80, 41]
  rw [show wnoF [40, 43, 76, 79, 79, 80, 41] = 62 by decide +kernel] at h
  exact h
theorem w53 : Con Tryz.prog 225 [.str [69, 88, 73, 84]] (undefs [.str [69, 88, 73, 84]]) (.int .i64 53) := by
  have h := c225 [69, 88, 73, 84]
  rw [show wnoF [69, 88, 73, 84] = 53 by decide +kernel] at h
  exact h

theorem c250 (a : Int) (c : List Int) (ms : List Mk) (h1 : 0 ≤ a) (h2 : a ≤ 100000) (h3 : c.length ≤ 1000) :
    Con Tryz.prog 250 [.rp [.int .i64 a, roI c, roMk ms] 0] (undefs [.rp [.int .i64 a, roI c, roMk ms] 0]) (.int .i64 (a + c.length)) := by
  refine Con.ev 13 T_ok mix Tryz.func250 rfl rfl rfl rfl [.tmp 2] rfl ?_
  conv => whnf
  iterate 3 (refine ChkS.mk (by kernel_rfl) ?_;conv=>whnf)
  (apply rq_s rfl;conv=>whnf)
  (refine ChkS.mk (by kernel_rfl) ?_;conv=>whnf)
  (refine row_s (by (rfl)) ?_;conv=>whnf)
  iterate 3 (refine ChkS.mk (by kernel_rfl) ?_;conv=>whnf)
  (apply rq_s rfl;conv=>whnf)
  (refine ChkS.mk (by kernel_rfl) ?_;conv=>whnf)
  (refine row_s (by (rfl)) ?_;conv=>whnf)
  iterate 4 (refine ChkS.mk (by kernel_rfl) ?_;conv=>whnf)
  (apply rq_s rfl;conv=>whnf)
  (refine sh_s ?_; ((rw [wrap64 (by simp; omega) (by simp; omega)]; simp)))

theorem c224 (a : Int) (c l : List Int) (ms : List Mk) (h3 : c.length ≤ 1000) (h4 : l.length ≤ 1000) :
    Con Tryz.prog 224 [.obj (madC a c ms), roI l] [.obj (madC a (c ++ l) ms), .undef] (.tup []) := by
  refine Con.evP 13 [500000] rfl T_ok mix Tryz.func224 rfl rfl rfl rfl [] rfl ?_
  conv => whnf
  iterate 3 (apply rq_s rfl;conv=>whnf)
  (apply rq_s (by simp only [lnm, mkS_len, setRow_len]; done);conv=>whnf)
  (apply rq_s (by (((simp [maxBytes, subA]; omega))));conv=>whnf)
  (refine applm_s intR ?_;conv=>whnf)
  (apply rq_s rfl;conv=>whnf)
  (refine aftp_s (by rfl) ?_;conv=>whnf)
  iterate 2 (refine rows_s (by ((refine sub_all ?_; simp [List.length_map, mkS_len, setRow_len]; done))) ?_;conv=>whnf)
  rotate_left
  refine aftps_s (Sh.agg ⟨Sh.refl _, Sh.flat_map (fun _ => rfl) _, Sh.refl _, trivial⟩) ?_
  conv => whnf
  exact True.intro

theorem row_mark (ms : List Mk) (z : List AV) (e : 1 ≤ ms.length) (h1 : ms.length ≤ 1000) : rowA (ms.map mkR) (Int.toNat (IntKind.i64.wrap ((ms.length : Int) - 1))) z = [.int .i64 (lastM ms).1, .int .i64 (lastM ms).2] := by
  rw [wrap64 (by omega) (by omega), show ((ms.length : Int) - 1).toNat = ms.length - 1 by omega]
  exact row_map mkR ms _ _ (0, 0) (by omega)

theorem c248 (a : Int) (c : List Int) (ms : List Mk) (h1 : 1 ≤ ms.length) (h2 : ms.length ≤ 1000) :
    Con Tryz.prog 248 [.obj (madC a c ms)] [.obj (madC a c (ms.take (ms.length - 1)))] (mkV (lastM ms)) := by
  have w1 : IntKind.i64.wrap ((ms.length : Int) - 1) = (ms.length : Int) - 1 := wrap64 (by omega) (by omega)
  have w2 : (IntKind.i64.wrap ((ms.length : Int) - 1)).toNat = ms.length - 1 := by omega
  refine Con.evP 28 [500000] rfl T_ok mix Tryz.func248 rfl rfl rfl rfl [.cell 2 238] rfl ?_
  conv => whnf
  iterate 2 (apply rq_s rfl;conv=>whnf)
  (apply rq_s (by simp only [Bool.and_eq_true, decide_eq_true_eq, List.length_map]; omega);conv=>whnf)
  (apply rq_s (by simp only [lnm, mkS_len, setRow_len]; done);conv=>whnf)
  (refine rq_s (by refine and_s rfl ?_; simp only [lnm]; omega) ?_;conv=>whnf)
  (refine row_s (by ((try simp only [Nat.zero_add, List.length_map]); exact row_mark _ _ (by omega) (by omega))) ?_;conv=>whnf)
  (apply rq_s rfl;conv=>whnf)
  (apply rq_s (by simp only [Bool.and_eq_true, decide_eq_true_eq, List.length_map]; omega);conv=>whnf)
  (refine rq_s (by refine and_s rfl ?_; simp only [lnm]; omega) ?_;conv=>whnf)
  (apply rq_s (by simp only [lnm, mkS_len, setRow_len]; done);conv=>whnf)
  iterate 5 (apply rq_s rfl;conv=>whnf)
  (refine aftp_s (by rfl) ?_;conv=>whnf)
  (refine rows_s (by ((refine sub_all ?_; simp [List.length_map, mkS_len, setRow_len]; done))) ?_;conv=>whnf)
  (apply rows_s (by (exact sub_map _ _ _ _));conv=>whnf)
  (refine aftp_s (by ((simp [madC, ownI, w2, subA, List.map_take]))) ?_;conv=>whnf)
  exact True.intro


theorem c249 (a : Int) (c : List Int) (ms : List Mk) (i : Int) (h1 : 0 ≤ a) (h2 : a ≤ 100000) (h3 : c.length ≤ 1000) (h4 : 0 ≤ i) (h5 : i < c.length) :
    Con Tryz.prog 249 [.obj (madC a c ms), .int .i64 i] [.obj (madC a (c.set i.toNat (a + c.length)) ms), .undef] (.tup []) := by
  refine Con.evP 12 [500000] rfl T_ok mix Tryz.func249 rfl rfl rfl rfl [] rfl ?_
  conv => whnf
  iterate 3 (refine ChkS.mk (by kernel_rfl) ?_;conv=>whnf)
  (apply rq_s rfl;conv=>whnf)
  iterate 4 (refine ChkS.mk (by kernel_rfl) ?_;conv=>whnf)
  (refine handp_s 250 [none] ?_;conv=>whnf)
  iterate 3 (apply rq_s rfl;conv=>whnf)
  (apply rq_s (by simp only [lnm, mkS_len, setRow_len]; done);conv=>whnf)
  iterate 2 (apply rq_s rfl;conv=>whnf)
  (apply rq_s (by simp only [lnm, mkS_len, setRow_len]; done);conv=>whnf)
  (apply rq_s rfl;conv=>whnf)
  (focus (apply callpe_s (f := 250); (· repeat' (first | (refine sub_all ?_; simp [List.length_map, mkS_len, setRow_len]; done) | exact sub_map _ _ _ _ | apply cons_eq | apply obj_eq | apply agg_eq | apply own_eq | apply ro_eq | apply rp_eq | apply fnc_eq | rfl)); refine callp_s (f := 250) rfl (c250 _ _ _ h1 h2 h3) ?_;conv=>whnf))
  (refine ChkS.mk (by kernel_rfl) ?_;conv=>whnf)
  (apply rq_s (by simp only [Bool.and_eq_true, decide_eq_true_eq, List.length_map]; omega);conv=>whnf)
  (apply rq_s (by simp only [lnm, mkS_len, setRow_len]; done);conv=>whnf)
  (refine rq_s (by refine and_s rfl ?_; simp only [lnm]; omega) ?_;conv=>whnf)
  (refine ChkS.mk (by kernel_rfl) ?_;conv=>whnf)
  (apply rows_s (by ((rw [Nat.zero_add, setRow_int _ _ _ _ (by omega)])));conv=>whnf)
  (refine ChkS.mk (by kernel_rfl) ?_;conv=>whnf)
  (refine fac_s (fun hf => ?_);conv=>whnf)
  (refine aftp_s (by rfl) ?_;conv=>whnf)
  iterate 2 (refine rows_s (by ((refine sub_all ?_; simp [List.length_map, mkS_len, setRow_len]; done))) ?_;conv=>whnf)
  (refine aftp_s (by rfl) ?_;conv=>whnf)
  exact True.intro
end I9

/- The reference's compiler: an item; contracts. -/
set_option linter.unusedVariables false
set_option linter.unusedSimpArgs false
set_option maxRecDepth 100000
open Go Go.Abs Go.Proofs V1 H1 I1 I2 I3 I4 I5 I6 I7 I8 I9
namespace I10


theorem appMm {K : Nat → List (List AV) → Nat → Prop} {lvl l : Nat} {xs : List Mk} {p q : Int} (k : K lvl ((xs ++ [(p, q)]).map mkR) (xs ++ [(p, q)]).length) :
    AppG lvl (subA (xs.map mkR) 0 (xs.map mkR).length ++ (l, subA [[.int .i64 p, .int .i64 q]] 0 1).snd) ((xs.map mkR).length + (l, subA [[AV.int .i64 p, .int .i64 q]] 0 1).snd.length) K := appfm_s mkR rfl k

set_option maxHeartbeats 1000000 in
theorem item (a self : Int) (x : Itm) (c : List Int) (ms : List Mk) (hk : 1 ≤ x.k ∧ x.k ≤ 13) (h1 : 0 ≤ a) (h2 : a ≤ 1000) (h3 : c.length ≤ 500) (h4 : ms.length ≤ 500)
    (hp : x.k = 4 ∨ x.k = 5 ∨ x.k = 7 ∨ x.k = 8 ∨ x.k = 9 ∨ x.k = 11 ∨ x.k = 12 → 1 ≤ ms.length) (hh : x.k = 4 ∨ x.k = 5 ∨ x.k = 9 → 0 ≤ (lastM ms).1 ∧ (lastM ms).1 < c.length) :
    Con Tryz.prog 223 [.obj (madC a c ms), itV x, .int .i64 self] [.obj (madC a (cstep a self x c ms).1 (cstep a self x c ms).2), .undef, .undef] (.tup []) := by
  obtain ⟨k, v⟩ := x
  simp only at hk hp hh
  have wc : IntKind.i64.wrap ((c.length : Int) + 2 - 1) = c.length + 1 := (wrap64 (by omega) (by omega)).trans (by omega)
  have wd : ∀ a b : Int, IntKind.i64.wrap (((c ++ [a, b]).length : Int) - 1) = c.length + 1 := fun a b => (wrap64 (by simp; omega) (by simp; omega)).trans (by simp; omega)
  have : k = 1 ∨ k = 2 ∨ k = 3 ∨ k = 4 ∨ k = 5 ∨ k = 6 ∨ k = 7 ∨ k = 8 ∨ k = 9 ∨ k = 10 ∨ k = 11 ∨ k = 12 ∨ k = 13 := by omega
  rcases this with rfl | rfl | rfl | rfl | rfl | rfl | rfl | rfl | rfl | rfl | rfl | rfl | rfl
  all_goals (try have hp := hp (by omega))
  all_goals (try have hh := hh (by omega))
  all_goals (
    refine Con.evP 188 [500000] rfl T_ok mix Tryz.func223 rfl rfl rfl rfl [] rfl ?_
    conv => whnf
    iterate 2 (apply rq_s rfl;conv=>whnf)
    first
      | ( (apply br_t rfl;conv=>whnf)
          iterate 2 (apply rq_s rfl;conv=>whnf)
          (refine handp_s 224 [some 3, none] ?_;conv=>whnf)
          (apply rq_s rfl;conv=>whnf)
          (apply rq_s (by simp only [lnm, mkS_len, setRow_len]; done);conv=>whnf)
          (apply rq_s rfl;conv=>whnf)
          (focus (apply callpe_s (f := 224); (· repeat' (first | (refine sub_all ?_; simp [List.length_map, mkS_len, setRow_len]; done) | exact sub_map _ _ _ _ | apply cons_eq | apply obj_eq | apply agg_eq | apply own_eq | apply ro_eq | apply rp_eq | apply fnc_eq | rfl)); refine callp_s (f := 224) rfl (c224 _ _ [v] _ (by first | omega | (dsimp only; omega) | (simp; omega)) (by simp)) ?_;conv=>whnf))
          (refine aftp_s (by rfl) ?_;conv=>whnf)
          iterate 2 (refine rows_s (by ((refine sub_all ?_; simp [List.length_map, mkS_len, setRow_len]; done))) ?_;conv=>whnf)
          (refine aftp_s (by rfl) ?_;conv=>whnf)
          exact True.intro)
      | ( iterate 2 (apply br_f rfl;conv=>whnf)
          (apply br_t rfl;conv=>whnf)
          iterate 2 (refine ChkS.mk (by kernel_rfl) ?_;conv=>whnf)
          (apply rq_s rfl;conv=>whnf)
          (refine call_s (w57 ..) ?_;conv=>whnf)
          (refine ChkS.mk (by kernel_rfl) ?_;conv=>whnf)
          (apply rq_s rfl;conv=>whnf)
          iterate 2 (refine ChkS.mk (by kernel_rfl) ?_;conv=>whnf)
          (apply rq_s rfl;conv=>whnf)
          (refine ChkS.mk (by kernel_rfl) ?_;conv=>whnf)
          (refine handp_s 224 [some 3, none] ?_;conv=>whnf)
          (apply rq_s rfl;conv=>whnf)
          (apply rq_s (by simp only [lnm, mkS_len, setRow_len]; done);conv=>whnf)
          (apply rq_s rfl;conv=>whnf)
          (focus (apply callpe_s (f := 224); (· repeat' (first | (refine sub_all ?_; simp [List.length_map, mkS_len, setRow_len]; done) | exact sub_map _ _ _ _ | apply cons_eq | apply obj_eq | apply agg_eq | apply own_eq | apply ro_eq | apply rp_eq | apply fnc_eq | rfl)); refine callp_s (f := 224) rfl (c224 _ _ [57, v] _ (by first | omega | (dsimp only; omega) | (simp; omega)) (by simp)) ?_;conv=>whnf))
          (refine ChkS.mk (by kernel_rfl) ?_;conv=>whnf)
          (refine fac_s (fun hf => ?_);conv=>whnf)
          (refine aftp_s (by rfl) ?_;conv=>whnf)
          iterate 2 (refine rows_s (by ((refine sub_all ?_; simp [List.length_map, mkS_len, setRow_len]; done))) ?_;conv=>whnf)
          (refine aftp_s (by rfl) ?_;conv=>whnf)
          exact True.intro)
      | ( iterate 3 (apply br_f rfl;conv=>whnf)
          (apply br_t rfl;conv=>whnf)
          (apply rq_s rfl;conv=>whnf)
          (apply lend_s;conv=>whnf)
          (refine call_s (w59 ..) ?_;conv=>whnf)
          (apply rq_s rfl;conv=>whnf)
          (refine handp_s 224 [some 3, none] ?_;conv=>whnf)
          (apply rq_s rfl;conv=>whnf)
          (apply rq_s (by simp only [lnm, mkS_len, setRow_len]; done);conv=>whnf)
          (apply rq_s rfl;conv=>whnf)
          (focus (apply callpe_s (f := 224); (· repeat' (first | (refine sub_all ?_; simp [List.length_map, mkS_len, setRow_len]; done) | exact sub_map _ _ _ _ | apply cons_eq | apply obj_eq | apply agg_eq | apply own_eq | apply ro_eq | apply rp_eq | apply fnc_eq | rfl)); refine callp_s (f := 224) rfl (c224 _ _ [59, 0] _ (by first | omega | (dsimp only; omega) | (simp; omega)) (by simp)) ?_;conv=>whnf))
          (refine fac_s (fun hf => ?_);conv=>whnf)
          iterate 4 (refine ChkS.mk (by kernel_rfl) ?_;conv=>whnf)
          (apply rq_s rfl;conv=>whnf)
          iterate 4 (refine ChkS.mk (by kernel_rfl) ?_;conv=>whnf)
          (apply rq_s rfl;conv=>whnf)
          iterate 4 (refine ChkS.mk (by kernel_rfl) ?_;conv=>whnf)
          (apply rq_s rfl;conv=>whnf)
          (refine ChkS.mk (by kernel_rfl) ?_;conv=>whnf)
          (apply rq_s rfl;conv=>whnf)
          (refine ChkS.mk (by kernel_rfl) ?_;conv=>whnf)
          (apply rq_s (by simp only [lnm, mkS_len, setRow_len]; done);conv=>whnf)
          iterate 2 (apply rq_s rfl;conv=>whnf)
          (apply rq_s (by simp only [lnm, mkS_len, setRow_len]; done);conv=>whnf)
          (apply rq_s (by (((simp [maxBytes, subA]; omega))));conv=>whnf)
          (refine appMm ?_;conv=>whnf)
          iterate 2 (refine ChkS.mk (by kernel_rfl) ?_;conv=>whnf)
          (apply rq_s rfl;conv=>whnf)
          iterate 2 (refine ChkS.mk (by kernel_rfl) ?_;conv=>whnf)
          (refine aftp_s (by rfl) ?_;conv=>whnf)
          iterate 2 (refine rows_s (by ((refine sub_all ?_; simp [List.length_map, mkS_len, setRow_len]; done))) ?_;conv=>whnf)
          (refine aftp_s (by ((simp [cstep, madC, ownI, mkR, subA, List.take_of_length_le, wc, wd, List.map_take]))) ?_;conv=>whnf)
          exact True.intro)
      | ( iterate 4 (apply br_f rfl;conv=>whnf)
          (apply br_t rfl;conv=>whnf)
          (refine handp_s 248 [some 3] ?_;conv=>whnf)
          (apply rq_s rfl;conv=>whnf)
          (focus (apply callpe_s (f := 248); (· repeat' (first | (refine sub_all ?_; simp [List.length_map, mkS_len, setRow_len]; done) | exact sub_map _ _ _ _ | apply cons_eq | apply obj_eq | apply agg_eq | apply own_eq | apply ro_eq | apply rp_eq | apply fnc_eq | rfl)); refine callp_s (f := 248) rfl (c248 _ _ _ (by first | omega | (dsimp only; omega) | (simp; omega)) (by first | omega | (dsimp only; omega) | (simp; omega))) ?_;conv=>whnf))
          iterate 2 (refine fac_s (fun hf => ?_);conv=>whnf)
          (apply rq_s rfl;conv=>whnf)
          (apply lend_s;conv=>whnf)
          (refine call_s (w58 ..) ?_;conv=>whnf)
          (apply rq_s rfl;conv=>whnf)
          (refine handp_s 224 [some 3, none] ?_;conv=>whnf)
          (apply rq_s rfl;conv=>whnf)
          (apply rq_s (by simp only [lnm, mkS_len, setRow_len]; done);conv=>whnf)
          (apply rq_s rfl;conv=>whnf)
          (focus (apply callpe_s (f := 224); (· repeat' (first | (refine sub_all ?_; simp [List.length_map, mkS_len, setRow_len]; done) | exact sub_map _ _ _ _ | apply cons_eq | apply obj_eq | apply agg_eq | apply own_eq | apply ro_eq | apply rp_eq | apply fnc_eq | rfl)); refine callp_s (f := 224) rfl (c224 _ _ [58, 0] _ (by first | omega | (dsimp only; omega) | (simp; omega)) (by simp)) ?_;conv=>whnf))
          (refine fac_s (fun hf => ?_);conv=>whnf)
          (apply rq_s rfl;conv=>whnf)
          (refine handp_s 249 [some 3, none] ?_;conv=>whnf)
          iterate 2 (apply rq_s rfl;conv=>whnf)
          (focus (apply callpe_s (f := 249); (· repeat' (first | (refine sub_all ?_; simp [List.length_map, mkS_len, setRow_len]; done) | exact sub_map _ _ _ _ | apply cons_eq | apply obj_eq | apply agg_eq | apply own_eq | apply ro_eq | apply rp_eq | apply fnc_eq | rfl)); refine callp_s (f := 249) rfl (c249 _ _ _ _ (by first | omega | (dsimp only; omega) | (simp; omega)) (by first | omega | (dsimp only; omega) | (simp; omega)) (by first | omega | (dsimp only; omega) | (simp; omega)) (by first | omega | (dsimp only; omega) | (simp; omega)) (by first | omega | (dsimp only; omega) | (simp; omega))) ?_;conv=>whnf))
          iterate 4 (refine ChkS.mk (by kernel_rfl) ?_;conv=>whnf)
          (apply rq_s rfl;conv=>whnf)
          iterate 4 (refine ChkS.mk (by kernel_rfl) ?_;conv=>whnf)
          (apply rq_s rfl;conv=>whnf)
          iterate 4 (refine ChkS.mk (by kernel_rfl) ?_;conv=>whnf)
          (apply rq_s rfl;conv=>whnf)
          (refine ChkS.mk (by kernel_rfl) ?_;conv=>whnf)
          (apply rq_s rfl;conv=>whnf)
          (refine ChkS.mk (by kernel_rfl) ?_;conv=>whnf)
          (apply rq_s (by simp only [lnm, mkS_len, setRow_len]; done);conv=>whnf)
          iterate 2 (apply rq_s rfl;conv=>whnf)
          (apply rq_s (by simp only [lnm, mkS_len, setRow_len]; done);conv=>whnf)
          (apply rq_s (by (((simp [maxBytes, subA]; omega))));conv=>whnf)
          (refine appMm ?_;conv=>whnf)
          iterate 2 (refine ChkS.mk (by kernel_rfl) ?_;conv=>whnf)
          (apply rq_s rfl;conv=>whnf)
          iterate 2 (refine ChkS.mk (by kernel_rfl) ?_;conv=>whnf)
          (refine aftp_s (by rfl) ?_;conv=>whnf)
          iterate 2 (refine rows_s (by ((refine sub_all ?_; simp [List.length_map, mkS_len, setRow_len]; done))) ?_;conv=>whnf)
          (refine aftp_s (by ((simp [cstep, madC, ownI, mkR, subA, List.take_of_length_le, wc, wd, List.map_take]))) ?_;conv=>whnf)
          exact True.intro)
      | ( iterate 5 (apply br_f rfl;conv=>whnf)
          (apply br_t rfl;conv=>whnf)
          (refine handp_s 248 [some 3] ?_;conv=>whnf)
          (apply rq_s rfl;conv=>whnf)
          (focus (apply callpe_s (f := 248); (· repeat' (first | (refine sub_all ?_; simp [List.length_map, mkS_len, setRow_len]; done) | exact sub_map _ _ _ _ | apply cons_eq | apply obj_eq | apply agg_eq | apply own_eq | apply ro_eq | apply rp_eq | apply fnc_eq | rfl)); refine callp_s (f := 248) rfl (c248 _ _ _ (by first | omega | (dsimp only; omega) | (simp; omega)) (by first | omega | (dsimp only; omega) | (simp; omega))) ?_;conv=>whnf))
          (refine handp_s 249 [some 3, none] ?_;conv=>whnf)
          iterate 2 (apply rq_s rfl;conv=>whnf)
          (focus (apply callpe_s (f := 249); (· repeat' (first | (refine sub_all ?_; simp [List.length_map, mkS_len, setRow_len]; done) | exact sub_map _ _ _ _ | apply cons_eq | apply obj_eq | apply agg_eq | apply own_eq | apply ro_eq | apply rp_eq | apply fnc_eq | rfl)); refine callp_s (f := 249) rfl (c249 _ _ _ _ (by first | omega | (dsimp only; omega) | (simp; omega)) (by first | omega | (dsimp only; omega) | (simp; omega)) (by first | omega | (dsimp only; omega) | (simp; omega)) (by first | omega | (dsimp only; omega) | (simp; omega)) (by first | omega | (dsimp only; omega) | (simp; omega))) ?_;conv=>whnf))
          iterate 2 (refine fac_s (fun hf => ?_);conv=>whnf)
          (refine aftp_s (by rfl) ?_;conv=>whnf)
          iterate 2 (refine rows_s (by ((refine sub_all ?_; simp [List.length_map, mkS_len, setRow_len]; done))) ?_;conv=>whnf)
          (refine aftp_s (by rfl) ?_;conv=>whnf)
          exact True.intro)
      | ( iterate 6 (apply br_f rfl;conv=>whnf)
          (apply br_t rfl;conv=>whnf)
          iterate 4 (refine ChkS.mk (by kernel_rfl) ?_;conv=>whnf)
          (apply rq_s rfl;conv=>whnf)
          iterate 3 (refine ChkS.mk (by kernel_rfl) ?_;conv=>whnf)
          (refine handp_s 250 [none] ?_;conv=>whnf)
          iterate 3 (apply rq_s rfl;conv=>whnf)
          (apply rq_s (by simp only [lnm, mkS_len, setRow_len]; done);conv=>whnf)
          iterate 2 (apply rq_s rfl;conv=>whnf)
          (apply rq_s (by simp only [lnm, mkS_len, setRow_len]; done);conv=>whnf)
          (apply rq_s rfl;conv=>whnf)
          (focus (apply callpe_s (f := 250); (· repeat' (first | (refine sub_all ?_; simp [List.length_map, mkS_len, setRow_len]; done) | exact sub_map _ _ _ _ | apply cons_eq | apply obj_eq | apply agg_eq | apply own_eq | apply ro_eq | apply rp_eq | apply fnc_eq | rfl)); refine callp_s (f := 250) rfl (c250 _ _ _ (by first | omega | (dsimp only; omega) | (simp; omega)) (by first | omega | (dsimp only; omega) | (simp; omega)) (by first | omega | (dsimp only; omega) | (simp; omega))) ?_;conv=>whnf))
          (refine ChkS.mk (by kernel_rfl) ?_;conv=>whnf)
          (apply rq_s rfl;conv=>whnf)
          (refine ChkS.mk (by kernel_rfl) ?_;conv=>whnf)
          (apply rq_s rfl;conv=>whnf)
          (refine ChkS.mk (by kernel_rfl) ?_;conv=>whnf)
          (apply rq_s (by simp only [lnm, mkS_len, setRow_len]; done);conv=>whnf)
          iterate 2 (apply rq_s rfl;conv=>whnf)
          (apply rq_s (by simp only [lnm, mkS_len, setRow_len]; done);conv=>whnf)
          (apply rq_s (by (((simp [maxBytes, subA]; omega))));conv=>whnf)
          (refine appMm ?_;conv=>whnf)
          iterate 2 (refine ChkS.mk (by kernel_rfl) ?_;conv=>whnf)
          (apply rq_s rfl;conv=>whnf)
          iterate 2 (refine ChkS.mk (by kernel_rfl) ?_;conv=>whnf)
          (refine fac_s (fun hf => ?_);conv=>whnf)
          (refine aftp_s (by rfl) ?_;conv=>whnf)
          iterate 2 (refine rows_s (by ((refine sub_all ?_; simp [List.length_map, mkS_len, setRow_len]; done))) ?_;conv=>whnf)
          (refine aftp_s (by rfl) ?_;conv=>whnf)
          exact True.intro)
      | ( iterate 7 (apply br_f rfl;conv=>whnf)
          (apply br_t rfl;conv=>whnf)
          (apply rq_s rfl;conv=>whnf)
          (apply lend_s;conv=>whnf)
          (refine call_s (w59 ..) ?_;conv=>whnf)
          (refine handp_s 248 [some 3] ?_;conv=>whnf)
          (apply rq_s rfl;conv=>whnf)
          (focus (apply callpe_s (f := 248); (· repeat' (first | (refine sub_all ?_; simp [List.length_map, mkS_len, setRow_len]; done) | exact sub_map _ _ _ _ | apply cons_eq | apply obj_eq | apply agg_eq | apply own_eq | apply ro_eq | apply rp_eq | apply fnc_eq | rfl)); refine callp_s (f := 248) rfl (c248 _ _ _ (by first | omega | (dsimp only; omega) | (simp; omega)) (by first | omega | (dsimp only; omega) | (simp; omega))) ?_;conv=>whnf))
          (apply rq_s rfl;conv=>whnf)
          (refine handp_s 224 [some 3, none] ?_;conv=>whnf)
          (apply rq_s rfl;conv=>whnf)
          (apply rq_s (by simp only [lnm, mkS_len, setRow_len]; done);conv=>whnf)
          (apply rq_s rfl;conv=>whnf)
          (focus (apply callpe_s (f := 224); (· repeat' (first | (refine sub_all ?_; simp [List.length_map, mkS_len, setRow_len]; done) | exact sub_map _ _ _ _ | apply cons_eq | apply obj_eq | apply agg_eq | apply own_eq | apply ro_eq | apply rp_eq | apply fnc_eq | rfl)); refine callp_s (f := 224) rfl (c224 _ _ [59, (lastM ms).2] _ (by first | omega | (dsimp only; omega) | (simp; omega)) (by simp)) ?_;conv=>whnf))
          iterate 3 (refine fac_s (fun hf => ?_);conv=>whnf)
          (refine aftp_s (by rfl) ?_;conv=>whnf)
          iterate 2 (refine rows_s (by ((refine sub_all ?_; simp [List.length_map, mkS_len, setRow_len]; done))) ?_;conv=>whnf)
          (refine aftp_s (by rfl) ?_;conv=>whnf)
          exact True.intro)
      | ( iterate 8 (apply br_f rfl;conv=>whnf)
          (apply br_t rfl;conv=>whnf)
          (refine handp_s 248 [some 3] ?_;conv=>whnf)
          (apply rq_s rfl;conv=>whnf)
          (focus (apply callpe_s (f := 248); (· repeat' (first | (refine sub_all ?_; simp [List.length_map, mkS_len, setRow_len]; done) | exact sub_map _ _ _ _ | apply cons_eq | apply obj_eq | apply agg_eq | apply own_eq | apply ro_eq | apply rp_eq | apply fnc_eq | rfl)); refine callp_s (f := 248) rfl (c248 _ _ _ (by first | omega | (dsimp only; omega) | (simp; omega)) (by first | omega | (dsimp only; omega) | (simp; omega))) ?_;conv=>whnf))
          iterate 2 (refine fac_s (fun hf => ?_);conv=>whnf)
          (apply rq_s rfl;conv=>whnf)
          (apply lend_s;conv=>whnf)
          (refine call_s (w59 ..) ?_;conv=>whnf)
          (apply rq_s rfl;conv=>whnf)
          (refine handp_s 224 [some 3, none] ?_;conv=>whnf)
          (apply rq_s rfl;conv=>whnf)
          (apply rq_s (by simp only [lnm, mkS_len, setRow_len]; done);conv=>whnf)
          (apply rq_s rfl;conv=>whnf)
          (focus (apply callpe_s (f := 224); (· repeat' (first | (refine sub_all ?_; simp [List.length_map, mkS_len, setRow_len]; done) | exact sub_map _ _ _ _ | apply cons_eq | apply obj_eq | apply agg_eq | apply own_eq | apply ro_eq | apply rp_eq | apply fnc_eq | rfl)); refine callp_s (f := 224) rfl (c224 _ _ [59, 0] _ (by first | omega | (dsimp only; omega) | (simp; omega)) (by simp)) ?_;conv=>whnf))
          (refine fac_s (fun hf => ?_);conv=>whnf)
          iterate 4 (refine ChkS.mk (by kernel_rfl) ?_;conv=>whnf)
          (apply rq_s rfl;conv=>whnf)
          iterate 4 (refine ChkS.mk (by kernel_rfl) ?_;conv=>whnf)
          (apply rq_s rfl;conv=>whnf)
          iterate 4 (refine ChkS.mk (by kernel_rfl) ?_;conv=>whnf)
          (apply rq_s rfl;conv=>whnf)
          iterate 2 (refine ChkS.mk (by kernel_rfl) ?_;conv=>whnf)
          (apply rq_s rfl;conv=>whnf)
          (refine ChkS.mk (by kernel_rfl) ?_;conv=>whnf)
          (apply rq_s rfl;conv=>whnf)
          (refine ChkS.mk (by kernel_rfl) ?_;conv=>whnf)
          (apply rq_s (by simp only [lnm, mkS_len, setRow_len]; done);conv=>whnf)
          iterate 2 (apply rq_s rfl;conv=>whnf)
          (apply rq_s (by simp only [lnm, mkS_len, setRow_len]; done);conv=>whnf)
          (apply rq_s (by (((simp [maxBytes, subA]; omega))));conv=>whnf)
          (refine appMm ?_;conv=>whnf)
          iterate 2 (refine ChkS.mk (by kernel_rfl) ?_;conv=>whnf)
          (apply rq_s rfl;conv=>whnf)
          iterate 2 (refine ChkS.mk (by kernel_rfl) ?_;conv=>whnf)
          (refine aftp_s (by rfl) ?_;conv=>whnf)
          iterate 2 (refine rows_s (by ((refine sub_all ?_; simp [List.length_map, mkS_len, setRow_len]; done))) ?_;conv=>whnf)
          (refine aftp_s (by ((simp [cstep, madC, ownI, mkR, subA, List.take_of_length_le, wc, wd, List.map_take]))) ?_;conv=>whnf)
          exact True.intro)
      | ( iterate 9 (apply br_f rfl;conv=>whnf)
          (apply br_t rfl;conv=>whnf)
          (refine handp_s 248 [some 3] ?_;conv=>whnf)
          (apply rq_s rfl;conv=>whnf)
          (focus (apply callpe_s (f := 248); (· repeat' (first | (refine sub_all ?_; simp [List.length_map, mkS_len, setRow_len]; done) | exact sub_map _ _ _ _ | apply cons_eq | apply obj_eq | apply agg_eq | apply own_eq | apply ro_eq | apply rp_eq | apply fnc_eq | rfl)); refine callp_s (f := 248) rfl (c248 _ _ _ (by first | omega | (dsimp only; omega) | (simp; omega)) (by first | omega | (dsimp only; omega) | (simp; omega))) ?_;conv=>whnf))
          iterate 2 (refine fac_s (fun hf => ?_);conv=>whnf)
          iterate 2 (refine ChkS.mk (by kernel_rfl) ?_;conv=>whnf)
          (apply rq_s rfl;conv=>whnf)
          (refine call_s (w58 ..) ?_;conv=>whnf)
          (refine ChkS.mk (by kernel_rfl) ?_;conv=>whnf)
          (apply rq_s rfl;conv=>whnf)
          iterate 2 (refine ChkS.mk (by kernel_rfl) ?_;conv=>whnf)
          (apply rq_s rfl;conv=>whnf)
          (refine ChkS.mk (by kernel_rfl) ?_;conv=>whnf)
          (refine handp_s 224 [some 3, none] ?_;conv=>whnf)
          (apply rq_s rfl;conv=>whnf)
          (apply rq_s (by simp only [lnm, mkS_len, setRow_len]; done);conv=>whnf)
          (apply rq_s rfl;conv=>whnf)
          (focus (apply callpe_s (f := 224); (· repeat' (first | (refine sub_all ?_; simp [List.length_map, mkS_len, setRow_len]; done) | exact sub_map _ _ _ _ | apply cons_eq | apply obj_eq | apply agg_eq | apply own_eq | apply ro_eq | apply rp_eq | apply fnc_eq | rfl)); refine callp_s (f := 224) rfl (c224 _ _ [58, (lastM ms).2] _ (by first | omega | (dsimp only; omega) | (simp; omega)) (by simp)) ?_;conv=>whnf))
          (refine ChkS.mk (by kernel_rfl) ?_;conv=>whnf)
          (refine fac_s (fun hf => ?_);conv=>whnf)
          (apply rq_s rfl;conv=>whnf)
          (refine handp_s 249 [some 3, none] ?_;conv=>whnf)
          iterate 2 (apply rq_s rfl;conv=>whnf)
          (focus (apply callpe_s (f := 249); (· repeat' (first | (refine sub_all ?_; simp [List.length_map, mkS_len, setRow_len]; done) | exact sub_map _ _ _ _ | apply cons_eq | apply obj_eq | apply agg_eq | apply own_eq | apply ro_eq | apply rp_eq | apply fnc_eq | rfl)); refine callp_s (f := 249) rfl (c249 _ _ _ _ (by first | omega | (dsimp only; omega) | (simp; omega)) (by first | omega | (dsimp only; omega) | (simp; omega)) (by first | omega | (dsimp only; omega) | (simp; omega)) (by first | omega | (dsimp only; omega) | (simp; omega)) (by first | omega | (dsimp only; omega) | (simp; omega))) ?_;conv=>whnf))
          (refine aftp_s (by rfl) ?_;conv=>whnf)
          iterate 2 (refine rows_s (by ((refine sub_all ?_; simp [List.length_map, mkS_len, setRow_len]; done))) ?_;conv=>whnf)
          (refine aftp_s (by ((simp [cstep, madC, ownI, mkR, subA, List.take_of_length_le, wc, wd, List.map_take]))) ?_;conv=>whnf)
          exact True.intro)
      | ( iterate 10 (apply br_f rfl;conv=>whnf)
          (apply br_t rfl;conv=>whnf)
          (apply rq_s rfl;conv=>whnf)
          (apply lend_s;conv=>whnf)
          (refine call_s (w60 ..) ?_;conv=>whnf)
          (apply rq_s rfl;conv=>whnf)
          (refine handp_s 224 [some 3, none] ?_;conv=>whnf)
          (apply rq_s rfl;conv=>whnf)
          (apply rq_s (by simp only [lnm, mkS_len, setRow_len]; done);conv=>whnf)
          (apply rq_s rfl;conv=>whnf)
          (focus (apply callpe_s (f := 224); (· repeat' (first | (refine sub_all ?_; simp [List.length_map, mkS_len, setRow_len]; done) | exact sub_map _ _ _ _ | apply cons_eq | apply obj_eq | apply agg_eq | apply own_eq | apply ro_eq | apply rp_eq | apply fnc_eq | rfl)); refine callp_s (f := 224) rfl (c224 _ _ [60] _ (by first | omega | (dsimp only; omega) | (simp; omega)) (by simp)) ?_;conv=>whnf))
          (refine fac_s (fun hf => ?_);conv=>whnf)
          iterate 4 (refine ChkS.mk (by kernel_rfl) ?_;conv=>whnf)
          (apply rq_s rfl;conv=>whnf)
          iterate 3 (refine ChkS.mk (by kernel_rfl) ?_;conv=>whnf)
          (refine handp_s 250 [none] ?_;conv=>whnf)
          iterate 3 (apply rq_s rfl;conv=>whnf)
          (apply rq_s (by simp only [lnm, mkS_len, setRow_len]; done);conv=>whnf)
          iterate 2 (apply rq_s rfl;conv=>whnf)
          (apply rq_s (by simp only [lnm, mkS_len, setRow_len]; done);conv=>whnf)
          (apply rq_s rfl;conv=>whnf)
          (focus (apply callpe_s (f := 250); (· repeat' (first | (refine sub_all ?_; simp [List.length_map, mkS_len, setRow_len]; done) | exact sub_map _ _ _ _ | apply cons_eq | apply obj_eq | apply agg_eq | apply own_eq | apply ro_eq | apply rp_eq | apply fnc_eq | rfl)); refine callp_s (f := 250) rfl (c250 _ _ _ (by first | omega | (dsimp only; omega) | (simp; omega)) (by first | omega | (dsimp only; omega) | (simp; omega)) (by first | omega | (dsimp only; omega) | (simp; omega))) ?_;conv=>whnf))
          (refine ChkS.mk (by kernel_rfl) ?_;conv=>whnf)
          (apply rq_s rfl;conv=>whnf)
          (refine ChkS.mk (by kernel_rfl) ?_;conv=>whnf)
          (apply rq_s rfl;conv=>whnf)
          (refine ChkS.mk (by kernel_rfl) ?_;conv=>whnf)
          (apply rq_s (by simp only [lnm, mkS_len, setRow_len]; done);conv=>whnf)
          iterate 2 (apply rq_s rfl;conv=>whnf)
          (apply rq_s (by simp only [lnm, mkS_len, setRow_len]; done);conv=>whnf)
          (apply rq_s (by (((simp [maxBytes, subA]; omega))));conv=>whnf)
          (refine appMm ?_;conv=>whnf)
          iterate 2 (refine ChkS.mk (by kernel_rfl) ?_;conv=>whnf)
          (apply rq_s rfl;conv=>whnf)
          iterate 2 (refine ChkS.mk (by kernel_rfl) ?_;conv=>whnf)
          (refine fac_s (fun hf => ?_);conv=>whnf)
          (refine aftp_s (by rfl) ?_;conv=>whnf)
          iterate 2 (refine rows_s (by ((refine sub_all ?_; simp [List.length_map, mkS_len, setRow_len]; done))) ?_;conv=>whnf)
          (refine aftp_s (by ((simp [cstep, madC, ownI, mkR, subA, List.take_of_length_le, wc, wd, List.map_take]))) ?_;conv=>whnf)
          exact True.intro)
      | ( iterate 11 (apply br_f rfl;conv=>whnf)
          (apply br_t rfl;conv=>whnf)
          (apply rq_s rfl;conv=>whnf)
          (apply lend_s;conv=>whnf)
          (refine call_s (w61 ..) ?_;conv=>whnf)
          (refine handp_s 248 [some 3] ?_;conv=>whnf)
          (apply rq_s rfl;conv=>whnf)
          (focus (apply callpe_s (f := 248); (· repeat' (first | (refine sub_all ?_; simp [List.length_map, mkS_len, setRow_len]; done) | exact sub_map _ _ _ _ | apply cons_eq | apply obj_eq | apply agg_eq | apply own_eq | apply ro_eq | apply rp_eq | apply fnc_eq | rfl)); refine callp_s (f := 248) rfl (c248 _ _ _ (by first | omega | (dsimp only; omega) | (simp; omega)) (by first | omega | (dsimp only; omega) | (simp; omega))) ?_;conv=>whnf))
          (apply rq_s rfl;conv=>whnf)
          (refine handp_s 224 [some 3, none] ?_;conv=>whnf)
          (apply rq_s rfl;conv=>whnf)
          (apply rq_s (by simp only [lnm, mkS_len, setRow_len]; done);conv=>whnf)
          (apply rq_s rfl;conv=>whnf)
          (focus (apply callpe_s (f := 224); (· repeat' (first | (refine sub_all ?_; simp [List.length_map, mkS_len, setRow_len]; done) | exact sub_map _ _ _ _ | apply cons_eq | apply obj_eq | apply agg_eq | apply own_eq | apply ro_eq | apply rp_eq | apply fnc_eq | rfl)); refine callp_s (f := 224) rfl (c224 _ _ [61, (lastM ms).2] _ (by first | omega | (dsimp only; omega) | (simp; omega)) (by simp)) ?_;conv=>whnf))
          iterate 3 (refine fac_s (fun hf => ?_);conv=>whnf)
          (refine aftp_s (by rfl) ?_;conv=>whnf)
          iterate 2 (refine rows_s (by ((refine sub_all ?_; simp [List.length_map, mkS_len, setRow_len]; done))) ?_;conv=>whnf)
          (refine aftp_s (by rfl) ?_;conv=>whnf)
          exact True.intro)
      | ( iterate 12 (apply br_f rfl;conv=>whnf)
          (apply br_t rfl;conv=>whnf)
          (apply rq_s rfl;conv=>whnf)
          (apply lend_s;conv=>whnf)
          (refine call_s (w62 ..) ?_;conv=>whnf)
          (refine handp_s 248 [some 3] ?_;conv=>whnf)
          (apply rq_s rfl;conv=>whnf)
          (focus (apply callpe_s (f := 248); (· repeat' (first | (refine sub_all ?_; simp [List.length_map, mkS_len, setRow_len]; done) | exact sub_map _ _ _ _ | apply cons_eq | apply obj_eq | apply agg_eq | apply own_eq | apply ro_eq | apply rp_eq | apply fnc_eq | rfl)); refine callp_s (f := 248) rfl (c248 _ _ _ (by first | omega | (dsimp only; omega) | (simp; omega)) (by first | omega | (dsimp only; omega) | (simp; omega))) ?_;conv=>whnf))
          (apply rq_s rfl;conv=>whnf)
          (refine handp_s 224 [some 3, none] ?_;conv=>whnf)
          (apply rq_s rfl;conv=>whnf)
          (apply rq_s (by simp only [lnm, mkS_len, setRow_len]; done);conv=>whnf)
          (apply rq_s rfl;conv=>whnf)
          (focus (apply callpe_s (f := 224); (· repeat' (first | (refine sub_all ?_; simp [List.length_map, mkS_len, setRow_len]; done) | exact sub_map _ _ _ _ | apply cons_eq | apply obj_eq | apply agg_eq | apply own_eq | apply ro_eq | apply rp_eq | apply fnc_eq | rfl)); refine callp_s (f := 224) rfl (c224 _ _ [62, (lastM ms).2] _ (by first | omega | (dsimp only; omega) | (simp; omega)) (by simp)) ?_;conv=>whnf))
          iterate 3 (refine fac_s (fun hf => ?_);conv=>whnf)
          (refine aftp_s (by rfl) ?_;conv=>whnf)
          iterate 2 (refine rows_s (by ((refine sub_all ?_; simp [List.length_map, mkS_len, setRow_len]; done))) ?_;conv=>whnf)
          (refine aftp_s (by rfl) ?_;conv=>whnf)
          exact True.intro)
      | ( (apply br_f rfl;conv=>whnf)
          (apply br_t rfl;conv=>whnf)
          (apply rq_s rfl;conv=>whnf)
          (refine handp_s 224 [some 3, none] ?_;conv=>whnf)
          (apply rq_s rfl;conv=>whnf)
          (apply rq_s (by simp only [lnm, mkS_len, setRow_len]; done);conv=>whnf)
          (apply rq_s rfl;conv=>whnf)
          (focus (apply callpe_s (f := 224); (· repeat' (first | (refine sub_all ?_; simp [List.length_map, mkS_len, setRow_len]; done) | exact sub_map _ _ _ _ | apply cons_eq | apply obj_eq | apply agg_eq | apply own_eq | apply ro_eq | apply rp_eq | apply fnc_eq | rfl)); refine callp_s (f := 224) rfl (c224 _ _ [self] _ (by first | omega | (dsimp only; omega) | (simp; omega)) (by simp)) ?_;conv=>whnf))
          (refine aftp_s (by rfl) ?_;conv=>whnf)
          iterate 2 (refine rows_s (by ((refine sub_all ?_; simp [List.length_map, mkS_len, setRow_len]; done))) ?_;conv=>whnf)
          (refine aftp_s (by rfl) ?_;conv=>whnf)
          exact True.intro))
end I10

/- The reference's compiler: contracts. -/
set_option linter.unusedVariables false
set_option linter.unusedSimpArgs false
set_option maxRecDepth 100000
open Go Go.Abs Go.Proofs V1 H1 I1 I2 I3 I4 I5 I6 I7 I8 I9 I10
namespace I11


structure LM where
  i : Nat
  c : List Int
  ms : List Mk
theorem c165 (xs : List Itm) (at' self : Int) (h60 : xs.length ≤ 60) (hx : itemsOK xs = true) (ho : openF xs = ([], -1)) (ha : 0 ≤ at' ∧ at' ≤ 400) (hs : 1 ≤ self ∧ self ≤ 103) :
    Con Tryz.prog 165 [roT xs, .int .i64 at', .int .i64 self] (undefs [roT xs, .int .i64 at', .int .i64 self]) (ownI (compF xs at' self)) := by
  refine Con.ev 33 T_ok mix Tryz.func165 rfl rfl rfl rfl [.tmp 6] rfl ?_
  conv => whnf
  iterate 2 (apply rq_s rfl;conv=>whnf)
  rotate_left
  refine LoopG.bearM 11 1 101 zI rfl rfl rfl ?_
  refine LoopG.bearM 11 2 102 zM rfl rfl rfl ?_
  refine LoopG.auto (α := LM) T_ok mix [0, 2, 7, 8]
    (fun a => [(0, roT xs), (2, .int .i64 self), (7, .ptr 1 0 0), (8, .int .i64 a.i)])
    (fun a => [(1, .live ⟨false, 0, [.int .i64 at', .emp, .emp], [[.int .i64 at', .ref 2 0 a.c.length, .ref 3 0 a.ms.length]]⟩), (2, .live ⟨true, 0, zI, a.c.map intR⟩), (3, .live ⟨true, 0, zM, a.ms.map mkR⟩)])
    (fun a => ∃ st : List Op1, a.ms = st.map (·.2) ∧ CInv xs a.i a.c st ∧ compGo at' self (xs.drop a.i) a.c a.ms = compF xs at' self) (fun a => xs.length - a.i) ?_ ?_
  · conv => whnf
    (refine ChkS.mk (by kernel_rfl) ?_;conv=>whnf)
    rotate_left
    exact head_s ⟨0, [], []⟩ ⟨[], rfl, CInv.zero ho, rfl⟩ rfl rfl
  · rintro ⟨i, c, ms⟩ ⟨st, hms, hI, hC⟩ _ _
    simp only at hms hI hC ⊢
    have hm8 : ms.length ≤ 8 := by
      have := hI.hk.2
      rw [hms]
      simpa using this
    have hcl := hI.hl
    have hin := hI.hi
    by_cases hi : i < xs.length
    · have hok : itemOK (xs.getD i default) = true := by
        have : xs.getD i default = xs[i] := by simp [hi]
        rw [this]
        exact List.all_eq_true.1 hx _ (List.getElem_mem hi)
      have hk := item_k hok
      have hn := hI.next hi hk at' self
      have hc := hC
      rw [compGo_next hi] at hc
      have hs2 := st_snd at' self (xs.getD i default) c st hk
      rw [← hms] at hn hs2
      obtain ⟨f4, f5, f7, f8, f9, f11⟩ := fit_last (hI.fit hi)
      have P1 : (xs.getD i default).k = 4 ∨ (xs.getD i default).k = 5 ∨ (xs.getD i default).k = 7 ∨ (xs.getD i default).k = 8 ∨ (xs.getD i default).k = 9 ∨ (xs.getD i default).k = 11 ∨ (xs.getD i default).k = 12 → 1 ≤ ms.length := fun e => by
        have T := (top_of (st := st) 0 (by omega)).ne
        rw [hms, List.length_map]
        omega
      have P2 : (xs.getD i default).k = 4 ∨ (xs.getD i default).k = 5 ∨ (xs.getD i default).k = 9 → 0 ≤ (lastM ms).1 ∧ (lastM ms).1 < c.length := fun e => by
        have T := top_of (st := st) 0 (by omega)
        have := T.k
        rw [hms, lastM_map]
        exact hI.hh _ T.mem (by omega)
      generalize hxe : xs.getD i default = x at *
      obtain ⟨k, v⟩ := x
      have hrow : ∀ z, rowA (xs.map itR) i z = itR ⟨k, v⟩ := fun z => (row_map itR xs i z default hi).trans (congrArg itR hxe)
      have hlt : decide ((i : Int) < ((xs.map itR).length : Int)) = true := by simp; omega
      conv => whnf
      (apply br_t (by assumption);conv=>whnf)
      (apply rq_s rfl;conv=>whnf)
      (refine rq_s (by refine and_s rfl ?_; simp only [lnm]; omega) ?_;conv=>whnf)
      (refine row_s (by (exact hrow _)) ?_;conv=>whnf)
      (refine handp_s 223 [some 3, none, none] ?_;conv=>whnf)
      iterate 4 (apply rq_s rfl;conv=>whnf)
      (focus (apply callpe_s (f := 223); (· repeat' (first | (refine sub_all ?_; simp [List.length_map, mkS_len, setRow_len]; done) | exact sub_map _ _ _ _ | apply cons_eq | apply obj_eq | apply agg_eq | apply own_eq | apply ro_eq | apply rp_eq | apply fnc_eq | rfl)); refine callp_s (f := 223) rfl (item at' self ⟨k, v⟩ c ms hk (by first | omega | (dsimp only; omega) | (simp; omega)) (by first | omega | (dsimp only; omega) | (simp; omega)) (by first | omega | (dsimp only; omega) | (simp; omega)) (by first | omega | (dsimp only; omega) | (simp; omega)) P1 P2 ..) ?_;conv=>whnf))
      (refine ChkS.mk (by kernel_rfl) ?_;conv=>whnf)
      rotate_left
      exact head_s (LM.mk (i + 1) _ _) ⟨⟨_, hs2, hn, hc⟩, by simp only; omega⟩ (by rw [wrap64 (by omega) (by omega)]; rfl) (by simp only [List.length_map])
    · have hlt : decide ((i : Int) < ((xs.map itR).length : Int)) = false := by simp; omega
      obtain rfl : i = xs.length := by omega
      rw [List.drop_length] at hC
      conv => whnf
      (focus (apply br_f (by (simp; done));conv=>whnf))
      (apply rq_s rfl;conv=>whnf)
      (apply lend_s;conv=>whnf)
      (refine call_s (w53 ..) ?_;conv=>whnf)
      (apply rq_s rfl;conv=>whnf)
      (refine handp_s 224 [some 3, none] ?_;conv=>whnf)
      (apply rq_s rfl;conv=>whnf)
      (apply rq_s (by simp only [lnm, mkS_len, setRow_len]; done);conv=>whnf)
      (apply rq_s rfl;conv=>whnf)
      (focus (apply callpe_s (f := 224); (· repeat' (first | (refine sub_all ?_; simp [List.length_map, mkS_len, setRow_len]; done) | exact sub_map _ _ _ _ | apply cons_eq | apply obj_eq | apply agg_eq | apply own_eq | apply ro_eq | apply rp_eq | apply fnc_eq | rfl)); refine callp_s (f := 224) rfl (c224 _ _ [53] _ (by first | omega | (dsimp only; omega) | (simp; omega)) (by simp)) ?_;conv=>whnf))
      (refine fac_s (fun hf => ?_);conv=>whnf)
      (apply rq_s rfl;conv=>whnf)
      (apply rq_s (by simp only [lnm, mkS_len, setRow_len]; done);conv=>whnf)
      (apply rq_s rfl;conv=>whnf)
      (refine rows_s (by ((refine sub_all ?_; simp [List.length_map, mkS_len, setRow_len]; done))) ?_;conv=>whnf)
      rotate_left
      exact ⟨by rw [← hC]; exact Sh.refl _⟩
end I11
