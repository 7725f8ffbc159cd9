/- Machines, definitions, whole Forths in plain Lean: their rows, sizes, what is valid. No program in sight. -/
import Derived.Test.YtkmadcdphnhciaaGreatDoorAbsk
import Derived.Test.YtkmadcdphnhciaaGreatDoorAbse
import Derived.Test.YtkmadcdphnhciaaGreatDoorAbsh
set_option linter.unusedVariables false
set_option linter.unusedSimpArgs false
noncomputable section
namespace Go.Abs
open Go

structure Mch where
  ws : List Wd
  co : List Int
  da : Dat
  ho : Hst
  ca : List Cal
  ip : Int
  fu : Int
  deriving DecidableEq, Inhabited
def mchR (m : Mch) : List AV := [roW m.ws, roI m.co, roI m.da.st, roI m.da.bk, roI m.da.ce, .int .i64 m.da.he, .int .i64 m.da.ba, .str m.da.ou, roB m.ho.gr, roI m.ho.st, roI m.ho.q, .int .i64 m.ho.tk, roD m.ho.ds, roC m.ca, .int .i64 m.ip, .int .i64 m.fu]
def mchV (m : Mch) : AV := .agg (mchR m)
def mchC (m : Mch) : List AV := [ownW m.ws, ownI m.co, ownI m.da.st, ownI m.da.bk, ownI m.da.ce, .int .i64 m.da.he, .int .i64 m.da.ba, .str m.da.ou, ownB m.ho.gr, ownI m.ho.st, ownI m.ho.q, .int .i64 m.ho.tk, ownD m.ho.ds, ownC m.ca, .int .i64 m.ip, .int .i64 m.fu]
def mchO (m : Mch) : AV := .agg (mchC m)
structure Df where
  w : Int
  its : List Itm
  deriving DecidableEq, Inhabited
def dfR (d : Df) : List AV := [.int .i64 d.w, roT d.its]
def dfV (d : Df) : AV := .agg (dfR d)
abbrev zDf : List AV := [.int .i64 0, .emp]
def roDf (ds : List Df) : AV := .ro zDf (ds.map dfR)
def ownDf (ds : List Df) : AV := .own 1 zDf (ds.map dfR)
structure Fth where
  m : Mch
  ds : List Df
  co : Bool
  nm : List UInt8
  its : List Itm
  deriving DecidableEq, Inhabited
def fthR (f : Fth) : List AV := [roW f.m.ws, roI f.m.co, roI f.m.da.st, roI f.m.da.bk, roI f.m.da.ce, .int .i64 f.m.da.he, .int .i64 f.m.da.ba, .str f.m.da.ou, roB f.m.ho.gr, roI f.m.ho.st, roI f.m.ho.q, .int .i64 f.m.ho.tk, roD f.m.ho.ds, roC f.m.ca, .int .i64 f.m.ip, .int .i64 f.m.fu, roDf f.ds, .bool f.co, .str f.nm, roT f.its]
def fthV (f : Fth) : AV := .agg (fthR f)
def fthC (f : Fth) : List AV := [ownW f.m.ws, ownI f.m.co, ownI f.m.da.st, ownI f.m.da.bk, ownI f.m.da.ce, .int .i64 f.m.da.he, .int .i64 f.m.da.ba, .str f.m.da.ou, ownB f.m.ho.gr, ownI f.m.ho.st, ownI f.m.ho.q, .int .i64 f.m.ho.tk, ownD f.m.ho.ds, ownC f.m.ca, .int .i64 f.m.ip, .int .i64 f.m.fu, ownDf f.ds, .bool f.co, .str f.nm, ownT f.its]
def fthO (f : Fth) : AV := .agg (fthC f)

structure MchLen (m : Mch) : Prop where
  ws : m.ws.length ≤ 9223372036854775807
  co : m.co.length ≤ 9223372036854775807
  st : m.da.st.length ≤ 9223372036854775807
  bk : m.da.bk.length ≤ 9223372036854775807
  ce : m.da.ce.length ≤ 9223372036854775807
  ou : m.da.ou.length ≤ 9223372036854775807
  gr : m.ho.gr.length ≤ 9223372036854775807
  hs : m.ho.st.length ≤ 9223372036854775807
  q : m.ho.q.length ≤ 9223372036854775807
  ds : m.ho.ds.length ≤ 9223372036854775807
  ca : m.ca.length ≤ 9223372036854775807
theorem mchLen_of {m : Mch} (h : ∀ x ∈ mchR m, ∀ d, x.facts d) : MchLen m :=
  ⟨facts_len (h (roW m.ws) (by simp [mchR])), facts_len (f := intR) (z := zI) (h (roI m.co) (by simp [mchR])), facts_len (f := intR) (z := zI) (h (roI m.da.st) (by simp [mchR])), facts_len (f := intR) (z := zI) (h (roI m.da.bk) (by simp [mchR])),
   facts_len (f := intR) (z := zI) (h (roI m.da.ce) (by simp [mchR])), h (.str m.da.ou) (by simp [mchR]) 0, facts_len (h (roB m.ho.gr) (by simp [mchR])), facts_len (f := intR) (z := zI) (h (roI m.ho.st) (by simp [mchR])),
   facts_len (f := intR) (z := zI) (h (roI m.ho.q) (by simp [mchR])), facts_len (h (roD m.ho.ds) (by simp [mchR])), facts_len (h (roC m.ca) (by simp [mchR]))⟩
theorem mch_facts {m : Mch} (h : ∀ d, (mchV m).facts d) : MchLen m := mchLen_of fun x hx d => h (d + 1) x hx
theorem defs_facts {ds : List Df} (h : ∀ d, (roDf ds).facts d) : ∀ d ∈ ds, d.its.length ≤ 9223372036854775807 := by
  intro r hr
  have h1 := (h 4).2 (dfR r) (List.mem_map.2 ⟨r, hr, rfl⟩)
  have h2 : (roT r.its).facts 3 := h1 _ (by simp [dfR])
  have h3 : ((r.its.map itR).length : Nat) ≤ maxLn := h2.1
  rw [List.length_map] at h3
  exact h3
theorem fth_facts {f : Fth} (h : ∀ d, (fthV f).facts d) : MchLen f.m ∧ (∀ d ∈ f.ds, d.its.length ≤ 9223372036854775807) ∧ f.nm.length ≤ 9223372036854775807 ∧ f.its.length ≤ 9223372036854775807 :=
  ⟨mchLen_of fun x hx d => h (d + 1) x (show x ∈ mchR f.m ++ [roDf f.ds, .bool f.co, .str f.nm, roT f.its] from List.mem_append_left _ hx),
   defs_facts fun d => h (d + 1) (roDf f.ds) (by simp [fthR]), h 1 (.str f.nm) (by simp [fthR]), facts_len fun d => h (d + 1) (roT f.its) (by simp [fthR])⟩

def szX (x : Wd) (l : Int) : Int := if l - x.nm.length < 0 then -1 else l - x.nm.length
def szWL : List Wd → Int → Int
  | [], l => l
  | x :: r, l => if szX x l < 0 then -1 else szWL r (szX x l)
def szWs (xs : List Wd) (l : Int) : Int := if l - xs.length < 0 then -1 else szWL xs (l - xs.length)
theorem szWL_next {xs : List Wd} {i : Nat} {l : Int} (h : i < xs.length) : szWL (xs.drop i) l = if szX (xs.getD i default) l < 0 then -1 else szWL (xs.drop (i + 1)) (szX (xs.getD i default) l) := by
  rw [List.drop_eq_getElem_cons h]
  have : xs.getD i default = xs[i] := by simp [h]
  rw [this]
  rfl
theorem szX_le (x : Wd) (l : Int) (h : 0 ≤ l) : szX x l ≤ l := by unfold szX; split <;> omega
theorem szWL_le : ∀ (xs : List Wd) (l : Int), 0 ≤ l → szWL xs l ≤ l
  | [], l, _ => Int.le_refl _
  | x :: r, l, h => by
    rw [szWL]
    split
    · omega
    · have := szWL_le r (szX x l) (by omega)
      have := szX_le x l h
      omega
theorem szWs_le {xs : List Wd} {l : Int} (h1 : 0 ≤ l) (h2 : l ≤ 1048576) (h : 0 ≤ szWs xs l) : szWs xs l ≤ l ∧ xs.length ≤ 1048576 := by
  unfold szWs at h ⊢
  split at h
  · omega
  · rw [if_neg (by assumption)]
    have := szWL_le xs (l - xs.length) (by omega)
    omega
def szY (n : Nat) (l : Int) : Int := if l - n < 0 then -1 else l - n
theorem szN_szY {n : Nat} {l : Int} (h1 : 0 ≤ l) (h2 : l ≤ 1048576) (h : n ≤ 9223372036854775807) : szN n l = szY n l := by rw [szN, szY, wr h1 h2 h]
def szDL : List Df → Int → Int
  | [], l => l
  | x :: r, l => if szY x.its.length l < 0 then -1 else szDL r (szY x.its.length l)
def szDs (xs : List Df) (l : Int) : Int := if l - xs.length < 0 then -1 else szDL xs (l - xs.length)
theorem szDL_next {xs : List Df} {i : Nat} {l : Int} (h : i < xs.length) : szDL (xs.drop i) l = if szY (xs.getD i default).its.length l < 0 then -1 else szDL (xs.drop (i + 1)) (szY (xs.getD i default).its.length l) := by
  rw [List.drop_eq_getElem_cons h]
  have : xs.getD i default = xs[i] := by simp [h]
  rw [this]
  rfl
theorem szY_le (n : Nat) (l : Int) (h : 0 ≤ l) : szY n l ≤ l := by unfold szY; split <;> omega
theorem szDL_le : ∀ (xs : List Df) (l : Int), 0 ≤ l → l ≤ 1048576 → szDL xs l ≤ l ∧ (0 ≤ szDL xs l → ∀ d ∈ xs, d.its.length ≤ 1048576)
  | [], l, _, _ => ⟨Int.le_refl _, fun _ d hd => by simp at hd⟩
  | x :: r, l, h, h2 => by
    rw [szDL]
    split
    · exact ⟨by omega, fun h3 => by omega⟩
    · have h3 := szY_le x.its.length l h
      have h4 := szDL_le r (szY x.its.length l) (by omega) (by omega)
      refine ⟨by omega, fun h5 d hd => ?_⟩
      rcases List.mem_cons.1 hd with rfl | hd
      · rename_i h6
        unfold szY at h6
        split at h6 <;> omega
      · exact h4.2 h5 d hd
theorem szDs_le {xs : List Df} {l : Int} (h1 : 0 ≤ l) (h2 : l ≤ 1048576) (h : 0 ≤ szDs xs l) : szDs xs l ≤ l ∧ xs.length ≤ 1048576 ∧ ∀ d ∈ xs, d.its.length ≤ 1048576 := by
  unfold szDs at h ⊢
  split at h
  · omega
  · rw [if_neg (by assumption)]
    have := szDL_le xs (l - xs.length) (by omega) (by omega)
    exact ⟨by omega, by omega, this.2 h⟩

def callOK (fl : Int) (n : Nat) (c : Cal) : Bool := inR c.ip 0 2147483647 && inR c.fl fl n && inR c.dp 0 31 && (c.ca || decide (c.dp = 0))
def callsAt (n : Nat) : Int → List Cal → Bool
  | _, [] => true
  | fl, c :: r => callOK fl n c && callsAt n c.fl r
theorem callsAt_next {n : Nat} {fl : Int} {cs : List Cal} {i : Nat} (h : i < cs.length) : callsAt n fl (cs.drop i) = (callOK fl n (cs.getD i default) && callsAt n (cs.getD i default).fl (cs.drop (i + 1))) := by
  rw [List.drop_eq_getElem_cons h]
  have : cs.getD i default = cs[i] := by simp [h]
  rw [this]
  rfl
def lastOK (cs : List Cal) : Bool := decide (cs.length = 0) || !(cs.getD (cs.length - 1) default).ca
def callsOK (n : Nat) (cs : List Cal) : Bool := decide (cs.length ≤ 16) && callsAt n 0 cs && lastOK cs
def mchOK (m : Mch) : Bool := dictOK m.ws && (decide (m.co.length ≤ 400) && cellsOK m.co) && dataOK m.da && hostOK m.ho && callsOK m.da.bk.length m.ca && inR m.ip 0 2147483647 && inR m.fu 0 4000
def codeAt (co : List Int) (a : Int) (code : List Int) : Bool := decide (a + code.length ≤ co.length) && decide ((co.drop a.toNat).take code.length = code)
def wordAt (ws : List Wd) (n : Int) : Wd := ws.getD (n - 1).toNat default
def defOK (m : Mch) (d : Df) : Bool := decide (askF d.its = 0) && inR d.w 84 m.ws.length && decide ((wordAt m.ws d.w).k = 6) && decide ((chkF d.its).2 = 0) && codeAt m.co (wordAt m.ws d.w).v (compF d.its (wordAt m.ws d.w).v d.w)
def defsAt (m : Mch) : Int → List Df → Bool
  | _, [] => true
  | p, d :: r => defOK m d && decide (p < d.w) && defsAt m d.w r
theorem defsAt_next {m : Mch} {p : Int} {ds : List Df} {i : Nat} (h : i < ds.length) : defsAt m p (ds.drop i) = (defOK m (ds.getD i default) && decide (p < (ds.getD i default).w) && defsAt m (ds.getD i default).w (ds.drop (i + 1))) := by
  rw [List.drop_eq_getElem_cons h]
  have : ds.getD i default = ds[i] := by simp [h]
  rw [this]
  rfl
def isCol (w : Wd) : Bool := decide (w.k = 6)
def colons (ws : List Wd) : Nat := ws.countP isCol
def defsOK (m : Mch) (ds : List Df) : Bool := decide (ds.length ≤ 20) && defsAt m 0 ds && decide (colons m.ws = ds.length)
def dmOK (m : Mch) (ds : List Df) : Bool := mchOK m && defsOK m ds
def tokenOK (ws : List Wd) (n : Int) : Bool := inR n 1 ws.length && decide ((wordAt ws n).k ≠ 3) && decide ((wordAt ws n).k ≠ 5)
def wordIt (ws : List Wd) (x : Itm) : Bool := decide (x.k ≠ 1) || tokenOK ws x.v
def openOK (f : Fth) : Bool :=
  if f.co = true then wordOK f.nm && decide (askF f.its = 0) && decide ((openF f.its).2 < 0) && f.its.all (wordIt f.m.ws) else decide (f.nm = []) && decide (f.its.length = 0)
def fthOK (f : Fth) : Bool := decide (f.m.ca.length = 0) && dmOK f.m f.ds && openOK f
theorem colons_take {ws : List Wd} {i : Nat} (h : i < ws.length) : colons (ws.take (i + 1)) = colons (ws.take i) + if (ws.getD i default).k = 6 then 1 else 0 := by
  rw [List.take_succ_eq_append_getElem h, colons, colons, List.countP_append]
  have : ws.getD i default = ws[i] := by simp [h]
  rw [this]
  simp [isCol, List.countP_cons]
theorem colons_le (ws : List Wd) : colons ws ≤ ws.length := List.countP_le_length
theorem kern_col : colons kernelW = 0 := by decide +kernel
theorem dict_take {ws : List Wd} (h : dictOK ws = true) : ws.take 83 = kernelW ∧ 83 ≤ ws.length ∧ ws.length ≤ 103 := by
  simp only [dictOK, kernSame, Bool.and_eq_true, decide_eq_true_eq] at h
  exact ⟨h.1.2.2, h.1.2.1.1, h.1.1⟩
theorem dict_col {ws : List Wd} (h : dictOK ws = true) : colons ws = colons (ws.drop 83) := by
  have h1 := (dict_take h).1
  have : colons ws = colons (ws.take 83 ++ ws.drop 83) := by rw [List.take_append_drop]
  rw [this, colons, List.countP_append, h1]
  have := kern_col
  unfold colons at this
  rw [this]
  simp [colons]
theorem dict_kern {ws : List Wd} (h : dictOK ws = true) {i : Nat} (hi : i < 83) : (ws.getD i default).k ≠ 6 := by
  have h1 := (dict_take h).1
  have e : ws.getD i default = kernelW.getD i default := by rw [← h1]; simp [List.getElem?_take, hi]
  rw [e]
  have : ∀ j : Fin 83, (kernelW.getD j.1 default).k ≠ 6 := by decide +kernel
  exact this ⟨i, hi⟩
theorem dict_v {ws : List Wd} (h : dictOK ws = true) {i : Nat} (hi : i < ws.length) (hk : (ws.getD i default).k = 6) : 83 ≤ i ∧ 0 ≤ (ws.getD i default).v ∧ (ws.getD i default).v ≤ 399 := by
  have h83 : 83 ≤ i := by
    by_cases hlt : i < 83
    · exact absurd hk (dict_kern h hlt)
    · omega
  simp only [dictOK, Bool.and_eq_true] at h
  have h2 := List.all_eq_true.1 h.2 ws[i] (by
    have : ws[i] = (ws.drop 83)[i - 83]'(by simp; omega) := by simp [show 83 + (i - 83) = i by omega]
    rw [this]; exact List.getElem_mem _)
  have e : ws.getD i default = ws[i] := by simp [hi]
  rw [e] at hk ⊢
  unfold scriptOK at h2
  rw [if_pos hk] at h2
  simp only [Bool.and_eq_true] at h2
  exact ⟨h83, inR_t h2.2⟩
theorem dict_low {ws : List Wd} (h : dictOK ws = true) {n : Int} (h1 : 1 ≤ n) (h2 : n ≤ ws.length) (hk : (wordAt ws n).k = 6) : inR n 84 ws.length = true ∧ 0 ≤ (wordAt ws n).v ∧ (wordAt ws n).v ≤ 399 := by
  have := dict_v h (i := (n - 1).toNat) (by omega) hk
  refine ⟨by simp [inR]; omega, this.2⟩
end Go.Abs
