/- The abstract layer, 31: loops in the quick walk; tables. -/
import Derived.Test.YtbngkaiocdpliaaDoorAbs3
set_option linter.unusedVariables false
set_option linter.unusedSimpArgs false
namespace Go.Abs
open Go

def nameK : List (Nat × Nat) → Nat → (Nat → Prop) → Prop
  | [], b, K => K b
  | (a, o) :: l, b, K => match Nat.beq b o with
    | true => K a
    | false => nameK l b K
def ren0K (bs : List (Nat × Nat)) (v : AV) (K : AV → Prop) : Prop := match v with
  | .ref b o n => nameK bs b fun b => K (.ref b o n)
  | .ptr b i j => nameK bs b fun b => K (.ptr b i j)
  | v => K v
def renLK (F : AV → (AV → Prop) → Prop) : List AV → (List AV → Prop) → Prop
  | [], K => K []
  | x :: l, K => F x fun x => renLK F l fun l => K (x :: l)
def ren1K (bs : List (Nat × Nat)) (v : AV) (K : AV → Prop) : Prop := match v with
  | .fn g caps => renLK (ren0K bs) caps fun caps => K (.fn g caps)
  | .ref b o n => nameK bs b fun b => K (.ref b o n)
  | .ptr b i j => nameK bs b fun b => K (.ptr b i j)
  | v => K v
def renBK (bs : List (Nat × Nat)) (v : AV) (K : AV → Prop) : Prop := match v with
  | .agg cs => renLK (ren1K bs) cs fun cs => K (.agg cs)
  | .tup cs => renLK (ren1K bs) cs fun cs => K (.tup cs)
  | v => ren1K bs v K
def renRK (bs : List (Nat × Nat)) : List (List AV) → (List (List AV) → Prop) → Prop
  | [], K => K []
  | x :: l, K => renLK (ren1K bs) x fun x => renRK bs l fun l => K (x :: l)
def renMK (bs : List (Nat × Nat)) (m : MB) (K : MB → Prop) : Prop := match m with
  | .live ⟨arr, lvl, z, rows⟩ => match arr with
    | true => K (.live ⟨true, lvl, z, rows⟩)
    | false => renRK bs rows fun rows => K (.live ⟨false, lvl, z, rows⟩)
  | m => K m
def keepT (bs : List (Nat × Nat)) (ts : Ts) : List Nat → (Ts → Prop) → Prop
  | [], K => K []
  | k :: ks, K => fc (getT ts k) fun v => renBK bs v fun v => keepT bs ts ks fun l => K ((k, v) :: l)
def keepM (bs : List (Nat × Nat)) (ms : Ms) : List (Nat × Nat) → (Ms → Prop) → Prop
  | [], K => K []
  | (a, o) :: l, K => fcM (getM ms o) fun m => renMK bs m fun m => keepM bs ms l fun l => K ((a, m) :: l)
/-- Slots and blocks that are kept; blocks under new names: (new, old). -/
def keepV (n : Fx) (ks : List Nat) (bs : List (Nat × Nat)) (ts : Ts) (ms : Ms) (K : Ts → Ms → Prop) : Prop :=
  okK (keepOk (St.ls n ts ms) ks bs) (keepT bs ts ks fun ts' => keepM bs ms bs fun ms' => K ts' ms')
/-- A loop's head: a state of the family. -/
structure HeadG {α : Type} (S : α → Ts) (M : α → Ms) (J : α → Prop) (ts : Ts) (ms : Ms) : Prop where
  ex : ∃ a, J a ∧ ts = S a ∧ ms = M a
def roundV {α : Type} (n : Fx) (ks : List Nat) (bs : List (Nat × Nat)) (S : α → Ts) (M : α → Ms) (J : α → Prop) (Q : Ex → Ts → Ms → Prop) : Ex → Ts → Ms → Prop
  | .normal, ts, ms => keepV n ks bs ts ms (HeadG S M J)
  | .exit i, ts, ms => Q (.exit i) ts ms
  | .ret, ts, ms => Q .ret ts ms

section
variable {P : Program} {T : TT} {n : Fx}
theorem nameK_mk : ∀ {bs : List (Nat × Nat)} {b : Nat} {K : Nat → Prop}, nameK bs b K → K (nameOf bs b)
  | [], b, K, h => h
  | (a, o) :: l, b, K, h => by
    unfold nameK at h
    unfold nameOf
    split at h
    · rename_i e; rw [if_pos (beq_t e)]; exact h
    · rename_i e; rw [if_neg (beq_f e)]; exact nameK_mk h
theorem ren0K_mk {bs : List (Nat × Nat)} {v : AV} {K : AV → Prop} (h : ren0K bs v K) : K (v.ren0 (nameOf bs)) := by
  cases v <;> first | exact h | exact nameK_mk (K := fun b => K (.ref b _ _)) h | exact nameK_mk (K := fun b => K (.ptr b _ _)) h
theorem renLK_mk {F : AV → (AV → Prop) → Prop} {f : AV → AV} (hF : ∀ v K, F v K → K (f v)) : ∀ {l : List AV} {K : List AV → Prop}, renLK F l K → K (l.map f)
  | [], K, h => h
  | x :: l, K, h => renLK_mk hF (l := l) (K := fun l => K (f x :: l)) (hF x (fun x => renLK F l fun l => K (x :: l)) h)
theorem ren1K_mk {bs : List (Nat × Nat)} {v : AV} {K : AV → Prop} (h : ren1K bs v K) : K (v.ren1 (nameOf bs)) := by
  cases v <;> first | exact h | exact nameK_mk (K := fun b => K (.ref b _ _)) h | exact nameK_mk (K := fun b => K (.ptr b _ _)) h | exact renLK_mk (F := ren0K bs) (f := AV.ren0 (nameOf bs)) (fun _ _ => ren0K_mk) (K := fun cs => K (.fn _ cs)) h
theorem renBK_mk {bs : List (Nat × Nat)} {v : AV} {K : AV → Prop} (h : renBK bs v K) : K (v.renB (nameOf bs)) := by
  cases v with
  | agg cs => exact renLK_mk (F := ren1K bs) (f := AV.ren1 (nameOf bs)) (fun _ _ => ren1K_mk) (K := fun cs => K (.agg cs)) h
  | tup cs => exact renLK_mk (F := ren1K bs) (f := AV.ren1 (nameOf bs)) (fun _ _ => ren1K_mk) (K := fun cs => K (.tup cs)) h
  | _ => unfold renBK at h; exact ren1K_mk (K := K) h
theorem renRK_mk {bs : List (Nat × Nat)} : ∀ {l : List (List AV)} {K : List (List AV) → Prop}, renRK bs l K → K (l.map (List.map (AV.ren1 (nameOf bs))))
  | [], K, h => h
  | x :: l, K, h => renRK_mk (l := l) (K := fun l => K (x.map (AV.ren1 (nameOf bs)) :: l)) (renLK_mk (F := ren1K bs) (f := AV.ren1 (nameOf bs)) (fun _ _ => ren1K_mk) (K := fun x => renRK bs l fun l => K (x :: l)) h)
theorem renMK_mk {bs : List (Nat × Nat)} {m : MB} {K : MB → Prop} (h : renMK bs m K) : K (renM (nameOf bs) m) := by
  cases m with
  | abs => exact h
  | dead => exact h
  | live b =>
    obtain ⟨arr, lvl, z, rows⟩ := b
    cases arr with
    | true => exact h
    | false => exact renRK_mk (K := fun rows => K (.live ⟨false, lvl, z, rows⟩)) h
theorem keepT_mk {bs : List (Nat × Nat)} {ts : Ts} : ∀ {ks : List Nat} {K : Ts → Prop}, keepT bs ts ks K → K (ks.map fun k => (k, (getT ts k).renB (nameOf bs)))
  | [], K, h => h
  | k :: ks, K, h => keepT_mk (ks := ks) (renBK_mk (K := fun v => keepT bs ts ks fun l => K ((k, v) :: l)) (fc_mk (K := fun v => renBK bs v fun v => keepT bs ts ks fun l => K ((k, v) :: l)) h))
theorem keepM_mk {bs : List (Nat × Nat)} {ms : Ms} : ∀ {l : List (Nat × Nat)} {K : Ms → Prop}, keepM bs ms l K → K (l.map fun p => (p.1, renM (nameOf bs) (getM ms p.2)))
  | [], K, h => h
  | (a, o) :: l, K, h => keepM_mk (l := l) (renMK_mk (K := fun m => keepM bs ms l fun l => K ((a, m) :: l)) (fcM_mk (K := fun m => renMK bs m fun m => keepM bs ms l fun l => K ((a, m) :: l)) h))
theorem lookT_get : ∀ (ts : Ts), lookT ts = getT ts
  | [] => rfl
  | p :: l => by
    funext k
    simp only [lookT, getT, lookT_get l]
    split
    · rename_i h; subst h; simp
    · rename_i h
      split
      · rename_i h2; exact absurd (beq_t h2) h
      · rfl
theorem lookM_get : ∀ (ms : Ms) (d : MB), distinctB (ms.map (·.1)) = true → ∀ k, lookM ms d k = if (ms.map (·.1)).contains k = true then getM ms k else d
  | [], d, _, k => by simp [lookM]
  | p :: l, d, h, k => by
    simp only [List.map_cons, distinctB, Bool.and_eq_true, Bool.not_eq_true'] at h
    simp only [lookM, getM, lookM_get l _ h.2]
    by_cases hk : k = p.1
    · subst hk
      simp only [h.1, if_true, List.map_cons, List.contains_cons, beq_self_eq_true, Bool.true_or, Bool.false_eq_true, if_false, Nat.beq_refl]
    · have hb : Nat.beq k p.1 = false := by
        cases hb : Nat.beq k p.1
        · rfl
        · exact absurd (beq_t hb) hk
      have hb2 : (k == p.1) = false := by simpa using hk
      simp only [hk, if_false, List.map_cons, List.contains_cons, hb2, Bool.false_or, hb]
theorem getM_out : ∀ (ms : Ms) (k : Nat), (ms.map (·.1)).contains k = false → getM ms k = .abs
  | [], k, _ => rfl
  | p :: l, k, h => by
    simp only [List.map_cons, List.contains_cons, Bool.or_eq_false_iff] at h
    simp only [getM]
    split
    · rename_i h2; have := beq_t h2; subst this; simp at h
    · exact getM_out l k h.2
theorem of_ls (ts : Ts) (ms : Ms) (h : distinctB (ms.map (·.1)) = true) : ({ St.of n.n ts ms with an := n.an } : St) = St.ls n ts ms := by
  simp only [St.of, St.ls, St.mk.injEq, true_and, and_true]
  refine ⟨lookT_get ts, ?_⟩
  funext k
  rw [lookM_get ms .abs h]
  split
  · rfl
  · rename_i hc; exact (getM_out ms k (by simpa using hc)).symm
theorem keepV_mk {ks : List Nat} {bs : List (Nat × Nat)} {ts : Ts} {ms : Ms} {K : Ts → Ms → Prop} (h : keepV n ks bs ts ms K) : keepOk (St.ls n ts ms) ks bs = true ∧ ∃ ts' ms', (St.ls n ts ms).keepR ks bs = St.ls n ts' ms' ∧ K ts' ms' := by
  obtain ⟨h1, h2⟩ := okK_mk h
  have h2 := keepM_mk (keepT_mk (K := fun ts' => keepM bs ms bs fun ms' => K ts' ms') h2)
  refine ⟨h1, _, _, ?_, h2⟩
  have hd : distinctB (bs.map (·.1)) = true := by
    unfold keepOk at h1
    simp only [Bool.and_eq_true] at h1
    exact h1.1.1.1.1
  refine of_ls _ _ ?_
  rw [List.map_map]
  exact hd
/-- A loop by its rounds: a family of states at the head, and a measure. -/
theorem LoopG.rounds {α : Type} (hT : T.ok P) (hm : P.follows .mixedOrders = true) {c : Code} {Q : Ex → Ts → Ms → Prop} {ts : Ts} {ms : Ms} (ks : List Nat) (bs : List (Nat × Nat)) (S : α → Ts) (M : α → Ms) (J : α → Prop) (μ : α → Nat)
    (h0 : keepV n ks bs ts ms (HeadG S M J)) (hs : ∀ a, J a → (∀ k d, (getT (S a) k).facts d) → (∀ b d, (getM (M a) b).facts d) → ev P T n c (roundV n ks bs S M (fun b => J b ∧ μ b < μ a) Q) (S a) (M a)) : LoopG P c (QL n Q) (St.ls n ts ms) := by
  refine ⟨?_⟩
  obtain ⟨h1, ts', ms', h2, a, h3, rfl, rfl⟩ := keepV_mk (n := n) h0
  refine WP.keepR ks bs ⟨h1, ?_⟩
  rw [h2]
  refine WP.rounds ks bs (fun m st => ∃ a, J a ∧ μ a = m ∧ st = St.ls n (S a) (M a)) (μ a) ⟨a, h3, rfl, rfl⟩ ?_
  rintro m st ⟨a, ha, rfl, rfl⟩
  refine WP.preF fun hF => (ev_mk hT hm (hs a ha hF.1 hF.2)).mono fun e st hq => ?_
  obtain ⟨ts, ms, rfl, hq⟩ := hq
  cases e with
  | normal =>
    obtain ⟨h1, ts', ms', h2, b, ⟨h3, h4⟩, rfl, rfl⟩ := keepV_mk (n := n) hq
    refine ⟨h1, μ b, h4, b, h3, rfl, h2⟩
  | exit i => exact ⟨_, _, rfl, hq⟩
  | ret => exact ⟨_, _, rfl, hq⟩

theorem br_t {b : Bool} {X Y : Prop} (h : b = true) (x : X) : BrS b X Y := ⟨fun _ => x, fun h' => Bool.noConfusion (h.symm.trans h')⟩
theorem br_f {b : Bool} {X Y : Prop} (h : b = false) (y : Y) : BrS b X Y := ⟨fun h' => Bool.noConfusion (h.symm.trans h'), fun _ => y⟩
theorem br_s {b : Bool} {X Y : Prop} (x : b = true → X) (y : b = false → Y) : BrS b X Y := ⟨x, y⟩
theorem and_s {a b : Bool} (h1 : a = true) (h2 : b = true) : (a && b) = true := by rw [h1, h2]; rfl
theorem rq_s {b : Bool} {X : Prop} (h : b = true) (x : X) : RqS b X := ⟨h, x⟩
theorem sh_s {x y : AV} (h : x = y) : ShG x y := ⟨h ▸ Sh.refl x⟩
theorem row_s {row row' : List AV} {K : List AV → Prop} (h : row = row') (k : K row') : RowG row K := ⟨row', h, k⟩
theorem rows_s {rows rows' : List (List AV)} {K : List (List AV) → Prop} (h : rows = rows') (k : K rows') : RowsG rows K := ⟨rows', h, k⟩
theorem sub_all {rows : List (List AV)} {n : Nat} (h : n = rows.length) : subA rows 0 n = rows := by subst h; simp [subA]
theorem call_s {f : FuncId} {as : List AV} {K : AV → Prop} {res : AV} (h : Con P f as (undefs as) res) (k : K res) : CallG P f as K := ⟨res, h, k⟩
theorem lend_s {f : FuncId} {L A : Prop} {H : Nat → Prop} (h : L) : CallX f L H A := .lend h
theorem hand_s (f : FuncId) (j : Nat) {L A : Prop} {H : Nat → Prop} (h : H j) : CallX f L H A := .hand j h
theorem handA_s (f : FuncId) {L A : Prop} {H : Nat → Prop} (h : A) : CallX f L H A := .handA h
theorem handAc_s {f : FuncId} {gv : Gv} {args ys os : List AV} {K : List AV → AV → Prop} {os' : List AV} {res : AV} (h : Con P f (.agg args :: ys) (.agg os' :: os) res) (h1 : szOk gv os') (k : K os' res) : HandAG P f gv args ys os K := ⟨os', res, h, h1, k⟩
theorem handc_s {f : FuncId} {as os : List AV} {j : Nat} {rows : List (List AV)} {z : List AV} {any : Bool} {K : MB → AV → Prop} {lvl' : Nat} {z' : List AV} {rows' : List (List AV)} {res : AV} (h : Con P f as (os.set j (.own lvl' z' rows')) res)
    (h1 : rows'.length = rows.length) (h2 : (Nat.beq z'.length z.length && Nat.ble lvl' 1) = true) (h3 : (!any || (res.nr && lvl' == 0)) = true) (k : K (.live ⟨true, lvl', z', rows'⟩) res) : HandG P f as os j rows z any K := ⟨lvl', z', rows', res, h, h1, h2, h3, k⟩
theorem nil_s {n : Nat} {K : Bool → Prop} (h1 : n = 0 → K true) (h2 : K false) : NilG n K := ⟨fun b hb => by cases b; exact h2; exact h1 (hb rfl)⟩
theorem aft_s {x o y : AV} {n : Option Nat} {X : Prop} (h1 : x.rowsN = n) (h2 : o = y) (k : X) : AftG x o y n X := ⟨h1, h2, k⟩
theorem fac_s {F : Nat → Prop} {X : Prop} (h : (∀ d, F d) → X) : FacG F X := ⟨h⟩
theorem LoopG.facts {c : Code} {Q : Ex → St → Prop} {ts : Ts} {ms : Ms} (h : (∀ k d, (getT ts k).facts d) → (∀ b d, (getM ms b).facts d) → LoopG P c Q (St.ls n ts ms)) : LoopG P c Q (St.ls n ts ms) :=
  ⟨WP.preF fun hf => (h hf.1 hf.2).wp⟩
def factsA : List AV → Prop
  | [] => True
  | x :: l => (∀ d, x.facts d) ∧ factsA l
theorem factsA_mk : ∀ {l : List AV}, (∀ x ∈ l, ∀ d, x.facts d) → factsA l
  | [], _ => trivial
  | x :: l, h => ⟨h x (by simp), factsA_mk fun y hy => h y (by simp [hy])⟩
/-- A contract, by the quick walk, with what its arguments obey. -/
theorem Con.evF {f : FuncId} {fn : Func} {c : Code} {xs : List AV} {res : AV} (n : Nat) (hT : T.ok P) (hm : P.follows .mixedOrders = true) (hf : P.funcs[f]? = some fn) (hn : (fn.name == "runtime.NumGoroutine") = false) (hb : fn.body = some c)
    (hok : xs.all impValOk = true) (hnn : xs.length + (fn.ntmps - xs.length) = n) (rs : List ResultVar) (hrs : fn.results.toList = rs)
    (h : factsA xs → enterV xs fun ts ms => Go.Abs.ev P T ⟨n, []⟩ c (retQV T rs res) ts ms) : Con P f xs (undefs xs) res :=
  Con.facts ⟨fn, hf, hn, by rw [hb]; rfl⟩ fun hF => Con.ev n hT hm hf hn hb hok hnn rs hrs (h (factsA_mk hF))
theorem head_s {α : Type} {S : α → Ts} {M : α → Ms} {J : α → Prop} {ts : Ts} {ms : Ms} (a : α) (h1 : J a) (h2 : ts = S a) (h3 : ms = M a) : HeadG S M J ts ms := ⟨a, h1, h2, h3⟩

theorem TT.ok_nil : TT.ok [] P := fun t i h => by cases h
theorem TT.ok_cons {t : Nat} {i : TI} (h : tiOf P t = some i) (hT : TT.ok T P) : TT.ok ((t, i) :: T) P := fun t' i' h' => by
  simp only [TT.get] at h'
  split at h'
  · rename_i e; injection h' with h'; subst h'; rw [← beq_t e]; exact h
  · exact hT _ _ h'
end
end Go.Abs
