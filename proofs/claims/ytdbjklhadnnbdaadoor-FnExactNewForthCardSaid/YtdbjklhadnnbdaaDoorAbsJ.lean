/- The abstract layer, 21: what the simplifier is told. -/
import Derived.Test.YtdbjklhadnnbdaaDoorAbsI
set_option linter.unusedVariables false
set_option linter.unusedSimpArgs false
noncomputable section
namespace Go.Abs
open Go

/-! ### States by their lists -/
def lookT : List (Nat × AV) → Nat → AV
  | [], _ => .undef
  | p :: l, k => if k = p.1 then p.2 else lookT l k
def lookM : List (Nat × MB) → MB → Nat → MB
  | [], d, _ => d
  | p :: l, d, k => lookM l (if k = p.1 then p.2 else d) k
def St.of (n : Nat) (ts : List (Nat × AV)) (ms : List (Nat × MB)) : St := ⟨n, lookT ts, lookM ms .abs, []⟩
def number (k : Nat) : List AV → List (Nat × AV)
  | [] => []
  | x :: l => (k, x) :: number (k + 1) l
def AV.in0 (bs : List Nat) : AV → Bool
  | .ref b _ _ => bs.contains b
  | .ptr b _ _ => bs.contains b
  | _ => true
def AV.in1 (bs : List Nat) : AV → Bool
  | .fn _ caps => caps.all fun c => c.isPtr && c.in0 bs
  | .ref b _ _ => bs.contains b
  | .ptr b _ _ => bs.contains b
  | .agg _ => false
  | .tup _ => false
  | .obj _ => false
  | _ => true
def AV.inB (bs : List Nat) : AV → Bool
  | .agg cs => cs.all (AV.in1 bs)
  | .tup cs => cs.all (AV.in1 bs)
  | v => v.in1 bs
def inBlk (bs : List Nat) : MB → Bool
  | .live b => b.arr || b.rows.all fun row => row.all (AV.in1 bs)
  | _ => true
/-- The slots and the blocks that are kept. -/
def St.keep (st : St) (ks bs : List Nat) : St := St.of st.n (ks.map fun k => (k, st.t k)) (bs.map fun b => (b, st.m b))

section
variable {P : Program} {T : TT} {st : St}
theorem rq_true (X : Prop) : Rq true X = X := by simp [Rq]
theorem rq_false (X : Prop) : Rq false X = False := by simp [Rq]
theorem br_true (X Y : Prop) : Br true X Y = X := by simp [Br]
theorem br_false (X Y : Prop) : Br false X Y = Y := by simp [Br]
theorem put_t (d : Nat) (v : AV) (k : Nat) : (st.put (some d) v).t k = if k = d then v else st.t k := rfl
theorem put_m (d : Option Nat) (v : AV) (k : Nat) : (st.put d v).m k = st.m k := by cases d <;> rfl
theorem put_n (d : Option Nat) (v : AV) : (st.put d v).n = st.n := by cases d <;> rfl
theorem put_none (v : AV) : st.put none v = st := rfl
theorem mws_nil : st.mws [] = st := rfl
def St.mw (st : St) (b : Nat) (m : MB) : St := { st with m := upd st.m b m }
theorem mws_cons (p : Nat × MB) (l : List (Nat × MB)) : st.mws (p :: l) = (st.mw p.1 p.2).mws l := rfl
theorem mw_t (b : Nat) (m : MB) (k : Nat) : (st.mw b m).t k = st.t k := rfl
theorem mw_n (b : Nat) (m : MB) : (st.mw b m).n = st.n := rfl
theorem mw_m (b : Nat) (m : MB) (k : Nat) : (st.mw b m).m k = if k = b then m else st.m k := rfl
theorem bind_ret {α β : Type} (a : α) (f : α → RP β) : RP.bind (.ret a) f = f a := rfl
theorem bind_tmp {α β : Type} (k : Nat) (c : AV → RP α) (f : α → RP β) : RP.bind (.tmp k c) f = .tmp k fun v => (c v).bind f := rfl
theorem bind_mem {α β : Type} (k : Nat) (c : MB → RP α) (f : α → RP β) : RP.bind (.mem k c) f = .mem k fun v => (c v).bind f := rfl
theorem bind_req {α β : Type} (b : Bool) (c : RP α) (f : α → RP β) : RP.bind (.req b c) f = .req b (c.bind f) := rfl
theorem runK_ret {α : Type} (a : α) (K : α → Prop) : (RP.ret a).runK st K = K a := rfl
theorem runK_tmp {α : Type} (k : Nat) (c : AV → RP α) (K : α → Prop) : (RP.tmp k c).runK st K = (c (st.t k)).runK st K := rfl
theorem runK_mem {α : Type} (k : Nat) (c : MB → RP α) (K : α → Prop) : (RP.mem k c).runK st K = (c (st.m k)).runK st K := rfl
theorem runK_req {α : Type} (b : Bool) (c : RP α) (K : α → Prop) : (RP.req b c).runK st K = Rq b (c.runK st K) := rfl
theorem runK_fail {α : Type} (K : α → Prop) : (RP.fail : RP α).runK st K = False := rfl
theorem seqK_normal {c : Code} {Q : Ex → St → Prop} : seqK P c Q .normal st = WP P c Q st := rfl
theorem of_t (n : Nat) (ts : List (Nat × AV)) (ms : List (Nat × MB)) (k : Nat) : (St.of n ts ms).t k = lookT ts k := rfl
theorem of_m (n : Nat) (ts : List (Nat × AV)) (ms : List (Nat × MB)) (k : Nat) : (St.of n ts ms).m k = lookM ms .abs k := rfl
theorem of_n (n : Nat) (ts : List (Nat × AV)) (ms : List (Nat × MB)) : (St.of n ts ms).n = n := rfl
theorem lookT_nil (k : Nat) : lookT [] k = .undef := rfl
theorem lookT_cons (p : Nat × AV) (l : List (Nat × AV)) (k : Nat) : lookT (p :: l) k = if k = p.1 then p.2 else lookT l k := rfl
theorem lookM_nil (d : MB) (k : Nat) : lookM [] d k = d := rfl
theorem lookM_cons (p : Nat × MB) (l : List (Nat × MB)) (d : MB) (k : Nat) : lookM (p :: l) d k = lookM l (if k = p.1 then p.2 else d) k := rfl

theorem mws_look : ∀ (l : List (Nat × MB)) (st : St) (k : Nat), (st.mws l).m k = lookM l (st.m k) k
  | [], _, _ => rfl
  | p :: l, st, k => mws_look l _ k
theorem number_look : ∀ (l : List AV) (j k : Nat), lookT (number j l) k = if j ≤ k then l.getD (k - j) .undef else .undef
  | [], j, k => by simp [number, lookT]
  | x :: l, j, k => by
    simp only [number, lookT]
    rw [number_look l (j + 1) k]
    by_cases h : k = j
    · subst h; simp
    · rw [if_neg h]
      by_cases h2 : j + 1 ≤ k
      · rw [if_pos h2, if_pos (by omega)]
        obtain ⟨m, rfl⟩ : ∃ m, k = j + 1 + m := ⟨k - (j + 1), by omega⟩
        rw [show j + 1 + m - (j + 1) = m by omega, show j + 1 + m - j = m + 1 by omega]
        rfl
      · rw [if_neg h2, if_neg (by omega)]
theorem enter_of (n : Nat) (as : List AV) : enter n as = St.of n (number 0 (impVals e0 as).1) (impVals e0 as).2 := by
  unfold enter St.of
  have h1 : (fun k => (impVals e0 as).1.getD k .undef) = lookT (number 0 (impVals e0 as).1) := by
    funext k; rw [number_look]; simp
  have h2 : (St.mws ⟨n, fun _ => .undef, fun _ => .abs, []⟩ (impVals e0 as).2).m = lookM (impVals e0 as).2 .abs := by
    funext k; rw [mws_look]
  rw [h1, ← h2]
  simp only [mws_n, mws_an]

theorem Con.of {f : FuncId} {fn : Func} {c : Code} {as : List AV} {res : AV} (n : Nat) (hT : T.ok P) (hf : P.funcs[f]? = some fn) (hn : (fn.name == "runtime.NumGoroutine") = false) (hb : fn.body = some c) (hok : as.all impValOk = true)
    (hnn : as.length + (fn.ntmps - as.length) = n) (rs : List ResultVar) (hrs : fn.results.toList = rs)
    (h : WP P c (retQ T rs res) (St.of n (number 0 (impVals e0 as).1) (impVals e0 as).2)) : Con P f as (undefs as) res := by
  refine Con.of_WP hT hf hn hb hok ?_
  rw [enter_of, hnn, hrs]
  exact h

variable {w : World} {R : Cells} {E : Env} {a : Act} {X : Cells}
def cut (loc : Locs) (bs : List Nat) : Locs := fun b => if bs.contains b = true then loc b else none
theorem cut_in {loc : Locs} {bs : List Nat} {b : Nat} (h : bs.contains b = true) : cut loc bs b = loc b := if_pos h

theorem AR.in0 {loc : Locs} {x : AV} {v : Value} {O : Cells} {bs : List Nat} (h : AR w R loc x v O) (hx : x.isPtr = true) (hb : x.in0 bs = true) : AR w R (cut loc bs) x v O := by
  cases h with
  | ptr l e hl hbd hi => exact .ptr l e ((cut_in hb).trans hl) hbd hi
  | sc h e => cases x <;> first | exact h.elim | simp [AV.isPtr] at hx
  | _ => simp [AV.isPtr] at hx

theorem AR.in1 {loc : Locs} {x : AV} {v : Value} {O : Cells} {bs : List Nat} (h : AR w R loc x v O) (hb : x.in1 bs = true) : AR w R (cut loc bs) x v O := by
  cases h with
  | sc h e => exact .sc h e
  | ro0 e => exact .ro0 e
  | ro vs e h1 h2 h3 h4 h5 h6 h7 hm => exact .ro vs e h1 h2 h3 h4 h5 h6 h7 hm
  | own0 e => exact .own0 e
  | own vs os h1 h2 h3 h4 h5 h6 h7 h8 h9 h10 hm => exact .own vs os h1 h2 h3 h4 h5 h6 h7 h8 h9 h10 hm
  | ref0 l e hl hn => exact .ref0 l e ((cut_in hb).trans hl) hn
  | ref l e hl hbd hn hcap hbf hm => exact .ref l e ((cut_in hb).trans hl) hbd hn hcap hbf hm
  | ptr l e hl hbd hi => exact .ptr l e ((cut_in hb).trans hl) hbd hi
  | rp vs e h1 h2 h3 h4 => exact .rp vs e h1 h2 h3 h4
  | @fn _ f caps vs _ os hn hxx hu =>
    simp only [AV.in1, List.all_eq_true, Bool.and_eq_true] at hb
    exact .fn os hn (fun k x v h1 h2 => (hxx k x v h1 h2).in0 (hb x (List.mem_of_getElem? h1)).1 (hb x (List.mem_of_getElem? h1)).2) hu
  | obj _ _ _ _ _ _ _ _ _ => simp [AV.in1] at hb
  | agg _ _ _ _ => simp [AV.in1] at hb
  | tup _ _ _ _ => simp [AV.in1] at hb

theorem AR.inB {loc : Locs} {x : AV} {v : Value} {O : Cells} {bs : List Nat} (h : AR w R loc x v O) (hb : x.inB bs = true) : AR w R (cut loc bs) x v O := by
  cases x with
  | agg cs =>
    cases h with
    | sc h e => exact h.elim
    | agg os hn hxx hu =>
      simp only [AV.inB, List.all_eq_true] at hb
      exact .agg os hn (fun k x v h1 h2 => (hxx k x v h1 h2).in1 (hb x (List.mem_of_getElem? h1))) hu
  | tup cs =>
    cases h with
    | sc h e => exact h.elim
    | tup os hn hxx hu =>
      simp only [AV.inB, List.all_eq_true] at hb
      exact .tup os hn (fun k x v h1 h2 => (hxx k x v h1 h2).in1 (hb x (List.mem_of_getElem? h1))) hu
  | _ => exact h.in1 hb

theorem lookT_map (st : St) : ∀ (ks : List Nat) (k : Nat), lookT (ks.map fun k => (k, st.t k)) k = if ks.contains k = true then st.t k else .undef
  | [], k => by simp [lookT]
  | j :: ks, k => by
    simp only [List.map_cons, lookT, lookT_map st ks k]
    by_cases h : k = j
    · subst h; simp
    · simp [h]
theorem lookM_map (st : St) : ∀ (bs : List Nat) (d : MB) (b : Nat), (bs.contains b = true → lookM (bs.map fun b => (b, st.m b)) d b = st.m b) ∧ (bs.contains b = false → lookM (bs.map fun b => (b, st.m b)) d b = d)
  | [], d, b => by simp [lookM]
  | j :: bs, d, b => by
    simp only [List.map_cons, lookM]
    by_cases h : b = j
    · subst h
      simp only [if_true]
      by_cases h2 : bs.contains b = true
      · have := (lookM_map st bs (st.m b) b).1 h2
        simp [this]
      · have := (lookM_map st bs (st.m b) b).2 (by simpa using h2)
        simp [this]
    · simp only [if_neg h]
      have := lookM_map st bs d b
      simp only [List.contains_cons, beq_iff_eq, h, Bool.or_eq_true, false_or, Bool.or_eq_false_iff]
      refine ⟨this.1, fun hh => this.2 hh.2⟩

theorem WP.reg {Q : Ex → St → Prop} (hT : T.ok P) {id : Nat} {ops : Array Oper} (h : regW P T ops.toList ops.toList st (Q .normal)) : WP P (.region id ops false) Q st := fun E tb a w hr => by
  refine wp_region ?_
  have := regW_ok hT tb (Q := Lift E Q) ops.toList 0 st a w (Q .normal) (fun j => by simp) hr h fun st' a' w' hk h' => ⟨st', hk, h'⟩
  rwa [Array.length_toList, ← List.range_eq_range'] at this
theorem regW_op {ops rest : List Oper} {o : Oper} {K : St → Prop} (hg : o.guard = none) (h : ∀ K' : St → Prop, (∀ s, regW P T ops rest s K → K' s) → opW P T o st K') : regW P T ops (o :: rest) st K := by
  have := h (fun s => ∃ s', StL s s' ∧ regW P T ops rest s' K) fun s h => ⟨s, StL.refl s, h⟩
  simp only [regW, stepW, guardOf, hg]
  exact this
theorem regW_gd {ops rest : List Oper} {o : Oper} {K : St → Prop} {d : Nat} {want : Bool} (hg : guardOf ops o = some (some (d, want)))
    (h : ∀ K' : St → Prop, (∀ s, regW P T ops rest s K → K' s) → Rq (st.dstOk o.dst) (guardW d want o st (fun st' => opW P T o st' K') K' (st.t d))) : regW P T ops (o :: rest) st K := by
  have := h (fun s => ∃ s', StL s s' ∧ regW P T ops rest s' K) fun s h => ⟨s, StL.refl s, h⟩
  simp only [regW, stepW, hg]
  exact this
theorem regW_nil {ops : List Oper} {K : St → Prop} (h : K st) : regW P T ops [] st K := h
theorem br_intro {b : Bool} {X Y : Prop} (h1 : b = true → X) (h2 : b = false → Y) : Br b X Y := ⟨h1, h2⟩

end
end Go.Abs
