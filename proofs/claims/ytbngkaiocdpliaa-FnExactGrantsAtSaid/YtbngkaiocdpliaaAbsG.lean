/- The abstract layer, 18: regions. -/
import Derived.Test.YtbngkaiocdpliaaAbsF
set_option linter.unusedVariables false
set_option linter.unusedSimpArgs false
namespace Go.Abs
open Go

/-! ### Definitions -/
def callA (c : Call) (fo : Operand) : RP (AV × List AV × List AV) := (opnd fo).bind fun fv => (opnds c.args.toList).bind fun as => (lendVals as).bind fun ys => .ret (fv, as, ys)

/-- A call's result comes to rest. -/
def landW (o : Oper) (st : St) (res : AV) (K : St → Prop) : Prop := match o.dst with
  | none => K st
  | some d => Rq (impResOk res) (Rq ((impRes (cid d 0) res).2.all fun p => match st.m p.1 with | .abs => true | _ => false) (Rq (decide (d < st.n)) (K ((st.mws (impRes (cid d 0) res).2).put (some d) (impRes (cid d 0) res).1))))
/-- A slice is handed over whole, and comes back as the callee has left it. -/
def handW (P : Program) (o : Oper) (st : St) (K : St → Prop) (f : FuncId) (as : List AV) (j : Nat) : Prop :=
  ∃ b lvl z rows ys lvl' z' rows' res, as[j]? = some (.ref b 0 rows.length) ∧ st.m b = .live ⟨true, lvl, z, rows⟩ ∧ lvl ≤ 1 ∧ (lendVals (as.set j .undef)).run (st.mws [(b, .dead)]) = some ys ∧
    Con P f (ys.set j (.own lvl z rows)) ((undefs as).set j (.own lvl' z' rows')) res ∧ rows'.length = rows.length ∧ z'.length = z.length ∧ lvl' ≤ 1 ∧
    (!((as.set j .undef).any AV.hasRef) || (res.nr && lvl' == 0)) = true ∧ landW o (st.mws [(b, .live ⟨true, lvl', z', rows'⟩)]) res K
def callW (P : Program) (o : Oper) (st : St) (K : St → Prop) (q : AV × List AV × List AV) : Prop := match q.1 with
  | .fn f caps => match caps with
    | [] => (∃ res, Con P f q.2.2 (undefs q.2.2) res ∧ Rq (!(q.2.1.any AV.hasRef) || res.nr) (landW o st res K)) ∨ ∃ j, handW P o st K f q.2.1 j
    | _ => False
  | _ => False
def opR (T : TT) (o : Oper) (st : St) (K : St → Prop) : Prop := Rq (st.dstOk o.dst) ((evOp T o).runK st fun r => K (st.after o r))
/-- One operation. -/
def opW (P : Program) (T : TT) (o : Oper) (st : St) (K : St → Prop) : Prop := match o.op with
  | .call c => match c.callee with
    | .value f => (callA c f).runK st (callW P o st K)
    | _ => opR T o st K
  | _ => opR T o st K
/-- The slot and the wish of a guard. -/
def guardOf (ops : List Oper) (o : Oper) : Option (Option (Nat × Bool)) := match o.guard with
  | none => some none
  | some (j, want) => match ops[j]? with
    | some g => match g.dst with
      | some d => some (some (d, want))
      | none => none
    | none => none
def guardW (d : Nat) (want : Bool) (o : Oper) (st : St) (X : St → Prop) (K : St → Prop) : AV → Prop
  | .bool b => Br b
      (if want = true then X (st.put (some d) (.bool true)) else K ((st.put (some d) (.bool true)).put o.dst .undef))
      (if want = true then K ((st.put (some d) (.bool false)).put o.dst .undef) else X (st.put (some d) (.bool false)))
  | _ => False
def stepW (P : Program) (T : TT) (ops : List Oper) (o : Oper) (st : St) (K : St → Prop) : Prop := match guardOf ops o with
  | some none => opW P T o st K
  | some (some q) => Rq (st.dstOk o.dst) (guardW q.1 q.2 o st (fun st' => opW P T o st' K) K (st.t q.1))
  | none => False
def regW (P : Program) (T : TT) (ops : List Oper) : List Oper → St → (St → Prop) → Prop
  | [], st, K => K st
  | o :: rest, st, K => stepW P T ops o st fun st' => regW P T ops rest st' K

section
variable {P : Program} {T : TT} {E : Env} {o : Oper} {st : St} {a : Act} {w : World} {X : Cells} {loc : Locs} {ob : Nat → Cells} {r : Res}

theorem opR_ok (hT : T.ok P) (h : Rel E st a w none2) {K : St → Prop} (hk : opR T o st K) {next : Act → World → Prop} {Q : Exit → Act → World → Prop} (hn : ∀ st' a' w', K st' → Rel E st' a' w' none2 → next a' w') :
    o.wp P a w next Q := by
  obtain ⟨loc, ob, h⟩ := h
  obtain ⟨hd, hr⟩ := hk
  obtain ⟨r, hr, hK⟩ := runK_run hr
  obtain ⟨nx, a', w', h1, h2, h3⟩ := did_next hd (evOp_ok hT h hr)
  unfold Oper.wp
  rw [h1]
  rcases h2 with ⟨v, rfl, rfl⟩ | ⟨rfl, rfl⟩
  · exact hn _ _ _ hK h3
  · exact hn _ _ _ hK h3

theorem landW_took {res : AV} {K : St → Prop} (h : landW o st res K) : ∃ st', tookIn o st res st' ∧ K st' := by
  unfold landW at h
  split at h
  · rename_i hd
    exact ⟨st, by unfold tookIn; rw [hd], h⟩
  · rename_i d hd
    obtain ⟨h1, h2, h3, h4⟩ := h
    refine ⟨_, ?_, h4⟩
    unfold tookIn
    rw [hd]
    refine ⟨h1, fun p hp => ?_, of_decide_eq_true h3, rfl⟩
    have := List.all_eq_true.1 h2 p hp
    cases hm : st.m p.1 with
    | abs => rfl
    | _ => rw [hm] at this; cases this

/-- What a call has read may be read on. -/
theorem back_RS (h : RelC E st a w X loc ob) {w' : World} {O' Rc : Cells} {nr : Bool} (hRc : ∀ g o, Rc g o → RS E w (Owned ob X) g o ∨ (nr = true ∧ ∃ b, ob b g o)) (hn : nr = false) (hlt : ∀ b g o, ob b g o → g < w.heap.size) (hdx : ∀ b g o, ob b g o → ¬ RS E w (Owned ob X) g o) (hX : ∀ g o, X g o → E.O0 g o ∨ E.w0.heap.size ≤ g)
    (hF : Frame w w' X) : ∀ g o, RS ⟨w, Rc, X, noLoc⟩ w' O' g o → RS E w' (Owned ob O') g o := by
  intro g o ⟨h1, h2, h3⟩
  refine ⟨?_, h2, ?_⟩
  · rcases h1 with h1 | h1 | h1
    · rcases hRc g o h1 with h1 | ⟨hh, _⟩
      · exact h1.1
      · rw [hn] at hh; cases hh
    · rcases hX g o h1 with h1 | h1
      · exact .inr (.inl h1)
      · exact .inr (.inr h1)
    · exact .inr (.inr (Nat.le_trans h.fr.size h1))
  · rintro (⟨b, k⟩ | k)
    · rcases h1 with h1 | h1 | h1
      · rcases hRc g o h1 with h1 | ⟨hh, _⟩
        · exact h1.2.2 (.inl ⟨b, k⟩)
        · rw [hn] at hh; cases hh
      · exact h.dx b g o k h1
      · have h4 : g < w.heap.size := hlt b g o k
        have h5 : w.heap.size ≤ g := h1
        omega
    · exact h3 k
theorem AR.own_flat {R R' : Cells} {loc loc' : Locs} {z : List AV} {rows : List (List AV)} {v : Value} {O : Cells} (h : AR w R loc (.own 0 z rows) v O) : AR w R' loc' (.own 0 z rows) v O := by
  cases h with
  | sc h e => exact h.elim
  | own0 e => exact .own0 e
  | own vs os hcap hb hw hc hx hO hd hdd h0 h1 hm => exact .own vs os hcap hb hw hc (fun i j row x k1 k2 => (hx i j row x k1 k2).flat_any (h0 rfl row (List.mem_of_getElem? k1) x (List.mem_of_getElem? k2))) hO hd hdd h0 h1 hm
theorem call_run {c : Call} {fo : Operand} (ho : o.op = .call c) (hc : c.callee = .value fo) {f : FuncId} (hok : FnOk P f) (hf : AR w (RS E w (Owned ob X)) loc (.fn f []) (a.eval fo) none2) :
    (execOp a.eval o).run P w = .ok (.enter f (c.args.toList.map a.eval).toArray) w := by
  have hfv : a.eval fo = .func (.func f) #[] #[] := by
    generalize a.eval fo = ev at hf
    cases hf with
    | sc hs _ => exact hs.elim
    | @fn _ _ _ vs _ os hvn hvx hu =>
      have : vs = #[] := by apply Array.eq_empty_of_size_eq_zero; simpa using hvn
      rw [this]
  obtain ⟨_, op, ty, _, _, _⟩ := o
  subst ho
  simp only [execOp]
  rw [run_call hc hfv hok]
  congr 2
  apply Array.ext'
  simp
theorem handW_ok {c : Call} {fo : Operand} (ho : o.op = .call c) (hc : c.callee = .value fo) (h : RelC E st a w none2 loc ob) {K : St → Prop} {f : FuncId} {as : List AV} {j : Nat} (hf : AR w (RS E w (Owned ob none2)) loc (.fn f []) (a.eval fo) none2)
    (has : (opnds c.args.toList).run st = some as) (hk : handW P o st K f as j) {next : Act → World → Prop} {Q : Exit → Act → World → Prop}
    (hn : ∀ st' a' w', K st' → Rel E st' a' w' none2 → next a' w') : o.wp P a w next Q := by
  obtain ⟨b, lvl, z, rows, ys, lvl', z', rows', res, haj, hm, hlvl, hys, hcon, hrl, hzl, hlvl', hq, hl⟩ := hk
  obtain ⟨st', htook, hK⟩ := landW_took hl
  obtain ⟨hal, hax⟩ := opnds_some h has
  have hjl : j < as.length := (List.getElem?_eq_some_iff.1 haj).1
  have hvl : (c.args.toList.map a.eval).length = as.length := by simpa using hal.symm
  let vals := c.args.toList.map a.eval
  have hvj : vals[j]? = some (vals[j]'(by show j < (c.args.toList.map a.eval).length; omega)) := List.getElem?_eq_getElem _
  generalize hv : vals[j]'(by show j < (c.args.toList.map a.eval).length; omega) = v at hvj
  have hvals : ∀ (k : Nat) x v, as[k]? = some x → vals[k]? = some v → AR w (RS E w (Owned ob none2)) loc x v none2 := fun k x v h1 h2 => by
    simp only [vals, List.getElem?_map, Option.map_eq_some_iff] at h2
    obtain ⟨op, h3, rfl⟩ := h2
    exact hax k x op h1 h3
  have hx := hvals j _ v haj hvj
  obtain ⟨l, hll, hn0, ad, cap, hveq, hcap, hcase⟩ := hx.inv_ref
  -- the general step: what goes over, what comes back
  have step : ∀ (st1 : St) (X1 : Cells) (ob1 : Nat → Cells), RelC E st1 a w X1 loc ob1 → (∀ g o, Owned ob1 X1 g o → Owned ob none2 g o) → (lendVals (as.set j .undef)).run st1 = some ys → AR w (RS E w (Owned ob1 X1)) noLoc (.own lvl z rows) v X1 →
      (∀ (w' : World) (O1 O2 O' : Cells), RelC E st1 a w' O' loc ob1 → (∀ g o, O' g o ↔ O1 g o ∨ O2 g o) → Disj O1 O2 → AR w' (RS E w' (Owned ob1 O')) noLoc (.own lvl' z' rows') v O2 → Frame w w' X1 →
        ∃ ob2, RelC E (st.mws [(b, .live ⟨true, lvl', z', rows'⟩)]) a w' O1 loc ob2 ∧ ∀ g o, Owned ob2 O1 g o → Owned ob1 O' g o) → o.wp P a w next Q := by
    intro st1 X1 ob1 hr1 hsub hys1 hown hback
    let Rc : Cells := fun g o => RS E w (Owned ob1 X1) g o ∨ ((as.set j .undef).any AV.hasRef = true ∧ ∃ b, ob1 b g o)
    have hRc : ∀ g o, RS E w (Owned ob1 X1) g o → Rc g o := fun g o k => .inl k
    have hRSs : ∀ g o, RS E w (Owned ob none2) g o → RS E w (Owned ob1 X1) g o := fun g o k => ⟨k.1, k.2.1, fun n => k.2.2 (hsub g o n)⟩
    have hp := lendVals_ok hr1 hRc (as.set j .undef) ys vals (by simp [vals, ← hal]) hys1 (fun k x u h1 h2 => by
      by_cases hkj : k = j
      · subst hkj
        rw [List.getElem?_set_self (by omega)] at h1
        injection h1 with h1
        subst h1
        exact .sc trivial emp_none2
      · rw [List.getElem?_set_ne (by omega)] at h1
        exact (hvals k x u h1 h2).weak hRSs fun _ _ k => k) (fun hh b g o k => .inr ⟨hh, b, k⟩)
    obtain ⟨hyl, os0, hy0, hu0⟩ := uni_of_parts _ _ _ hp
    have hos0 : ∀ k, k < ys.length → Emp (os0 k) := fun k hk g o m => (hu0.iff g o).2 ⟨k, hk, m⟩
    have hjy : j < ys.length := by rw [← hyl]; show j < (c.args.toList.map a.eval).length; omega
    have hp1 : Parts w Rc noLoc (ys.set j (.own lvl z rows)) vals X1 := by
      refine parts_of_uni _ _ (fun k => if k = j then X1 else none2) _ (by simpa using hyl) (fun k x u h1 h2 => ?_) ⟨fun g o => ?_, fun k1 k2 hk1 hk2 hne => ?_⟩
      · by_cases hkj : k = j
        · subst hkj
          rw [List.getElem?_set_self hjy] at h1
          injection h1 with h1
          subst h1
          rw [hvj] at h2
          injection h2 with h2
          subst h2
          rw [if_pos rfl]
          exact hown.weak hRc fun _ _ k => k
        · rw [List.getElem?_set_ne (by omega)] at h1
          rw [if_neg hkj]
          have hk : k < ys.length := (List.getElem?_eq_some_iff.1 h1).1
          exact (hy0 k x u h1 h2).emp_weak (hos0 k hk) emp_none2
      · constructor
        · intro k; exact ⟨j, by simpa using hjy, by simpa using k⟩
        · rintro ⟨k, _, m⟩
          by_cases hkj : k = j
          · simpa [hkj] using m
          · simp [hkj, none2] at m
      · intro g o m1 m2
        by_cases h1 : k1 = j
        · by_cases h2 : k2 = j
          · exact hne (h1.trans h2.symm)
          · simp [h2, none2] at m2
        · simp [h1, none2] at m1
    have hcalls := hcon.calls w Rc X1 vals hp1 (fun g o k => ⟨by
      rcases k with k | ⟨_, b, k⟩
      · exact k.2.1
      · exact hr1.lt g o (.inl ⟨b, k⟩), fun m => by
      rcases k with k | ⟨_, b, k⟩
      · exact k.2.2 (.inr m)
      · exact hr1.dx b g o k m⟩) (fun g o k => hr1.lt g o (.inr k))
    unfold Oper.wp
    rw [call_run ho hc hcon.ok hf, Oper.upon_enter]
    refine hcalls.mono fun e w' hb => ?_
    cases e with
    | returned u =>
      obtain ⟨O', hF, hO', O1, O2, hOO, hdd, hres, hrest⟩ := hb
      have hrel : RelC E st1 a w' O' loc ob1 := hr1.back (Rc := Rc) hF hO'
      obtain ⟨hul, os2, hx2, hu2⟩ := uni_of_parts _ _ _ hrest
      have hj2 : j < ((undefs as).set j (.own lvl' z' rows')).length := by simp [undefs]; omega
      have hO2 : O2 = os2 j := by
        funext g o
        refine propext ⟨fun k => ?_, fun k => (hu2.iff g o).2 ⟨j, hj2, k⟩⟩
        obtain ⟨k', hk', m⟩ := (hu2.iff g o).1 k
        by_cases hkj : k' = j
        · subst hkj; exact m
        · exfalso
          have h1 : ((undefs as).set j (.own lvl' z' rows'))[k']? = some .undef := by
            rw [List.getElem?_set_ne (by omega)]
            simp [undefs] at hk' ⊢
            exact ⟨_, List.getElem?_eq_getElem hk'⟩
          have h2 : vals[k']? = some (vals[k']'(by rw [hul]; exact hk')) := List.getElem?_eq_getElem _
          cases hx2 k' _ _ h1 h2 with
          | sc _ e => exact e g o m
      have hown' : AR w' (RS ⟨w, Rc, X1, noLoc⟩ w' O') noLoc (.own lvl' z' rows') v O2 := by
        rw [hO2]
        exact hx2 j _ v (List.getElem?_set_self (by simpa [undefs] using hjl)) hvj
      have conv : ((as.set j .undef).any AV.hasRef) = false → ∀ g o, RS ⟨w, Rc, X1, noLoc⟩ w' O' g o → RS E w' (Owned ob1 O') g o := fun hno =>
        back_RS hr1 (nr := (as.set j .undef).any AV.hasRef) (fun g o k => k) hno (fun b g o k => hr1.lt g o (.inl ⟨b, k⟩)) (fun b g o k m => m.2.2 (.inl ⟨b, k⟩)) (fun g o k => hr1.sub g o (.inr k)) hF
      have hpair : AR w' (RS E w' (Owned ob1 O')) noLoc res u O1 ∧ AR w' (RS E w' (Owned ob1 O')) noLoc (.own lvl' z' rows') v O2 := by
        rcases (Bool.or_eq_true _ _).mp hq with hno | hnr
        · have hno : ((as.set j .undef).any AV.hasRef) = false := by simpa using hno
          exact ⟨hres.weak (conv hno) fun _ _ k => k, hown'.weak (conv hno) fun _ _ k => k⟩
        · simp only [Bool.and_eq_true, beq_iff_eq] at hnr
          obtain ⟨hnr, hl0⟩ := hnr
          subst hl0
          exact ⟨hres.nr_any hnr, hown'.own_flat⟩
      obtain ⟨ob2, hrel2, hsub2⟩ := hback w' O1 O2 O' hrel hOO hdd hpair.2 hF
      have hRS2 : ∀ g o, RS E w' (Owned ob1 O') g o → RS E w' (Owned ob2 O1) g o := fun g o k => ⟨k.1, k.2.1, fun n => k.2.2 (hsub2 g o n)⟩
      exact hn st' _ w' hK (took_ok hrel2 (hpair.1.weak hRS2 fun _ _ k => k) htook)
    | panicked ch => exact hb.elim
    | outgrown => exact hb.elim
  by_cases hz : rows.length = 0 ∧ cap = 0
  · -- nothing goes over
    obtain ⟨hr0, rfl⟩ := hz
    have hrows : rows = [] := List.length_eq_zero_iff.1 hr0
    subst hrows
    have hrows' : rows' = [] := List.length_eq_zero_iff.1 hrl
    subst hrows'
    refine step st none2 ob h (fun _ _ k => k) (lendVals_mono hys) (by rw [hveq]; exact .own0 emp_none2) fun w' O1 O2 O' hr hOO hdd hx2 hF => ?_
    refine ⟨ob, ?_, fun g o k => k.elim .inl fun k => .inr ((hOO g o).2 (.inl k))⟩
    refine hr.go none2 rfl rfl (Frame.refl w' _) (fun g o k => ?_) (fun _ _ k => k.elim) (fun _ _ k => k) (fun b' => ?_) hr.db (fun b' g o k1 k2 => hr.dx b' g o k1 ((hOO g o).2 (.inl k2)))
    · have : Owned ob O' g o := k.elim .inl fun k => .inr ((hOO g o).2 (.inl k))
      exact ⟨.inl this, hr.lt g o this⟩
    · by_cases hbb : b' = b
      · subst hbb
        right
        simp only [St.mws, upd, if_true, BF1]
        have hat := hr.lv b' _ hm
        cases hat with
        | arr0 l hl hn hs hbd e => exact .arr0 l hl hn (by rw [hs, hzl]) hbd e
        | arr l vs os hl hbd hs hn hb hw hc hx hO hd hdd h0 h1 hm' =>
          refine .arr l vs os hl hbd (by rw [hs, hzl]) hn (by simpa using hb) ⟨fun row h => by simp at h, fun row h => by simp at h⟩ (fun i j hi => by simp at hi) (fun i j row x h => by simp at h) ?_ (fun i j hi => by simp at hi) (fun i j i' j' hi => by simp at hi) (fun _ row h => by simp at h) (fun _ row h => by simp at h) hm'
          intro g' o'
          rw [hO]
          constructor
          · rintro (k | ⟨i, j, hi, _⟩)
            · exact .inl k
            · simp at hi
          · rintro (k | ⟨i, j, hi, _⟩)
            · exact .inl k
            · simp at hi
      · left
        exact ⟨by simp [St.mws, upd, hbb], rfl, rfl, fun _ _ k => k.elim⟩
  · -- the block goes over
    have hcase := hcase.resolve_left hz
    obtain ⟨hbd, rfl, hBF⟩ := hcase
    have hexp : (expLeaf (.ref b 0 rows.length)).run st = some (.own lvl z (subA rows 0 rows.length), [(b, .dead)]) := by
      simp only [expLeaf, RP.run, hm, arrB, liveA, RP.bind, guardP, if_true]
      simp [hlvl]
    obtain ⟨X1, ob1, O, hL, hown⟩ := expLeaf_ok h hx hexp
    have hX1 : X1 = O := by funext g o; exact propext ((hL.iff g o).trans ⟨fun k => k.resolve_left id, .inr⟩)
    subst hX1
    have hsa : subA rows 0 rows.length = rows := by simp [subA]
    simp only [hsa] at hown
    have hat0 := h.lv b _ hm
    have hs0 : l.s = z.length ∧ l.n = rows.length := by
      obtain ⟨l', hl'⟩ := hat0.loc_some
      cases hat0 with
      | arr0 l2 hl2 hn2 hs2 hbd2 e => rw [hll] at hl2; injection hl2 with hl2; subst hl2; exact ⟨hs2, hn2⟩
      | arr l2 vs os hl2 hbd2 hs2 hn2 _ _ _ _ _ _ _ _ _ _ => rw [hll] at hl2; injection hl2 with hl2; subst hl2; exact ⟨hs2, hn2⟩
    refine step _ X1 ob1 hL.rel hL.own hys hown fun w' O1 O2 O' hr hOO hdd hx2 hF => ?_
    have hdead : (st.mws [(b, .dead)]).m b = .dead := by simp [St.mws, upd]
    have hemp := (hr.dd b hdead).2
    have hsub : ∀ g o, Owned (upd ob1 b O2) O1 g o → Owned ob1 O' g o := by
      rintro g o (⟨b', k⟩ | k)
      · by_cases hbb : b' = b
        · subst hbb; simp only [upd, if_true] at k; exact .inr ((hOO g o).2 (.inr k))
        · simp only [upd, hbb, if_false] at k; exact .inl ⟨b', k⟩
      · exact .inr ((hOO g o).2 (.inl k))
    have hRS3 : ∀ g o, RS E w' (Owned ob1 O') g o → RS E w' (Owned (upd ob1 b O2) O1) g o := fun g o k => ⟨k.1, k.2.1, fun n => k.2.2 (hsub g o n)⟩
    refine ⟨upd ob1 b O2, ?_, hsub⟩
    refine hr.go none2 rfl rfl (Frame.refl w' _) (fun g o k => ⟨.inl (hsub g o k), hr.lt g o (hsub g o k)⟩) (fun _ _ k => k.elim) (fun _ _ k => k) (fun b' => ?_) (fun b1 b2 hne g o k1 k2 => ?_) (fun b1 g o k1 k2 => ?_)
    · by_cases hbb : b' = b
      · subst hbb
        right
        simp only [St.mws, upd, if_true, BF1]
        rw [hveq] at hx2
        generalize hve : (Value.slice (some ⟨l.g, l.base + 0 * l.s, none⟩) rows.length cap : Value) = v2 at hx2
        cases hx2 with
        | sc h e => exact h.elim
        | own0 e => simp only [Value.slice.injEq] at hve; exact (hz ⟨hve.2.1, hve.2.2⟩).elim
        | @own _ _ _ _ g oo cap2 _ vs os hcap2 hb2 hw2 hc2 hxx2 hO2 hd2 hdd2 h02 h12 hm2 =>
          simp only [Value.slice.injEq, Option.some.injEq, Addr.mk.injEq, Nat.zero_mul, Nat.add_zero] at hve
          obtain ⟨⟨rfl, rfl, _⟩, _, rfl⟩ := hve
          exact .arr l vs os hll hbd (by rw [hs0.1, hzl]) (by rw [hs0.2, hrl]) (hb2.mono (Nat.add_le_add_left (Nat.mul_le_mul_right _ hcap2) _)) hw2 hc2 (fun i j row x k1 k2 => (hxx2 i j row x k1 k2).weak hRS3 fun _ _ k => k) hO2 hd2 hdd2 h02 h12 hm2
      · left
        exact ⟨by simp [St.mws, upd, hbb], by simp [upd, hbb], rfl, fun _ _ k => k.elim⟩
    · by_cases h1 : b1 = b
      · subst h1
        have h2 : ¬ b2 = b1 := fun e => hne e.symm
        simp only [upd, if_true, h2, if_false] at k1 k2
        exact hr.dx b2 g o k2 ((hOO g o).2 (.inr k1))
      · by_cases h2 : b2 = b
        · subst h2
          simp only [upd, if_true, h1, if_false] at k1 k2
          exact hr.dx b1 g o k1 ((hOO g o).2 (.inr k2))
        · simp only [upd, h1, h2, if_false] at k1 k2
          exact hr.db b1 b2 hne g o k1 k2
    · by_cases h1 : b1 = b
      · subst h1
        simp only [upd, if_true] at k1
        exact hdd g o k2 k1
      · simp only [upd, h1, if_false] at k1
        exact hr.dx b1 g o k1 ((hOO g o).2 (.inl k2))

theorem callW_ok {c : Call} {fo : Operand} (ho : o.op = .call c) (hc : c.callee = .value fo) (h : Rel E st a w none2) {K : St → Prop} (hk : (callA c fo).runK st (callW P o st K)) {next : Act → World → Prop} {Q : Exit → Act → World → Prop}
    (hn : ∀ st' a' w', K st' → Rel E st' a' w' none2 → next a' w') : o.wp P a w next Q := by
  obtain ⟨loc, ob, h⟩ := h
  obtain ⟨q, hq, hk⟩ := runK_run hk
  obtain ⟨fv, hf0, hq1⟩ := bind_some hq
  obtain ⟨as, has, hq2⟩ := bind_some hq1
  obtain ⟨ys, hys, hq3⟩ := bind_some hq2
  obtain rfl := ret_some hq3
  have hf := opnd_some h hf0
  clear hf0 hq hq1 hq2 hq3
  unfold callW at hk
  simp only at hk
  split at hk
  case h_2 => exact hk.elim
  rename_i f caps
  split at hk
  case h_2 => exact hk.elim
  rcases hk with hk | ⟨j, hk⟩
  case inr => exact handW_ok ho hc h hf has hk hn
  obtain ⟨res, hcon, hqq, hl⟩ := hk
  obtain ⟨st', htook, hK⟩ := landW_took hl
  have hfv : a.eval fo = .func (.func f) #[] #[] := by
    generalize a.eval fo = ev at hf
    cases hf with
    | sc hs _ => exact hs.elim
    | @fn _ _ _ vs _ os hvn hvx hu =>
      have : vs = #[] := by apply Array.eq_empty_of_size_eq_zero; simpa using hvn
      rw [this]
  obtain ⟨hal, hax⟩ := opnds_some h has
  let Rc : Cells := fun g o => RS E w (Owned ob none2) g o ∨ (as.any AV.hasRef = true ∧ ∃ b, ob b g o)
  have hRc : ∀ g o, RS E w (Owned ob none2) g o → Rc g o := fun g o k => .inl k
  have hp := lendVals_ok h hRc as ys (c.args.toList.map a.eval) (by simpa using hal.symm) hys (fun k x v h1 h2 => by
    simp only [List.getElem?_map, Option.map_eq_some_iff] at h2
    obtain ⟨op, h3, rfl⟩ := h2
    exact hax k x op h1 h3) (fun hh b g o k => .inr ⟨hh, b, k⟩)
  have hcalls := hcon.calls w Rc none2 (c.args.toList.map a.eval) hp (fun g o k => ⟨by
    rcases k with k | ⟨_, b, k⟩
    · exact k.2.1
    · exact h.lt g o (.inl ⟨b, k⟩), fun k => k.elim⟩) (fun g o k => k.elim)
  unfold Oper.wp
  have hrun : (execOp a.eval o).run P w = .ok (.enter f (c.args.toList.map a.eval).toArray) w := by
    obtain ⟨_, op, ty, _, _, _⟩ := o
    subst ho
    simp only [execOp]
    rw [run_call hc hfv hcon.ok]
    congr 2
    apply Array.ext'
    simp
  rw [hrun, Oper.upon_enter]
  refine hcalls.mono fun e w' hb => ?_
  cases e with
  | returned v =>
    obtain ⟨O', hF, hO', O1, O2, hOO, hdd, hres, hrest⟩ := hb
    have hemp2 := parts_undefs _ _ _ hrest
    have hO1 : O1 = O' := by
      funext g o
      exact propext ⟨fun k => (hOO g o).2 (.inl k), fun k => ((hOO g o).1 k).resolve_right (hemp2 g o)⟩
    subst hO1
    have hrel : RelC E st a w' O1 loc ob := h.back (Rc := Rc) hF hO'
    have hres' : AR w' (RS E w' (Owned ob O1)) noLoc res v O1 := by
      rcases (Bool.or_eq_true _ _).mp hqq with hno | hnr
      · refine hres.weak (fun g o k => ?_) (fun _ _ k => k)
        obtain ⟨h1, h2, h3⟩ := k
        have hno : as.any AV.hasRef = false := by simpa using hno
        have hobn : ∀ b, w.heap.size ≤ g → ¬ ob b g o := fun b hle k => by have := h.lt g o (.inl ⟨b, k⟩); omega
        refine ⟨?_, h2, ?_⟩
        · rcases h1 with (h1 | ⟨hh, _⟩) | h1 | h1
          · exact h1.1
          · rw [hno] at hh; cases hh
          · exact h1.elim
          · exact .inr (.inr (Nat.le_trans h.fr.size h1))
        · rintro (⟨b, k⟩ | k)
          · rcases h1 with (h1 | ⟨hh, _⟩) | h1 | h1
            · exact h1.2.2 (.inl ⟨b, k⟩)
            · rw [hno] at hh; cases hh
            · exact h1.elim
            · exact hobn b h1 k
          · exact h3 k
      · exact hres.nr_any hnr
    exact hn st' _ w' hK (took_ok hrel hres' htook)
  | panicked ch => exact hb.elim
  | outgrown => exact hb.elim

theorem opW_ok (hT : T.ok P) (h : Rel E st a w none2) {K : St → Prop} (hk : opW P T o st K) {next : Act → World → Prop} {Q : Exit → Act → World → Prop} (hn : ∀ st' a' w', K st' → Rel E st' a' w' none2 → next a' w') :
    o.wp P a w next Q := by
  unfold opW at hk
  split at hk
  · rename_i c ho
    split at hk
    · rename_i f hc
      exact callW_ok ho hc h hk hn
    · exact opR_ok hT h hk hn
  · exact opR_ok hT h hk hn

theorem put_same {d : Nat} {v : AV} (h : st.t d = v) : st.put (some d) v = st := by
  unfold St.put upd
  have : (fun x => if x = d then v else st.t x) = st.t := by
    funext x
    by_cases hx : x = d
    · subst hx; simp [h]
    · simp [hx]
  simp only [this]

theorem Rel.put_undef (h : Rel E st a w X) {d : Option Nat} (hd : st.dstOk d = true) : Rel E (st.put d .undef) (a.put d undef) w X := by
  obtain ⟨loc, ob, h⟩ := h
  exact ⟨loc, ob, h.put d .undef undef hd fun _ => .sc trivial emp_none2⟩

theorem slot_bool (h : Rel E st a w X) {d : Nat} {b : Bool} (hb : st.t d = .bool b) : a.tmps[d]? = some (.bool b) := by
  obtain ⟨loc, ob, h⟩ := h
  have := h.tm d
  rw [hb] at this
  have := this.inv_bool
  cases hd : a.tmps[d]? with
  | none =>
    simp [hd] at this
    cases this
  | some v =>
    simp [hd] at this
    rw [this]

theorem stepW_ok (hT : T.ok P) {ops : Array Oper} (h : Rel E st a w none2) {K : St → Prop} (hk : stepW P T ops.toList o st K) {next : Act → World → Prop} {Q : Exit → Act → World → Prop} (hn : ∀ st' a' w', K st' → Rel E st' a' w' none2 → next a' w') :
    if Region.wanted o (yielded ops a.tmps) then o.wp P a w next Q ∨ (o.asks P a w ∧ LetsOut Q) else next (a.put o.dst undef) w := by
  unfold stepW at hk
  split at hk
  · rename_i hg
    have : Region.wanted o (yielded ops a.tmps) = true := by
      unfold guardOf at hg
      unfold Region.wanted
      split at hg
      · rename_i h1; rw [h1]
      · split at hg
        · split at hg <;> simp at hg
        · simp at hg
    rw [if_pos this]
    exact .inl (opW_ok hT h hk hn)
  · rename_i q hg
    obtain ⟨hd, hk⟩ := hk
    have hwant : ∀ b, st.t q.1 = .bool b → Region.wanted o (yielded ops a.tmps) = (b == q.2) := by
      intro b hb
      unfold guardOf at hg
      unfold Region.wanted
      split at hg
      · simp at hg
      · rename_i j want hgd
        rw [hgd]
        simp only
        split at hg
        · rename_i g hj
          split at hg
          · rename_i d hdd
            simp only [Option.some.injEq] at hg
            subst hg
            have hj' : ops[j]? = some g := by simpa using hj
            have := slot_bool h hb
            simp only at this
            simp [yielded, hj', hdd, this]
          · simp at hg
        · simp at hg
    generalize hv : st.t q.1 = v at hk
    cases v <;> try exact hk.elim
    rename_i b
    have hw := hwant b hv
    unfold guardW at hk
    obtain ⟨hk1, hk2⟩ := hk
    obtain ⟨d, want⟩ := q
    simp only at hk1 hk2 hv hw
    cases b with
    | true =>
      have hk := hk1 rfl
      rw [put_same hv] at hk
      cases want with
      | true =>
        rw [if_pos rfl] at hk
        rw [if_pos (by rw [hw]; rfl)]
        exact .inl (opW_ok hT h hk hn)
      | false =>
        rw [if_neg (by simp)] at hk
        rw [if_neg (by rw [hw]; simp)]
        exact hn _ _ _ hk (h.put_undef hd)
    | false =>
      have hk := hk2 rfl
      rw [put_same hv] at hk
      cases want with
      | true =>
        rw [if_pos rfl] at hk
        rw [if_neg (by rw [hw]; simp)]
        exact hn _ _ _ hk (h.put_undef hd)
      | false =>
        rw [if_neg (by simp)] at hk
        rw [if_pos (by rw [hw]; rfl)]
        exact .inl (opW_ok hT h hk hn)
  · exact hk.elim

/-- A region in its text's order. -/
theorem regW_ok (hT : T.ok P) {ops : Array Oper} {Q : Exit → Act → World → Prop} : ∀ (l : List Oper) (k : Nat) (st : St) (a : Act) (w : World) (K : St → Prop), (∀ j, l[j]? = ops[k + j]?) → Rel E st a w none2 → regW P T ops.toList l st K →
    (∀ st' a' w', K st' → Rel E st' a' w' none2 → Q .normal a' w') → wpOps P ops Q (List.range' k l.length) a w
  | [], k, st, a, w, K, hl, h, hk, hn => hn _ _ _ hk h
  | o :: l, k, st, a, w, K, hl, h, hk, hn => by
    have h0 : ops[k]? = some o := by simpa using (hl 0).symm
    simp only [List.length_cons, List.range'_succ, wpOps, h0]
    exact stepW_ok hT h hk fun st' a' w' hk' h' => regW_ok hT l (k + 1) st' a' w' K (fun j => by have := hl (j + 1); simpa [Nat.add_assoc, Nat.add_comm 1 j] using this) h' hk' hn

end
end Go.Abs
