/- The abstract layer, 18: regions. -/
import Derived.Test.YtbngkaiocdpliaaAbsF
set_option linter.unusedVariables false
set_option linter.unusedSimpArgs false
namespace Go.Abs
open Go

/-! ### Definitions -/
def callA (c : Call) (fo : Operand) : RP (AV × List AV × List AV) := (opnd fo).bind fun fv => (opnds c.args.toList).bind fun as => (lendVals as).bind fun ys => .ret (fv, as, ys)

/-- A call's result comes to rest. -/
def landW (o : Oper) (st : St) (res : AV) (K : St → Prop) : Prop := match o.dst with
  | none => K st
  | some d => Rq (impResOk res) (Rq ((impRes (cid d 0) res).2.all fun p => match st.m p.1 with | .abs => true | _ => false) (Rq (decide (d < st.n)) (K ((st.mws (impRes (cid d 0) res).2).put (some d) (impRes (cid d 0) res).1))))
def callW (P : Program) (o : Oper) (st : St) (K : St → Prop) (q : AV × List AV × List AV) : Prop := match q.1 with
  | .fn f caps => match caps with
    | [] => ∃ res, Con P f q.2.2 (undefs q.2.2) res ∧ Rq (!(q.2.1.any AV.hasRef) || res.nr) (landW o st res K)
    | _ => False
  | _ => False
def opR (T : TT) (o : Oper) (st : St) (K : St → Prop) : Prop := Rq (st.dstOk o.dst) ((evOp T o).runK st fun r => K (st.after o r))
/-- One operation. -/
def opW (P : Program) (T : TT) (o : Oper) (st : St) (K : St → Prop) : Prop := match o.op with
  | .call c => match c.callee with
    | .value f => (callA c f).runK st (callW P o st K)
    | _ => opR T o st K
  | _ => opR T o st K
/-- The slot and the wish of a guard. -/
def guardOf (ops : List Oper) (o : Oper) : Option (Option (Nat × Bool)) := match o.guard with
  | none => some none
  | some (j, want) => match ops[j]? with
    | some g => match g.dst with
      | some d => some (some (d, want))
      | none => none
    | none => none
def guardW (d : Nat) (want : Bool) (o : Oper) (st : St) (X : St → Prop) (K : St → Prop) : AV → Prop
  | .bool b => Br b
      (if want = true then X (st.put (some d) (.bool true)) else K ((st.put (some d) (.bool true)).put o.dst .undef))
      (if want = true then K ((st.put (some d) (.bool false)).put o.dst .undef) else X (st.put (some d) (.bool false)))
  | _ => False
def stepW (P : Program) (T : TT) (ops : List Oper) (o : Oper) (st : St) (K : St → Prop) : Prop := match guardOf ops o with
  | some none => opW P T o st K
  | some (some q) => Rq (st.dstOk o.dst) (guardW q.1 q.2 o st (fun st' => opW P T o st' K) K (st.t q.1))
  | none => False
def regW (P : Program) (T : TT) (ops : List Oper) : List Oper → St → (St → Prop) → Prop
  | [], st, K => K st
  | o :: rest, st, K => stepW P T ops o st fun st' => regW P T ops rest st' K

section
variable {P : Program} {T : TT} {E : Env} {o : Oper} {st : St} {a : Act} {w : World} {X : Cells} {loc : Locs} {ob : Nat → Cells} {r : Res}

theorem opR_ok (hT : T.ok P) (h : Rel E st a w none2) {K : St → Prop} (hk : opR T o st K) {next : Act → World → Prop} {Q : Exit → Act → World → Prop} (hn : ∀ st' a' w', K st' → Rel E st' a' w' none2 → next a' w') :
    o.wp P a w next Q := by
  obtain ⟨loc, ob, h⟩ := h
  obtain ⟨hd, hr⟩ := hk
  obtain ⟨r, hr, hK⟩ := runK_run hr
  obtain ⟨nx, a', w', h1, h2, h3⟩ := did_next hd (evOp_ok hT h hr)
  unfold Oper.wp
  rw [h1]
  rcases h2 with ⟨v, rfl, rfl⟩ | ⟨rfl, rfl⟩
  · exact hn _ _ _ hK h3
  · exact hn _ _ _ hK h3

theorem landW_took {res : AV} {K : St → Prop} (h : landW o st res K) : ∃ st', tookIn o st res st' ∧ K st' := by
  unfold landW at h
  split at h
  · rename_i hd
    exact ⟨st, by unfold tookIn; rw [hd], h⟩
  · rename_i d hd
    obtain ⟨h1, h2, h3, h4⟩ := h
    refine ⟨_, ?_, h4⟩
    unfold tookIn
    rw [hd]
    refine ⟨h1, fun p hp => ?_, of_decide_eq_true h3, rfl⟩
    have := List.all_eq_true.1 h2 p hp
    cases hm : st.m p.1 with
    | abs => rfl
    | _ => rw [hm] at this; cases this

theorem callW_ok {c : Call} {fo : Operand} (ho : o.op = .call c) (hc : c.callee = .value fo) (h : Rel E st a w none2) {K : St → Prop} (hk : (callA c fo).runK st (callW P o st K)) {next : Act → World → Prop} {Q : Exit → Act → World → Prop}
    (hn : ∀ st' a' w', K st' → Rel E st' a' w' none2 → next a' w') : o.wp P a w next Q := by
  obtain ⟨loc, ob, h⟩ := h
  obtain ⟨q, hq, hk⟩ := runK_run hk
  obtain ⟨fv, hf0, hq1⟩ := bind_some hq
  obtain ⟨as, has, hq2⟩ := bind_some hq1
  obtain ⟨ys, hys, hq3⟩ := bind_some hq2
  obtain rfl := ret_some hq3
  have hf := opnd_some h hf0
  clear hf0 hq hq1 hq2 hq3
  unfold callW at hk
  simp only at hk
  split at hk
  case h_2 => exact hk.elim
  rename_i f caps
  split at hk
  case h_2 => exact hk.elim
  obtain ⟨res, hcon, hqq, hl⟩ := hk
  obtain ⟨st', htook, hK⟩ := landW_took hl
  have hfv : a.eval fo = .func (.func f) #[] #[] := by
    generalize a.eval fo = ev at hf
    cases hf with
    | sc hs _ => exact hs.elim
    | @fn _ _ _ vs _ os hvn hvx hu =>
      have : vs = #[] := by apply Array.eq_empty_of_size_eq_zero; simpa using hvn
      rw [this]
  obtain ⟨hal, hax⟩ := opnds_some h has
  let Rc : Cells := fun g o => RS E w (Owned ob none2) g o ∨ (as.any AV.hasRef = true ∧ ∃ b, ob b g o)
  have hRc : ∀ g o, RS E w (Owned ob none2) g o → Rc g o := fun g o k => .inl k
  have hp := lendVals_ok h hRc as ys (c.args.toList.map a.eval) (by simpa using hal.symm) hys (fun k x v h1 h2 => by
    simp only [List.getElem?_map, Option.map_eq_some_iff] at h2
    obtain ⟨op, h3, rfl⟩ := h2
    exact hax k x op h1 h3) (fun hh b g o k => .inr ⟨hh, b, k⟩)
  have hcalls := hcon.calls w Rc none2 (c.args.toList.map a.eval) hp (fun g o k => ⟨by
    rcases k with k | ⟨_, b, k⟩
    · exact k.2.1
    · exact h.lt g o (.inl ⟨b, k⟩), fun k => k.elim⟩) (fun g o k => k.elim)
  unfold Oper.wp
  have hrun : (execOp a.eval o).run P w = .ok (.enter f (c.args.toList.map a.eval).toArray) w := by
    obtain ⟨_, op, ty, _, _, _⟩ := o
    subst ho
    simp only [execOp]
    rw [run_call hc hfv hcon.ok]
    congr 2
    apply Array.ext'
    simp
  rw [hrun, Oper.upon_enter]
  refine hcalls.mono fun e w' hb => ?_
  cases e with
  | returned v =>
    obtain ⟨O', hF, hO', O1, O2, hOO, hdd, hres, hrest⟩ := hb
    have hemp2 := parts_undefs _ _ _ hrest
    have hO1 : O1 = O' := by
      funext g o
      exact propext ⟨fun k => (hOO g o).2 (.inl k), fun k => ((hOO g o).1 k).resolve_right (hemp2 g o)⟩
    subst hO1
    have hrel : RelC E st a w' O1 loc ob := h.back (Rc := Rc) hF hO'
    have hres' : AR w' (RS E w' (Owned ob O1)) noLoc res v O1 := by
      rcases (Bool.or_eq_true _ _).mp hqq with hno | hnr
      · refine hres.weak (fun g o k => ?_) (fun _ _ k => k)
        obtain ⟨h1, h2, h3⟩ := k
        have hno : as.any AV.hasRef = false := by simpa using hno
        have hobn : ∀ b, w.heap.size ≤ g → ¬ ob b g o := fun b hle k => by have := h.lt g o (.inl ⟨b, k⟩); omega
        refine ⟨?_, h2, ?_⟩
        · rcases h1 with (h1 | ⟨hh, _⟩) | h1 | h1
          · exact h1.1
          · rw [hno] at hh; cases hh
          · exact h1.elim
          · exact .inr (.inr (Nat.le_trans h.fr.size h1))
        · rintro (⟨b, k⟩ | k)
          · rcases h1 with (h1 | ⟨hh, _⟩) | h1 | h1
            · exact h1.2.2 (.inl ⟨b, k⟩)
            · rw [hno] at hh; cases hh
            · exact h1.elim
            · exact hobn b h1 k
          · exact h3 k
      · exact hres.nr_any hnr
    exact hn st' _ w' hK (took_ok hrel hres' htook)
  | panicked ch => exact hb.elim
  | outgrown => exact hb.elim

theorem opW_ok (hT : T.ok P) (h : Rel E st a w none2) {K : St → Prop} (hk : opW P T o st K) {next : Act → World → Prop} {Q : Exit → Act → World → Prop} (hn : ∀ st' a' w', K st' → Rel E st' a' w' none2 → next a' w') :
    o.wp P a w next Q := by
  unfold opW at hk
  split at hk
  · rename_i c ho
    split at hk
    · rename_i f hc
      exact callW_ok ho hc h hk hn
    · exact opR_ok hT h hk hn
  · exact opR_ok hT h hk hn

theorem put_same {d : Nat} {v : AV} (h : st.t d = v) : st.put (some d) v = st := by
  unfold St.put upd
  have : (fun x => if x = d then v else st.t x) = st.t := by
    funext x
    by_cases hx : x = d
    · subst hx; simp [h]
    · simp [hx]
  simp only [this]

theorem Rel.put_undef (h : Rel E st a w X) {d : Option Nat} (hd : st.dstOk d = true) : Rel E (st.put d .undef) (a.put d undef) w X := by
  obtain ⟨loc, ob, h⟩ := h
  exact ⟨loc, ob, h.put d .undef undef hd fun _ => .sc trivial emp_none2⟩

theorem slot_bool (h : Rel E st a w X) {d : Nat} {b : Bool} (hb : st.t d = .bool b) : a.tmps[d]? = some (.bool b) := by
  obtain ⟨loc, ob, h⟩ := h
  have := h.tm d
  rw [hb] at this
  have := this.inv_bool
  cases hd : a.tmps[d]? with
  | none =>
    simp [hd] at this
    cases this
  | some v =>
    simp [hd] at this
    rw [this]

theorem stepW_ok (hT : T.ok P) {ops : Array Oper} (h : Rel E st a w none2) {K : St → Prop} (hk : stepW P T ops.toList o st K) {next : Act → World → Prop} {Q : Exit → Act → World → Prop} (hn : ∀ st' a' w', K st' → Rel E st' a' w' none2 → next a' w') :
    if Region.wanted o (yielded ops a.tmps) then o.wp P a w next Q ∨ (o.asks P a w ∧ LetsOut Q) else next (a.put o.dst undef) w := by
  unfold stepW at hk
  split at hk
  · rename_i hg
    have : Region.wanted o (yielded ops a.tmps) = true := by
      unfold guardOf at hg
      unfold Region.wanted
      split at hg
      · rename_i h1; rw [h1]
      · split at hg
        · split at hg <;> simp at hg
        · simp at hg
    rw [if_pos this]
    exact .inl (opW_ok hT h hk hn)
  · rename_i q hg
    obtain ⟨hd, hk⟩ := hk
    have hwant : ∀ b, st.t q.1 = .bool b → Region.wanted o (yielded ops a.tmps) = (b == q.2) := by
      intro b hb
      unfold guardOf at hg
      unfold Region.wanted
      split at hg
      · simp at hg
      · rename_i j want hgd
        rw [hgd]
        simp only
        split at hg
        · rename_i g hj
          split at hg
          · rename_i d hdd
            simp only [Option.some.injEq] at hg
            subst hg
            have hj' : ops[j]? = some g := by simpa using hj
            have := slot_bool h hb
            simp only at this
            simp [yielded, hj', hdd, this]
          · simp at hg
        · simp at hg
    generalize hv : st.t q.1 = v at hk
    cases v <;> try exact hk.elim
    rename_i b
    have hw := hwant b hv
    unfold guardW at hk
    obtain ⟨hk1, hk2⟩ := hk
    obtain ⟨d, want⟩ := q
    simp only at hk1 hk2 hv hw
    cases b with
    | true =>
      have hk := hk1 rfl
      rw [put_same hv] at hk
      cases want with
      | true =>
        rw [if_pos rfl] at hk
        rw [if_pos (by rw [hw]; rfl)]
        exact .inl (opW_ok hT h hk hn)
      | false =>
        rw [if_neg (by simp)] at hk
        rw [if_neg (by rw [hw]; simp)]
        exact hn _ _ _ hk (h.put_undef hd)
    | false =>
      have hk := hk2 rfl
      rw [put_same hv] at hk
      cases want with
      | true =>
        rw [if_pos rfl] at hk
        rw [if_neg (by rw [hw]; simp)]
        exact hn _ _ _ hk (h.put_undef hd)
      | false =>
        rw [if_neg (by simp)] at hk
        rw [if_pos (by rw [hw]; rfl)]
        exact .inl (opW_ok hT h hk hn)
  · exact hk.elim

/-- A region in its text's order. -/
theorem regW_ok (hT : T.ok P) {ops : Array Oper} {Q : Exit → Act → World → Prop} : ∀ (l : List Oper) (k : Nat) (st : St) (a : Act) (w : World) (K : St → Prop), (∀ j, l[j]? = ops[k + j]?) → Rel E st a w none2 → regW P T ops.toList l st K →
    (∀ st' a' w', K st' → Rel E st' a' w' none2 → Q .normal a' w') → wpOps P ops Q (List.range' k l.length) a w
  | [], k, st, a, w, K, hl, h, hk, hn => hn _ _ _ hk h
  | o :: l, k, st, a, w, K, hl, h, hk, hn => by
    have h0 : ops[k]? = some o := by simpa using (hl 0).symm
    simp only [List.length_cons, List.range'_succ, wpOps, h0]
    exact stepW_ok hT h hk fun st' a' w' hk' h' => regW_ok hT l (k + 1) st' a' w' K (fun j => by have := hl (j + 1); simpa [Nat.add_assoc, Nat.add_comm 1 j] using this) h' hk' hn

end
end Go.Abs
