/- The abstract layer, 23: regions that draw their order. -/
import Derived.Test.YtbngkaiocdpliaaDoorAbsK
import Derived.Orders
set_option linter.unusedVariables false
set_option linter.unusedSimpArgs false
namespace Go.Abs
open Go

/-! ### Definitions -/
/-- A reading program, with what it reads. -/
def RP.runL {α : Type} : RP α → St → (α → List Nat → List Nat → Prop) → Prop
  | .ret a, _, K => K a [] []
  | .tmp k c, st, K => (c (st.t k)).runL st fun a s m => K a (k :: s) m
  | .mem b c, st, K => (c (st.m b)).runL st fun a s m => K a s (b :: m)
  | .req b c, st, K => Rq b (c.runL st K)
  | .fail, _, _ => False
/-- A reading program, with what it reads: in one state. -/
def RP.logged {α : Type} : RP α → St → Option (α × List Nat × List Nat)
  | .ret a, _ => some (a, [], [])
  | .tmp k c, st => ((c (st.t k)).logged st).map fun x => (x.1, k :: x.2.1, x.2.2)
  | .mem b c, st => ((c (st.m b)).logged st).map fun x => (x.1, x.2.1, b :: x.2.2)
  | .req b c, st => if b = true then c.logged st else none
  | .fail, _ => none

inductive Qy where
  | skip
  | res (r : Res)
  | call (q : AV × List AV × List AV)

def opQ (T : TT) (o : Oper) : RP Qy := match o.op with
  | .call c => match c.callee with
    | .value f => (callA c f).bind fun q => .ret (.call q)
    | _ => (evOp T o).bind fun r => .ret (.res r)
  | _ => (evOp T o).bind fun r => .ret (.res r)
def qry (T : TT) (ops : List Oper) (o : Oper) : RP Qy := match guardOf ops o with
  | some none => opQ T o
  | some (some q) => .tmp q.1 fun v => match v with
    | .bool b => if b = q.2 then opQ T o else .ret .skip
    | _ => .fail
  | none => .fail
def callRes (o : Oper) (res : AV) : Res := match o.dst with
  | none => (.undef, [])
  | some d => impRes (cid d 0) res
def Fin (P : Program) (o : Oper) : Qy → Res → Prop
  | .skip, r => r = (.undef, [])
  | .res r', r => r = r'
  | .call q, r => ∃ f res, q.1 = .fn f [] ∧ Con P f q.2.2 (undefs q.2.2) res ∧ (!(q.2.1.any AV.hasRef) || res.nr) = true ∧ (o.dst ≠ none → impResOk res = true) ∧ r = callRes o res
/-- The names that must be new. -/
def newOf : Qy → Res → List Nat
  | .call _, r => r.2.map (·.1)
  | _, _ => []
/-- One operation's step, with what it reads. -/
def StpL (P : Program) (T : TT) (ops : List Oper) (o : Oper) (st : St) (r : Res) (rs rm : List Nat) : Prop :=
  ∃ q lm, (qry T ops o).logged st = some (q, rs, lm) ∧ Fin P o q r ∧ (∀ b ∈ newOf q r, st.m b = .abs) ∧ rm = lm ++ newOf q r ∧ st.dstOk o.dst = true
structure Item where
  i : Nat
  o : Oper
  r : Res
  rs : List Nat
  rm : List Nat
def Item.ws (x : Item) : List Nat := x.o.dst.toList
def Item.wm (x : Item) : List Nat := x.r.2.map (·.1)
def apartB (l l' : List Nat) : Bool := l.all fun a => !(l'.contains a)
def indepB (y x : Item) : Bool := apartB y.ws x.rs && apartB x.ws y.rs && apartB y.ws x.ws && apartB y.wm x.rm && apartB x.wm y.rm && apartB y.wm x.wm
def Exec (P : Program) (T : TT) (ops : List Oper) : List Item → St → St → Prop
  | [], st, st' => st' = st
  | x :: l, st, st' => StpL P T ops x.o st x.r x.rs x.rm ∧ Exec P T ops l (st.after x.o x.r) st'
/-- What binds an operation, and what binds that. -/
def depsOf (o : Oper) : List Nat := (o.after.toList.filter fun e => Region.binds .any e).map (·.on)
def closeOf : List Oper → List (List Nat) → List (List Nat)
  | [], acc => acc
  | o :: l, acc => closeOf l (acc ++ [((depsOf o) ++ (depsOf o).flatMap fun d => acc.getD d []).eraseDups])
def clOf (ops : List Oper) : List (List Nat) := closeOf ops []
def orderedB (ops : List Oper) (cl : List (List Nat)) : Bool :=
  (List.range ops.length).all fun i => match ops[i]? with
    | some o => (depsOf o).all (fun d => decide (d < i)) && (cl.getD i []).all fun k => (depsOf o).any fun d => d == k || (cl.getD d []).contains k
    | none => true
/-- One operation, in a region that draws: its way in the text's order, and that it may stand elsewhere. -/
def opL (P : Program) (T : TT) (o : Oper) (st : St) (K : Res → List Nat → List Nat → Prop) : Prop := match o.op with
  | .call c => match c.callee with
    | .value f => (callA c f).runL st fun q s m => match q.1 with
      | .fn f caps => match caps with
        | [] => ∃ res, Con P f q.2.2 (undefs q.2.2) res ∧ Rq (!(q.2.1.any AV.hasRef) || res.nr) (Rq (match o.dst with | none => true | some _ => impResOk res)
            (Rq ((callRes o res).2.all fun p => match st.m p.1 with | .abs => true | _ => false) (K (callRes o res) s (m ++ (callRes o res).2.map (·.1)))))
        | _ => False
      | _ => False
    | _ => (evOp T o).runL st K
  | _ => (evOp T o).runL st K
def guardL (d : Nat) (want : Bool) (st : St) (X : (Res → List Nat → List Nat → Prop) → Prop) (K : Res → List Nat → List Nat → Prop) : AV → Prop
  | .bool b => Br b (if want = true then X fun r s m => K r (d :: s) m else K (.undef, []) [d] []) (if want = true then K (.undef, []) [d] [] else X fun r s m => K r (d :: s) m)
  | _ => False
def stepL (P : Program) (T : TT) (ops : List Oper) (o : Oper) (st : St) (K : Res → List Nat → List Nat → Prop) : Prop := match guardOf ops o with
  | some none => opL P T o st K
  | some (some q) => guardL q.1 q.2 st (opL P T o st) K (st.t q.1)
  | none => False
def regL (P : Program) (T : TT) (ops : List Oper) (cl : List (List Nat)) : List Item → Nat → List Oper → St → (St → Prop) → Prop
  | _, _, [], st, K => K st
  | past, i, o :: rest, st, K => stepL P T ops o st fun r s m => Rq (st.dstOk o.dst) (Rq (past.all fun y => (cl.getD i []).contains y.i || indepB y ⟨i, o, r, s, m⟩)
      (regL P T ops cl (⟨i, o, r, s, m⟩ :: past) (i + 1) rest (st.after o r) K))

section
variable {P : Program} {T : TT} {E : Env} {o : Oper} {st st' : St} {a : Act} {w : World} {X : Cells} {loc : Locs} {ob : Nat → Cells} {r : Res}

theorem runL_logged {α : Type} {st : St} : ∀ {p : RP α} {K : α → List Nat → List Nat → Prop}, p.runL st K → ∃ a s m, p.logged st = some (a, s, m) ∧ K a s m
  | .ret a, K, h => ⟨a, [], [], rfl, h⟩
  | .tmp k c, K, h => by
    obtain ⟨a, s, m, h1, h2⟩ := runL_logged (p := c (st.t k)) h
    exact ⟨a, k :: s, m, by simp [RP.logged, h1], h2⟩
  | .mem b c, K, h => by
    obtain ⟨a, s, m, h1, h2⟩ := runL_logged (p := c (st.m b)) h
    exact ⟨a, s, b :: m, by simp [RP.logged, h1], h2⟩
  | .req b c, K, h => by
    obtain ⟨h0, h⟩ := h
    obtain ⟨a, s, m, h1, h2⟩ := runL_logged (p := c) h
    exact ⟨a, s, m, by simp [RP.logged, h0, h1], h2⟩
  | .fail, K, h => h.elim
theorem logged_run {α : Type} {st : St} : ∀ {p : RP α} {x : α × List Nat × List Nat}, p.logged st = some x → p.run st = some x.1
  | .ret a, x, h => by simp only [RP.logged, Option.some.injEq] at h; subst h; rfl
  | .tmp k c, x, h => by
    simp only [RP.logged, Option.map_eq_some_iff] at h
    obtain ⟨y, h1, rfl⟩ := h
    show (c (st.t k)).run st = some y.1
    exact logged_run h1
  | .mem b c, x, h => by
    simp only [RP.logged, Option.map_eq_some_iff] at h
    obtain ⟨y, h1, rfl⟩ := h
    show (c (st.m b)).run st = some y.1
    exact logged_run h1
  | .req b c, x, h => by
    simp only [RP.logged] at h
    split at h
    · rename_i hb
      simp only [RP.run, hb, if_true]
      exact logged_run h
    · cases h
  | .fail, x, h => by cases h
theorem logged_agree {α : Type} {st st' : St} : ∀ {p : RP α} {x : α × List Nat × List Nat}, p.logged st = some x → (∀ k ∈ x.2.1, st'.t k = st.t k) → (∀ b ∈ x.2.2, st'.m b = st.m b) → p.logged st' = some x
  | .ret a, x, h, _, _ => h
  | .tmp k c, x, h, h1, h2 => by
    simp only [RP.logged, Option.map_eq_some_iff] at h ⊢
    obtain ⟨y, h3, rfl⟩ := h
    refine ⟨y, ?_, rfl⟩
    rw [h1 k (by simp)]
    exact logged_agree (p := c (st.t k)) h3 (fun j hj => h1 j (by simp [hj])) h2
  | .mem b c, x, h, h1, h2 => by
    simp only [RP.logged, Option.map_eq_some_iff] at h ⊢
    obtain ⟨y, h3, rfl⟩ := h
    refine ⟨y, ?_, rfl⟩
    rw [h2 b (by simp)]
    exact logged_agree (p := c (st.m b)) h3 h1 (fun j hj => h2 j (by simp [hj]))
  | .req b c, x, h, h1, h2 => by
    simp only [RP.logged] at h ⊢
    split at h
    · rename_i hb; rw [if_pos hb]; exact logged_agree h h1 h2
    · cases h
  | .fail, x, h, _, _ => by cases h

theorem runL_bind {α β : Type} {st : St} {f : α → RP β} : ∀ {p : RP α} {a : α} {s m : List Nat} {x : β × List Nat × List Nat}, p.logged st = some (a, s, m) → (f a).logged st = some x → (p.bind f).logged st = some (x.1, s ++ x.2.1, m ++ x.2.2)
  | .ret a, a', s, m, x, h, h2 => by
    simp only [RP.logged, Option.some.injEq, Prod.mk.injEq] at h
    obtain ⟨rfl, rfl, rfl⟩ := h
    simpa [RP.bind] using h2
  | .tmp k c, a', s, m, x, h, h2 => by
    simp only [RP.logged, Option.map_eq_some_iff] at h
    obtain ⟨⟨a1, s1, m1⟩, h3, h4⟩ := h
    simp only [Prod.mk.injEq] at h4
    obtain ⟨rfl, rfl, rfl⟩ := h4
    simp only [RP.bind, RP.logged, runL_bind (p := c (st.t k)) h3 h2]
    rfl
  | .mem b c, a', s, m, x, h, h2 => by
    simp only [RP.logged, Option.map_eq_some_iff] at h
    obtain ⟨⟨a1, s1, m1⟩, h3, h4⟩ := h
    simp only [Prod.mk.injEq] at h4
    obtain ⟨rfl, rfl, rfl⟩ := h4
    simp only [RP.bind, RP.logged, runL_bind (p := c (st.m b)) h3 h2]
    rfl
  | .req b c, a', s, m, x, h, h2 => by
    simp only [RP.logged] at h
    split at h
    · rename_i hb
      simp only [RP.bind, RP.logged, hb, if_true]
      exact runL_bind h h2
    · cases h
  | .fail, a', s, m, x, h, _ => by cases h

/-- The step in a region's own words is a step. -/
theorem opL_stp {K : Res → List Nat → List Nat → Prop} (h : opL P T o st K) : ∃ q r s lm, (opQ T o).logged st = some (q, s, lm) ∧ Fin P o q r ∧ (∀ b ∈ newOf q r, st.m b = .abs) ∧ K r s (lm ++ newOf q r) := by
  have gen : (evOp T o).runL st K → (opQ T o) = ((evOp T o).bind fun r => .ret (.res r)) → ∃ q r s lm, (opQ T o).logged st = some (q, s, lm) ∧ Fin P o q r ∧ (∀ b ∈ newOf q r, st.m b = .abs) ∧ K r s (lm ++ newOf q r) := by
    intro h he
    obtain ⟨r, s, m, h1, h2⟩ := runL_logged h
    refine ⟨.res r, r, s, m, ?_, rfl, fun b hb => by simp [newOf] at hb, by simpa [newOf] using h2⟩
    rw [he]
    have := runL_bind (f := fun r => RP.ret (Qy.res r)) (x := (.res r, [], [])) h1 rfl
    simpa using this
  unfold opL at h
  split at h
  · rename_i c ho
    split at h
    · rename_i fo hc
      obtain ⟨q, s, m, h1, h2⟩ := runL_logged h
      split at h2
      · rename_i f caps hf
        split at h2
        · obtain ⟨res, hcon, hq, hok, hnew, hK⟩ := h2
          refine ⟨.call q, callRes o res, s, m, ?_, ⟨f, res, hf, hcon, hq, fun hd => ?_, rfl⟩, fun b hb => ?_, hK⟩
          · unfold opQ
            simp only [ho, hc]
            have := runL_bind (f := fun q => RP.ret (Qy.call q)) (x := (.call q, [], [])) h1 rfl
            simpa using this
          · cases hdd : o.dst with
            | none => exact absurd hdd hd
            | some d => rw [hdd] at hok; exact hok
          · simp only [newOf, List.mem_map] at hb
            obtain ⟨p, hp, rfl⟩ := hb
            have := List.all_eq_true.1 hnew p hp
            cases hm : st.m p.1 with
            | abs => rfl
            | _ => rw [hm] at this; cases this
        · exact h2.elim
      · exact h2.elim
    · rename_i hne
      exact gen h (by
        unfold opQ
        simp only [ho])
  · rename_i hne
    exact gen h (by
      unfold opQ
      cases ho : o.op with
      | call c => exact absurd ho (hne c)
      | _ => rfl)

theorem stepL_stp {ops : List Oper} {K : Res → List Nat → List Nat → Prop} (h : stepL P T ops o st K) (hd : st.dstOk o.dst = true) : ∃ r s m, StpL P T ops o st r s m ∧ K r s m := by
  unfold stepL at h
  split at h
  · rename_i hg
    obtain ⟨q, r, s, lm, h1, h2, h3, h4⟩ := opL_stp h
    refine ⟨r, s, _, ⟨q, lm, ?_, h2, h3, rfl, hd⟩, h4⟩
    unfold qry
    simp only [hg]
    exact h1
  · rename_i q hg
    obtain ⟨d, want⟩ := q
    simp only at h hg
    unfold guardL at h
    split at h
    · rename_i b hb
      have key : (b = want → opL P T o st fun r s m => K r (d :: s) m) ∧ (b ≠ want → K (.undef, []) [d] []) := by
        obtain ⟨h1, h2⟩ := h
        cases b <;> cases want <;> simp_all
      by_cases hw : b = want
      · obtain ⟨q, r, s, lm, h1, h2, h3, h4⟩ := opL_stp (key.1 hw)
        refine ⟨r, d :: s, _, ⟨q, lm, ?_, h2, h3, rfl, hd⟩, h4⟩
        unfold qry
        simp only [hg, RP.logged, hb, hw, if_true, h1]
        rfl
      · refine ⟨(.undef, []), [d], [], ⟨.skip, [], ?_, rfl, fun b hb => by simp [newOf] at hb, rfl, hd⟩, key.2 hw⟩
        unfold qry
        simp only [hg, RP.logged, hb, hw, if_false]
        rfl
    · exact h.elim
  · exact h.elim

/-- A step that reads the same elsewhere is the same step there. -/
theorem StpL.agree {ops : List Oper} {rs rm : List Nat} (h : StpL P T ops o st r rs rm) (h1 : ∀ k ∈ rs, st'.t k = st.t k) (h2 : ∀ b ∈ rm, st'.m b = st.m b) (hn : st'.n = st.n) : StpL P T ops o st' r rs rm := by
  obtain ⟨q, lm, h3, h4, h5, rfl, h6⟩ := h
  refine ⟨q, lm, logged_agree h3 h1 fun b hb => h2 b (by simp [hb]), h4, fun b hb => (h2 b (by simp [hb])).trans (h5 b hb), rfl, ?_⟩
  unfold St.dstOk at *
  rw [hn]
  exact h6

end
end Go.Abs
