/- The abstract layer, 30: the quick walk is sound: regions that draw, code, functions. -/
import Derived.Test.YtbngkaiocdpliaaDoorAbs2
set_option linter.unusedVariables false
set_option linter.unusedSimpArgs false
namespace Go.Abs
open Go

section
variable {P : Program} {T : TT} {n : Fx}

theorem isAbs_all {n : Fx} {l : Ms} {ts : Ts} {ms : Ms} (h2 : (l.all fun p => isAbs (getM ms p.1)) = true) : (l.all fun p => match (St.ls n ts ms).m p.1 with | .abs => true | _ => false) = true := by
  refine List.all_eq_true.2 fun p hp => ?_
  have := List.all_eq_true.1 h2 p hp
  show (match getM ms p.1 with | .abs => true | _ => false) = true
  cases hm : getM ms p.1 <;> rw [hm] at this <;> simp_all [isAbs]
theorem opVL_mk {o : Oper} {ts : Ts} {ms : Ms} {K : Res → List Nat → List Nat → Prop} (h : opVL P T o ts ms K) : opL P T o (St.ls n ts ms) K := by
  unfold opVL at h
  unfold opL
  split at h
  · rename_i c ho
    simp only [ho]
    split at h
    · rename_i f hc
      simp only [hc]
      refine runL_mono (goL_mk h) fun q s m hq => ?_
      obtain ⟨fv, as, ys⟩ := q
      unfold callVL at hq
      simp only at hq
      split at hq
      · split at hq
        · have hq := fcL_mk (fun _ _ => fg1_mk) hq
          obtain ⟨res, h1, h2⟩ := hq
          obtain ⟨h3, h2⟩ := okK_mk h2
          obtain ⟨h4, h2⟩ := okK_mk h2
          refine ⟨res, h1, h3, h4, ?_⟩
          generalize callRes o res = r at h2
          obtain ⟨v, l⟩ := r
          simp only at h2
          obtain ⟨h5, h2⟩ := okK_mk h2
          exact ⟨isAbs_all h5, h2⟩
        · exact hq.elim
      · exact hq.elim
    · rename_i hc
      split
      · rename_i f hf; exact absurd hf (hc f)
      · exact opEL_mk h
  · rename_i hc
    split
    · rename_i c ho; exact absurd ho (hc c)
    · exact opEL_mk h
theorem opL_mono {o : Oper} {st : St} {K K' : Res → List Nat → List Nat → Prop} (h : opL P T o st K) (hk : ∀ r s m, K r s m → K' r s m) : opL P T o st K' := by
  unfold opL at h ⊢
  split at h
  · split at h
    · refine runL_mono h fun q s m hq => ?_
      split at hq
      · split at hq
        · obtain ⟨res, h1, h2, h3, h4, h5⟩ := hq
          exact ⟨res, h1, h2, h3, h4, hk _ _ _ h5⟩
        · exact hq.elim
      · exact hq.elim
    · exact runL_mono h fun r s m hr => hk _ _ _ hr
  · exact runL_mono h fun r s m hr => hk _ _ _ hr
theorem regVL_mk {ops : List Oper} {cl : List (List Nat)} : ∀ {rest : List Oper} {past : List Item} {i : Nat} {ts : Ts} {ms : Ms} {K : Ts → Ms → Prop}, regVL P T n ops cl past i rest ts ms K → regL P T ops cl past i rest (St.ls n ts ms) (KL n K)
  | [], past, i, ts, ms, K, h => ⟨ts, ms, rfl, h⟩
  | o :: rest, past, i, ts, ms, K, h => by
    unfold regVL at h
    unfold regL
    have next : ∀ r s m, ChkS (past.all fun y => (cl.getD i []).contains y.i || indepB y ⟨i, o, r, s, m⟩) (afterV n o r ts ms fun ts ms => regVL P T n ops cl (⟨i, o, r, s, m⟩ :: past) (i + 1) rest ts ms K) →
        Rq ((St.ls n ts ms).dstOk o.dst) (Rq (past.all fun y => (cl.getD i []).contains y.i || indepB y ⟨i, o, r, s, m⟩) (regL P T ops cl (⟨i, o, r, s, m⟩ :: past) (i + 1) rest ((St.ls n ts ms).after o r) (KL n K))) := by
      rintro r s m ⟨h1, h2⟩
      obtain ⟨h3, ts', ms', h4, h5⟩ := after_mk h2
      refine ⟨h3, h1, ?_⟩
      rw [h4]
      exact regVL_mk h5
    unfold stepL
    simp only at h
    split at h
    · rename_i hg; rw [hg]; exact opL_mono (opVL_mk h) next
    · rename_i d want hg
      rw [hg]
      unfold guardVL at h
      split at h
      · rename_i b hb
        have hb' : (St.ls n ts ms).t d = .bool b := hb
        simp only [hb', guardL]
        split at h
        · refine ⟨fun e => ?_, fun e => ?_⟩
          · rw [if_pos rfl]; exact opL_mono (opVL_mk (h.1 e)) fun r s m k => next _ _ _ k
          · rw [if_pos rfl]; exact next _ _ _ (h.2 e)
        · refine ⟨fun e => ?_, fun e => ?_⟩
          · rw [if_neg (by simp)]; exact next _ _ _ (h.1 e)
          · rw [if_neg (by simp)]; exact opL_mono (opVL_mk (h.2 e)) fun r s m k => next _ _ _ k
      · exact h.elim
    · exact h.elim

theorem fac0_mk {v : AV} {ts : Ts} {ms : Ms} {X : Prop} (h : fac0 v ms X) (hv : ∀ d, v.facts d) (hm : ∀ b d, (getM ms b).facts d) : X := by
  unfold fac0 at h
  split at h
  · exact h.k hv
  · exact h.k hv
  · exact h.k hv
  · split at h
    · rename_i hb; exact h.k fun d => by rw [← hb]; exact hm _ d
    · exact h
  · exact h
theorem facL_mk {ts : Ts} {ms : Ms} {X : Prop} : ∀ {l : List AV}, facL l ms X → (∀ x ∈ l, ∀ d, x.facts d) → (∀ b d, (getM ms b).facts d) → X
  | [], h, _, _ => h
  | x :: l, h, hv, hm => facL_mk (ts := ts) (l := l) (fac0_mk (ts := ts) h (hv x (by simp)) hm) (fun y hy => hv y (by simp [hy])) hm
theorem fac1_mk {v : AV} {ts : Ts} {ms : Ms} {X : Prop} (h : fac1 v ms X) (hv : ∀ d, v.facts d) (hm : ∀ b d, (getM ms b).facts d) : X := by
  unfold fac1 at h
  split at h
  · exact facL_mk (ts := ts) h (fun x hx d => hv (d + 1) x hx) hm
  · exact facL_mk (ts := ts) h (fun x hx d => hv (d + 1) x hx) hm
  · exact fac0_mk (ts := ts) h hv hm
theorem facV_mk {ts : Ts} {ms : Ms} {X : Prop} (ht : ∀ k d, (getT ts k).facts d) (hm : ∀ b d, (getM ms b).facts d) : ∀ {l : List Oper}, facV l ts ms X → X
  | [], h => h
  | o :: l, h => by
    unfold facV callDst at h
    split at h
    · split at h
      · split at h
        · exact facV_mk ht hm (l := l) (fac1_mk (ts := ts) h (ht _) hm)
        · exact facV_mk ht hm (l := l) h
      · exact facV_mk ht hm (l := l) h
    · exact facV_mk ht hm (l := l) h
theorem ev_mk (hT : T.ok P) (hm : P.follows .mixedOrders = true) : ∀ {c : Code} {Q : Ex → Ts → Ms → Prop} {ts : Ts} {ms : Ms}, ev P T n c Q ts ms → WP P c (QL n Q) (St.ls n ts ms)
  | .skip, Q, ts, ms, h => WP.skip ⟨ts, ms, rfl, h⟩
  | .label _, Q, ts, ms, h => WP.label ⟨ts, ms, rfl, h⟩
  | .ret, Q, ts, ms, h => WP.ret ⟨ts, ms, rfl, h⟩
  | .exit id, Q, ts, ms, h => WP.exit ⟨ts, ms, rfl, h⟩
  | .seq a b, Q, ts, ms, h => by
    unfold ev at h
    refine WP.seq ((ev_mk hT hm (c := a) h).mono fun e st hq => ?_)
    obtain ⟨ts', ms', rfl, hq⟩ := hq
    cases e with
    | normal => exact ev_mk hT hm (c := b) hq
    | exit i => exact ⟨_, _, rfl, hq⟩
    | ret => exact ⟨_, _, rfl, hq⟩
  | .block id c, Q, ts, ms, h => by
    unfold ev at h
    refine WP.block ((ev_mk hT hm (c := c) h).mono fun e st hq => ?_)
    obtain ⟨ts', ms', rfl, hq⟩ := hq
    cases e with
    | normal => exact ⟨_, _, rfl, hq⟩
    | exit i =>
      simp only [blockV] at hq
      simp only [blockK]
      split at hq
      · rename_i hi; rw [if_pos (beq_t hi)]; exact ⟨_, _, rfl, hq⟩
      · rename_i hi; rw [if_neg (beq_f hi)]; exact ⟨_, _, rfl, hq⟩
    | ret => exact ⟨_, _, rfl, hq⟩
  | .cond c x y, Q, ts, ms, h => by
    unfold ev at h
    refine WP.cond (runK_mono (go_mk h) fun v hv => ?_)
    split at hv
    · rename_i b
      have hst : ∀ b, condSt (St.ls n ts ms) c b = St.ls n (condT c b ts) ms := fun b => by
        cases c <;> first | rfl | exact ls_put _ _ _ _
      have hcv : ∀ b (K : Ts → Prop), condV c b ts K → K (condT c b ts) := fun b K h => by cases c <;> exact h
      refine ⟨fun e => ?_, fun e => ?_⟩
      · rw [hst]; exact ev_mk hT hm (c := x) (hcv _ _ (hv.1 e))
      · rw [hst]; exact ev_mk hT hm (c := y) (hcv _ _ (hv.2 e))
    · exact hv.elim
  | .region id ops draw, Q, ts, ms, h => by
    unfold ev at h
    refine WP.postF ?_
    have fin : ∀ s, KL n (fun ts ms => facV ops.toList ts ms (Q .normal ts ms)) s → s.Facts → QL n Q .normal s := by
      rintro s ⟨ts, ms, rfl, h⟩ hf
      exact ⟨ts, ms, rfl, facV_mk hf.1 hf.2 h⟩
    cases draw with
    | false =>
      refine WP.region hT fun K hK => ?_
      have : ∀ (l : List Oper) (st : St) (K K' : St → Prop), regW P T ops.toList l st K → (∀ s, K s → K' s) → regW P T ops.toList l st K' := by
        intro l
        induction l with
        | nil => intro st K K' h hk; exact hk _ h
        | cons o l ih => intro st K K' h hk; exact stepW_mono h fun s hs => ih s K K' hs hk
      exact this _ _ _ _ (regV_mk h) fun s hs => hK s (fin s hs)
    | true =>
      refine WP.mono (Q := fun e s => match e with | .normal => KL n (fun ts ms => facV ops.toList ts ms (Q .normal ts ms)) s | _ => False) ?_ fun e s hs => ?_
      · exact WP.draw hT hm rfl _ h.1 (regVL_mk h.2)
      · cases e with
        | normal => exact fin s hs
        | _ => exact hs.elim
  | .loop c, Q, ts, ms, h => h.wp
  | .rangeFunc _ _ _ _, Q, ts, ms, h => h.elim
  | .scope _, Q, ts, ms, h => h.elim
  | .goto _, Q, ts, ms, h => h.elim
  | .refuse _, Q, ts, ms, h => h.elim

theorem fmK_mk2 {l ms : Ms} {K : Ms → Prop} (h : fmK l ms K) : ∃ ms', (∀ (n : Fx) (ts : Ts), (St.ls n ts ms).mws l = St.ls n ts ms') ∧ K ms' := by
  induction l generalizing ms with
  | nil => exact ⟨ms, fun _ _ => rfl, h⟩
  | cons p l ih =>
    have h := fcM_mk h
    obtain ⟨ms', h1, h2⟩ := ih h
    refine ⟨ms', fun n ts => ?_, h2⟩
    rw [← h1]
    show St.mws { St.ls n ts ms with m := upd (St.ls n ts ms).m p.1 p.2 } l = _
    rw [ls_mw]
theorem expLeafV_mk {x : AV} {ts : Ts} {ms : Ms} {K : AV → Ms → Prop} (h : expLeafV x ts ms K) : (expLeaf x).runK (St.ls n ts ms) fun p => ∃ ms', (St.ls n ts ms).mws p.2 = St.ls n ts ms' ∧ K p.1 ms' :=
  runK_mono (go_mk h) fun p hp => by
    obtain ⟨y, l⟩ := p
    obtain ⟨ms', h1, h2⟩ := fmK_mk2 hp
    exact ⟨ms', h1 _ _, h2⟩
theorem expLeavesV_mk : ∀ {l : List AV} {ts : Ts} {ms : Ms} {K : List AV → Ms → Prop} {K' : List AV → St → Prop}, expLeavesV l ts ms K → (∀ ys ms, K ys ms → K' ys (St.ls n ts ms)) → expLeavesK l (St.ls n ts ms) K'
  | [], ts, ms, K, K', h, hk => hk _ _ h
  | x :: l, ts, ms, K, K', h, hk => runK_mono (expLeafV_mk h) fun p hp => by
    obtain ⟨ms', h1, h2⟩ := hp
    rw [h1]
    exact expLeavesV_mk h2 fun ys ms h => hk _ _ h
theorem expValV_mk {x : AV} {ts : Ts} {ms : Ms} {K : AV → Ms → Prop} {K' : AV → St → Prop} (h : expValV x ts ms K) (hk : ∀ y ms, K y ms → K' y (St.ls n ts ms)) : expValK x (St.ls n ts ms) K' := by
  have base : expLeafV x ts ms K → (expLeaf x).runK (St.ls n ts ms) fun p => K' p.1 ((St.ls n ts ms).mws p.2) := fun h => runK_mono (expLeafV_mk h) fun p hp => by
    obtain ⟨ms', h1, h2⟩ := hp
    rw [h1]
    exact hk _ _ h2
  unfold expValV at h
  unfold expValK
  split at h
  · exact expLeavesV_mk h fun ys ms h => hk _ _ h
  · rename_i hc
    split
    · rename_i cs; exact absurd rfl (hc cs)
    · exact base h
theorem expValsV_mk : ∀ {l : List AV} {ts : Ts} {ms : Ms} {K : List AV → Ms → Prop} {K' : List AV → St → Prop}, expValsV l ts ms K → (∀ ys ms, K ys ms → K' ys (St.ls n ts ms)) → expValsK l (St.ls n ts ms) K'
  | [], ts, ms, K, K', h, hk => hk _ _ h
  | x :: l, ts, ms, K, K', h, hk => expValV_mk h fun y ms h => expValsV_mk h fun ys ms h => hk _ _ h
theorem retV_mk {rs : List ResultVar} {res : AV} {ts : Ts} {ms : Ms} (h : retV T rs res ts ms) : retW T rs res (St.ls n ts ms) :=
  runK_mono (go_mk h) fun xs hx => by
    unfold retX
    split at hx
    · exact expValV_mk hx fun y ms h => (fg_mk (K := fun y => ShG y res) h).s
    · rename_i hc
      split
      · rename_i x; exact absurd rfl (hc x)
      · exact expValsV_mk hx fun ys ms h => (fg_mk (K := fun y => ShG y res) h).s
theorem numK_mk : ∀ {l : List AV} {ks : List Nat} {K : Ts → Prop} (k m : Nat), ks = List.range' k m → numK ks l K → ∃ ts, (∀ j, getT ts j = if k ≤ j then l.getD (j - k) .undef else .undef) ∧ K ts
  | [], ks, K, k, m, hk, h => by
    have : K [] := by cases ks <;> exact h
    exact ⟨[], fun j => by simp [getT], this⟩
  | x :: l, [], K, k, m, hk, h => h.elim
  | x :: l, k' :: ks, K, k, m, hk, h => by
    cases m with
    | zero => simp at hk
    | succ m =>
    rw [List.range'_succ] at hk
    injection hk with hk1 hk2
    subst hk1
    obtain ⟨ts, h1, h2⟩ := numK_mk (l := l) (k' + 1) m hk2 (fc_mk (K := fun x => numK ks l fun ts => K ((k', x) :: ts)) h)
    refine ⟨_, fun j => ?_, h2⟩
    simp only [getT]
    split
    · rename_i hj; rw [beq_t hj]; simp
    · rename_i hj
      have := beq_f hj
      rw [h1]
      by_cases h3 : k' + 1 ≤ j
      · rw [if_pos h3, if_pos (by omega)]
        obtain ⟨m, rfl⟩ : ∃ m, j = k' + 1 + m := ⟨j - (k' + 1), by omega⟩
        rw [show k' + 1 + m - (k' + 1) = m by omega, show k' + 1 + m - k' = m + 1 by omega]
        simp
      · rw [if_neg h3, if_neg (by omega)]
theorem enter_ls {n : Nat} {xs vs : List AV} {l : List (Nat × MB)} {ts : Ts} {ms : Ms} (hvl : impVals e0 xs = (vs, l)) (h1 : ∀ j, getT ts j = if 0 ≤ j then vs.getD (j - 0) .undef else .undef)
    (h3 : ∀ (n : Fx) (ts : Ts), (St.ls n ts []).mws l = St.ls n ts ms) : enter n xs = St.ls ⟨n, []⟩ ts ms := by
  unfold enter
  rw [hvl]
  simp only
  have h5 : (St.mws (St.ls ⟨n, []⟩ ts []) l) = St.ls ⟨n, []⟩ ts ms := h3 _ ts
  have h6 : ∀ (l : List (Nat × MB)) (s s' : St), s.m = s'.m → (s.mws l).m = (s'.mws l).m := by
    intro l
    induction l with
    | nil => intro s s' h; exact h
    | cons p l ih => intro s s' h; exact ih _ _ (by simp only [h])
  have h7 : (St.mws ⟨n, fun _ => .undef, fun _ => .abs, []⟩ l).m = getM ms := by
    have := congrArg St.m h5
    rw [show getM ms = (St.ls ⟨n, []⟩ ts ms).m from rfl, ← this]
    exact h6 _ _ _ (by funext k; rfl)
  simp only [St.ls, St.mk.injEq]
  refine ⟨by rw [mws_n], ?_, h7, by rw [mws_an]⟩
  funext k
  rw [h1]
  simp
theorem aftK_mk {st : St} {ms : Ms} (hm : st.m = getM ms) : ∀ {hs : List (Option Nat)} {as os : List AV} {X : Prop}, aftK ms hs as os X → Aft st hs as os ∧ X
  | [], [], [], X, h => ⟨trivial, h⟩
  | [], [], _ :: _, X, h => h.elim
  | [], _ :: _, [], X, h => h.elim
  | [], _ :: _, _ :: _, X, h => h.elim
  | none :: hs, [], [], X, h => h.elim
  | none :: hs, [], _ :: _, X, h => h.elim
  | some b :: hs, [], [], X, h => h.elim
  | some b :: hs, [], _ :: _, X, h => h.elim
  | none :: hs, x :: as, [], X, h => h.elim
  | some b :: hs, x :: as, [], X, h => h.elim
  | none :: hs, x :: as, o :: os, X, h => by
    obtain ⟨h1, h2⟩ := okK_mk h
    obtain ⟨h3, h4⟩ := aftK_mk hm h2
    refine ⟨⟨?_, h3⟩, h4⟩
    cases o <;> first | rfl | simp [AV.isUndef] at h1
  | some b :: hs, x :: as, o :: os, X, h => by
    obtain ⟨h1, h2⟩ := okK_mk h
    have h1 : (idsOf hs).contains b = false := by simpa using h1
    split at h2
    · rename_i arr lvl z rows hb
      split at h2
      · obtain ⟨h3, h4, h5⟩ := h2
        obtain ⟨h6, h7⟩ := aftK_mk hm h5
        exact ⟨⟨⟨lvl, z, rows, by rw [hm]; exact hb, h3, h4⟩, h1, h6⟩, h7⟩
      · exact h2.elim
    · exact h2.elim
theorem retVA_mk {rs : List ResultVar} {res : AV} {hs : List (Option Nat)} {as os : List AV} {ts : Ts} {ms : Ms} (h : retVA T rs res hs as os ts ms) (hn : n.an = idsOf hs) : retWA T rs res (fun st => Aft st hs as os ∧ st.an = idsOf hs) (St.ls n ts ms) :=
  runK_mono (go_mk h) fun xs hx => by
    unfold retXA
    split at hx
    · refine expValV_mk hx fun y ms h => ?_
      obtain ⟨h1, h2⟩ := aftK_mk (st := St.ls n ts ms) rfl (fg_mk (K := fun y => aftK ms hs as os (ShG y res)) h)
      exact ⟨h2.s, h1, hn⟩
    · rename_i hc
      split
      · rename_i x; exact absurd rfl (hc x)
      · refine expValsV_mk hx fun ys ms h => ?_
        obtain ⟨h1, h2⟩ := aftK_mk (st := St.ls n ts ms) rfl (fg_mk (K := fun y => aftK ms hs as os (ShG y res)) h)
        exact ⟨h2.s, h1, hn⟩
/-- A contract, by the quick walk. -/
theorem Con.ev {f : FuncId} {fn : Func} {c : Code} {xs : List AV} {res : AV} (n : Nat) (hT : T.ok P) (hm : P.follows .mixedOrders = true) (hf : P.funcs[f]? = some fn) (hn : (fn.name == "runtime.NumGoroutine") = false) (hb : fn.body = some c)
    (hok : xs.all impValOk = true) (hnn : xs.length + (fn.ntmps - xs.length) = n) (rs : List ResultVar) (hrs : fn.results.toList = rs)
    (h : enterV xs fun ts ms => ev P T ⟨n, []⟩ c (retQV T rs res) ts ms) : Con P f xs (undefs xs) res := by
  refine Con.of_WP hT hf hn hb hok ?_
  rw [hnn, hrs]
  unfold enterV at h
  split at h
  rename_i vs l hvl
  obtain ⟨ts, h1, h2⟩ := numK_mk 0 20 rfl h
  obtain ⟨ms, h3, h4⟩ := fmK_mk2 h2
  have : enter n xs = St.ls ⟨n, []⟩ ts ms := enter_ls hvl h1 h3
  rw [this]
  refine (ev_mk hT hm h4).mono fun e st hq => ?_
  obtain ⟨ts', ms', rfl, hq⟩ := hq
  cases e with
  | ret => exact retV_mk hq
  | normal => exact retV_mk hq
  | exit i => exact hq.elim
/-- A contract by which slices are handed over, by the quick walk. -/
theorem Con.evM {f : FuncId} {fn : Func} {c : Code} {xs os : List AV} {res : AV} (n : Nat) (fls : List Bool) (hs : List (Option Nat)) (an : List Nat) (hhs : handIds e0 fls xs = hs) (han : idsOf hs = an) (hfl : fls.length = xs.length) (hT : T.ok P) (hm : P.follows .mixedOrders = true)
    (hf : P.funcs[f]? = some fn) (hn : (fn.name == "runtime.NumGoroutine") = false) (hb : fn.body = some c)
    (hok : xs.all impValOk = true) (hnn : xs.length + (fn.ntmps - xs.length) = n) (rs : List ResultVar) (hrs : fn.results.toList = rs)
    (h : enterV xs fun ts ms => okK (an.all fun b => !isAbs (getM ms b)) (Go.Abs.ev P T ⟨n, an⟩ c (retQVA T rs res hs xs os) ts ms)) : Con P f xs os res := by
  subst hhs han
  unfold enterV at h
  split at h
  rename_i vs l hvl
  obtain ⟨ts, h1, h2⟩ := numK_mk 0 20 rfl h
  obtain ⟨ms, h3, h4⟩ := fmK_mk2 h2
  obtain ⟨h5, h6⟩ := okK_mk h4
  have hent := enter_ls (n := n) hvl h1 h3
  refine Con.of_WPA hT fls hfl hf hn hb hok (fun b hb => ?_) ?_
  · rw [hnn, hent]
    have := List.all_eq_true.1 h5 b hb
    intro hm
    have hm : getM ms b = .abs := hm
    rw [hm] at this
    simp [isAbs] at this
  · rw [hnn, hrs]
    have : enterA n xs (idsOf (handIds e0 fls xs)) = St.ls ⟨n, idsOf (handIds e0 fls xs)⟩ ts ms := by
      unfold enterA
      rw [hent]
      rfl
    rw [this]
    refine (ev_mk hT hm h6).mono fun e st hq => ?_
    obtain ⟨ts', ms', rfl, hq⟩ := hq
    cases e with
    | ret => exact retVA_mk hq rfl
    | normal => exact retVA_mk hq rfl
    | exit i => exact hq.elim
/-- A contract by which a struct is handed over, by the quick walk. -/
theorem Con.evH {f : FuncId} {fn : Func} {c : Code} {cs rest os : List AV} {res : AV} (n : Nat) (hs : List (Option Nat)) (an : List Nat) (hhs : ownIds e0 cs = hs) (han : idsOf hs = an) (hT : T.ok P) (hm : P.follows .mixedOrders = true)
    (hf : P.funcs[f]? = some fn) (hn : (fn.name == "runtime.NumGoroutine") = false) (hb : fn.body = some c)
    (hok : (AV.agg cs :: rest).all impValOk = true) (hnn : (AV.agg cs :: rest).length + (fn.ntmps - (AV.agg cs :: rest).length) = n) (rs : List ResultVar) (hrs : fn.results.toList = rs)
    (h : enterV (.agg cs :: rest) fun ts ms => okK (an.all fun b => !isAbs (getM ms b)) (Go.Abs.ev P T ⟨n, an⟩ c (retQVA T rs res hs cs os) ts ms)) : Con P f (.agg cs :: rest) (.agg os :: undefs rest) res := by
  subst hhs han
  unfold enterV at h
  split at h
  rename_i vs l hvl
  obtain ⟨ts, h1, h2⟩ := numK_mk 0 20 rfl h
  obtain ⟨ms, h3, h4⟩ := fmK_mk2 h2
  obtain ⟨h5, h6⟩ := okK_mk h4
  have hent := enter_ls (n := n) hvl h1 h3
  refine Con.of_WPH hT hf hn hb hok (fun b hb => ?_) ?_
  · rw [hnn, hent]
    have := List.all_eq_true.1 h5 b hb
    intro hm
    have hm : getM ms b = .abs := hm
    rw [hm] at this
    simp [isAbs] at this
  · rw [hnn, hrs]
    have : enterA n (.agg cs :: rest) (idsOf (ownIds e0 cs)) = St.ls ⟨n, idsOf (ownIds e0 cs)⟩ ts ms := by
      unfold enterA
      rw [hent]
      rfl
    rw [this]
    refine (ev_mk hT hm h6).mono fun e st hq => ?_
    obtain ⟨ts', ms', rfl, hq⟩ := hq
    cases e with
    | ret => exact retVA_mk hq rfl
    | normal => exact retVA_mk hq rfl
    | exit i => exact hq.elim
end
end Go.Abs
