/- The abstract layer, 19: code and functions. -/
import Derived.Test.YtiadohfbemjfkaaDoorAbsG
import Derived.Deep.LoopGhost
set_option linter.unusedVariables false
set_option linter.unusedSimpArgs false
noncomputable section
namespace Go.Abs
open Go
inductive Ex where
 |normal|exit (id:Nat)|ret
def Lift(E:Env)(Q:Ex→St→Prop):Exit→Act→World→Prop
 | .normal,a,w=> ∃st,Q .normal st∧Rel E st a w none2
 | .exit id,a,w=> ∃st,Q (.exit id) st∧Rel E st a w none2
 | .ret,a,w=> ∃st,Q .ret st∧Rel E st a w none2
 |_,_,_=>False
def WP(P:Program)(c:Code)(Q:Ex→St→Prop)(st:St):Prop:= ∀E,Tabs P E.w0 E.O0→ ∀a w,Rel E st a w none2→c.wp P (Lift E Q) a w
def seqK(P:Program)(c:Code)(Q:Ex→St→Prop):Ex→St→Prop
 | .normal,st=>WP P c Q st
 |e,st=>Q e st
def blockK(id:Nat)(Q:Ex→St→Prop):Ex→St→Prop
 | .exit i,st=>if i=id then Q .normal st else Q (.exit i) st
 |e,st=>Q e st
def loopK(K:St→Prop)(Q:Ex→St→Prop):Ex→St→Prop
 | .normal,st=>K st
 |e,st=>Q e st
def condSt(st:St)(c:Operand)(b:Bool):St:=match c with
 | .tmp k=>st.put (some k) (.bool b)
 |_=>st
def condW(P:Program)(x y:Code)(Q:Ex→St→Prop)(st:St)(c:Operand):AV→Prop
 | .bool b=>Br b (WP P x Q (condSt st c true)) (WP P y Q (condSt st c false))
 |_=>False
section
variable{P:Program}{T:TT}{E:Env}{o:Oper}{st:St}{a:Act}{w:World}{X:Cells}{loc:Locs}{ob:Nat→Cells}{r:Res}{Q Q':Ex→St→Prop}
theorem Lift.mono{Q1 Q2:Exit→Act→World→Prop}{e:Exit}(h:Lift E Q e a w)(hn: ∀st,Q .normal st→Rel E st a w none2→e=.normal→Q2 e a w)(he: ∀id st,Q (.exit id) st→Rel E st a w none2→e=.exit id→Q2 e a w)
  (hr: ∀st,Q .ret st→Rel E st a w none2→e=.ret→Q2 e a w):Q2 e a w:=by
 cases e with
 |normal=>obtain⟨st,h1,h2⟩:=h;exact hn st h1 h2 rfl
 |exit id=>obtain⟨st,h1,h2⟩:=h;exact he id st h1 h2 rfl
 |ret=>obtain⟨st,h1,h2⟩:=h;exact hr st h1 h2 rfl
 |_=>exact h.elim
theorem WP.mono{c:Code}(h:WP P c Q st)(hq: ∀e st,Q e st→Q' e st):WP P c Q' st:=fun E tb a w hr=>
 wp_mono (h E tb a w hr) fun e a w hl=>by
  cases e with
  |normal=>obtain⟨s,h1,h2⟩:=hl;exact⟨s,hq _ _ h1,h2⟩
  |exit id=>obtain⟨s,h1,h2⟩:=hl;exact⟨s,hq _ _ h1,h2⟩
  |ret=>obtain⟨s,h1,h2⟩:=hl;exact⟨s,hq _ _ h1,h2⟩
  |_=>exact hl.elim
theorem WP.skip(h:Q .normal st):WP P .skip Q st:=fun E tb a w hr=>wp_skip ⟨st,h,hr⟩
theorem WP.label{l:Nat}(h:Q .normal st):WP P (.label l) Q st:=fun E tb a w hr=>wp_label ⟨st,h,hr⟩
theorem WP.ret(h:Q .ret st):WP P .ret Q st:=fun E tb a w hr=>wp_ret ⟨st,h,hr⟩
theorem WP.exit{id:Nat}(h:Q (.exit id) st):WP P (.exit id) Q st:=fun E tb a w hr=>wp_exit ⟨st,h,hr⟩
theorem WP.seq{x y:Code}(h:WP P x (seqK P y Q) st):WP P (.seq x y) Q st:=fun E tb a w hr=>
 wp_seq (wp_mono (h E tb a w hr) fun e a' w' hl=>by
  cases e with
  |normal=>obtain⟨s,h1,h2⟩:=hl;exact h1 E tb a' w' h2
  |exit id=>exact hl
  |ret=>exact hl
  |_=>exact hl.elim)
theorem WP.block{id:Nat}{c:Code}(h:WP P c (blockK id Q) st):WP P (.block id c) Q st:=fun E tb a w hr=>
 wp_block (wp_mono (h E tb a w hr) fun e a' w' hl=>by
  cases e with
  |normal=>exact hl
  |exit i=>
   obtain⟨s,h1,h2⟩:=hl
   simp only[Exit.inBlock]
   simp only[blockK]at h1
   split
   ·rename_i hi;rw[if_pos hi]at h1;exact⟨s,h1,h2⟩
   ·rename_i hi;rw[if_neg hi]at h1;exact⟨s,h1,h2⟩
  |ret=>exact hl
  |_=>exact hl.elim)
theorem WP.cond{c:Operand}{x y:Code}(h:(opnd c).runK st (condW P x y Q st c)):WP P (.cond c x y) Q st:=fun E tb a w hr=>by
 obtain⟨v,hv,hk⟩:=runK_run h
 have hr0:=hr
 obtain⟨loc,ob,hrel⟩:=hr
 have hx:=opnd_some hrel hv
 unfold condW at hk
 split at hk
 ·rename_i b
  have he:a.eval c=.bool b:=hx.inv_bool
  have hst:condSt st c b=st:=by
   cases c with
   |tmp k=>exact put_same (ret_some (st:=st) hv)
   |_=>rfl
  refine wp_cond_split he (fun hb=> ?_) fun hb=> ?_
  ·subst hb
   have:=hk.1 rfl
   rw[hst]at this
   exact this E tb a w hr0
  ·subst hb
   have:=hk.2 rfl
   rw[hst]at this
   exact this E tb a w hr0
 ·exact hk.elim
theorem WP.region(hT:T.ok P){id:Nat}{ops:Array Oper}(h: ∀K:St→Prop,(∀s,Q .normal s→K s)→regW P T ops.toList ops.toList st K):WP P (.region id ops false) Q st:=fun E tb a w hr=>by
 refine wp_region ?_
 have:=regW_ok hT tb (Q:=Lift E Q) ops.toList 0 st a w (Q .normal) (fun j=>by simp) hr (h _ fun _ h=>h) fun st' a' w' hk h'=>⟨st',hk,h'⟩
 rwa [Array.length_toList,←List.range_eq_range']at this
theorem WP.loop{c:Code}(I:Nat→St→Prop)(n:Nat)(h0:I n st)(hs: ∀n st,I n st→WP P c (loopK (fun st'=> ∃m,m<n∧I m st') Q) st):WP P (.loop c) Q st:=fun E tb a w hr=>
 wp_loop_ghost (fun n a w=> ∃st,I n st∧Rel E st a w none2) n ⟨st,h0,hr⟩ fun n a w ⟨s,h1,h2⟩=>wp_mono (hs n s h1 E tb a w h2) fun e a' w' hl=>by
  cases e with
  |normal=>obtain⟨s',⟨m,h3,h4⟩,h5⟩:=hl;exact⟨m,h3,s',h4,h5⟩
  |exit id=>exact hl
  |ret=>exact hl
  |_=>exact hl.elim
theorem WP.weak{c:Code}{st':St}(hw: ∀E a w,Rel E st a w none2→Rel E st' a w none2)(h:WP P c Q st'):WP P c Q st:=fun E tb a w hr=>h E tb a w (hw E a w hr)
end
end Go.Abs
