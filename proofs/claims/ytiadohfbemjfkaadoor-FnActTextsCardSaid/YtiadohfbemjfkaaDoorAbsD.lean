/- The abstract layer, 15: every operation but a call. -/
import Derived.Test.YtiadohfbemjfkaaDoorAbsC
set_option linter.unusedVariables false
set_option linter.unusedSimpArgs false
noncomputable section
namespace Go.Abs
open Go
section
variable{P:Program}{T:TT}{E:Env}{o:Oper}{st:St}{a:Act}{w:World}{X:Cells}{loc:Locs}{ob:Nat→Cells}{r:Res}
theorem evOp_ok(hT:T.ok P)(h:RelC E st a w X loc ob)(hr:(evOp T o).run st=some r):Did P E o st a w X r:=by
 unfold evOp at hr
 split at hr
 ·rename_i x ho;exact did_move h (.inl ho) hr
 ·rename_i x ho;exact did_move h (.inr ho) hr
 ·rename_i ho;exact did_pick h ho hr
 ·rename_i ho;obtain⟨d,_,hr⟩:=dstOf_some hr;exact did_alloc hT h ho hr
 ·rename_i ho;obtain⟨d,_,hr⟩:=dstOf_some hr;exact did_box h ho hr
 ·rename_i ho;exact did_build hT h ho hr
 ·rename_i ho;obtain⟨d,_,hr⟩:=dstOf_some hr;exact did_buildSlice hT h ho hr
 ·rename_i ho;exact did_load hT h ho hr
 ·rename_i ho;exact did_store hT h ho hr
 ·rename_i ho;exact did_nil h ho hr
 ·rename_i x y ty ho
  split at hr
  ·rename_i hn;exact did_nilI hT h ho hn hr
  ·exact did_bin hT h ho hr
 ·rename_i ho;exact did_un h ho hr
 ·rename_i ho;obtain⟨d,_,hr⟩:=dstOf_some hr;exact did_convert hT h ho hr
 ·rename_i ho;exact did_extract h ho hr
 ·rename_i ho;exact did_field hT h ho hr
 ·rename_i ho;exact did_makeFunc h ho hr
 ·rename_i ho;obtain⟨d,_,hr⟩:=dstOf_some hr;exact did_makeSlice hT h ho hr
 ·rename_i mx ho
  split at hr
  ·exact did_slice hT h ho hr
  ·exact(fail_some hr).elim
 ·rename_i ho;exact did_fieldAddr hT h ho hr
 ·rename_i ho;exact did_indexAddr hT h ho hr
 ·rename_i ho;exact did_index h hT ho hr
 ·rename_i c ho
  split at hr
  ·rename_i b hc
   cases b with
   |len=>exact did_len hT h ho hc hr
   |max=>exact did_maxmin (T:=T) h ho (.inl hc) (by rw[hc];exact hr)
   |min=>exact did_maxmin (T:=T) h ho (.inr hc) (by rw[hc];exact hr)
   |append=>exact did_append hT h ho hc hr
   |copy=>exact did_copy hT h ho hc hr
   |clear=>exact did_clear hT h ho hc hr
   |_=>exact(fail_some hr).elim
  ·exact(fail_some hr).elim
 ·exact(fail_some hr).elim
def St.after(s:St)(o:Oper)(r:Res):St:=(s.mws r.2).put o.dst r.1
theorem mws_n(l:List (Nat × MB)): ∀s:St,(s.mws l).n=s.n:=by
 induction l with
 |nil=>intro s;rfl
 |cons x l ih=>intro s;exact(ih _).trans rfl
theorem mws_an(l:List (Nat × MB)): ∀s:St,(s.mws l).an=s.an:=by
 induction l with
 |nil=>intro s;rfl
 |cons x l ih=>intro s;exact(ih _).trans rfl
theorem mws_t(l:List (Nat × MB)): ∀s:St,(s.mws l).t=s.t:=by
 induction l with
 |nil=>intro s;rfl
 |cons x l ih=>intro s;exact(ih _).trans rfl
theorem did_next(hd:st.dstOk o.dst=true)(hr:Did P E o st a w X r): ∃nx a' w',(execOp a.eval o).run P w=.ok nx w'∧((∃v,nx=.value v∧a'=a.put o.dst v)∨(nx=.skip∧a'=a.put o.dst undef))∧Rel E (st.after o r) a' w' X:=by
 obtain⟨nx,v,w',loc',ob',h1,h2,h3,h4⟩:=hr
 refine⟨nx,a.put o.dst v,w',h1,?_,loc',ob',h3.put o.dst r.1 v ?_ fun _=>h4⟩
 ·rcases h2 with h2|⟨h2,rfl⟩
  ·exact .inl ⟨v,h2,rfl⟩
  ·exact .inr ⟨h2,rfl⟩
 ·unfold St.dstOk at*
  rw[mws_n]
  exact hd
end
end Go.Abs
