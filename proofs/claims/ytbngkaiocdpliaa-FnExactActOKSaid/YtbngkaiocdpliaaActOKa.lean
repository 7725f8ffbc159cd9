/- The functions that the law FnExactActOK reaches, each with its contract; the law returns true. -/
import Derived.Test.YtbngkaiocdpliaaProg
import Derived.KernelRfl
import Derived.Test.YtbngkaiocdpliaaAbsJ
set_option linter.unusedVariables false
set_option linter.unusedSimpArgs false
set_option maxRecDepth 100000
open Go Go.Abs Go.Proofs
namespace U1
theorem sh_eq {x y : AV} (h : x = y) : Sh x y := h ▸ Sh.refl x
def T : TT := [(3, ⟨.int .i64, 1, 8, [.int .i64 0], false⟩), (4, ⟨.bool, 1, 1, [.bool false], false⟩), (26, ⟨.struct [(0,3),(1,3),(2,9)], 3, 32, [.int .i64 0, .int .i64 0, .str []], true⟩), (9, ⟨.str, 1, 16, [.str []], false⟩), (21, ⟨.int .i32, 1, 4, [.int .i32 0], false⟩), (23, ⟨.struct [(0,3),(1,3),(2,9)], 3, 32, [.int .i64 0, .int .i64 0, .str []], true⟩)]
theorem T_ok : T.ok Try.prog := by
  intro t i h
  simp only [T, TT.get] at h
  split at h
  · rename_i e; subst e; injection h with h; subst h; kernel_rfl
  split at h
  · rename_i e; subst e; injection h with h; subst h; kernel_rfl
  split at h
  · rename_i e; subst e; injection h with h; subst h; kernel_rfl
  split at h
  · rename_i e; subst e; injection h with h; subst h; kernel_rfl
  split at h
  · rename_i e; subst e; injection h with h; subst h; kernel_rfl
  split at h
  · rename_i e; subst e; injection h with h; subst h; kernel_rfl
  · cases h
attribute [local go_sem] rq_true rq_false br_true br_false put_t put_m put_n put_none mws_nil mws_cons mw_t mw_n mw_m of_t of_m of_n lookT_nil lookT_cons lookM_nil lookM_cons number bind_ret bind_tmp bind_mem bind_req runK_ret runK_tmp runK_mem runK_req runK_fail guardW opW opR callA callW landW evOp opnd opnds lendVals lendVal lendLeaf lendLeaves AV.goes AV.plain St.after St.dstOk val ofVal impVals impVal impLeaf impLeaves impRes evPick binA binInt binBool binStr arithInt unA List.any_nil List.any_cons AV.hasRef AV.hasRef0 impResOk impValOk impLeafOk AV.light List.all_nil List.all_cons e0 List.length_cons List.length_nil decide_true decide_false Bool.not_false Bool.not_true Bool.or_true Bool.true_or Bool.or_false Bool.false_or Bool.and_true Bool.true_and Bool.and_false Bool.false_and if_true if_false beq_self_eq_true St.keep List.map_cons List.map_nil AV.inB AV.in1 inBlk List.nil_append List.cons_append List.getElem?_cons_succ List.getElem?_cons_zero retW slotsP retX expValK expLeavesK expLeaf condW condSt and_self true_and and_true evBox newB varB dstOf evAlloc TI.ofT TT.get evLoad cellsAt liveA rowA isAggT AV.leaves evStore setRow setCells evFieldAddr fieldA evConvert convA evBuiltin argT evLen lenA fitsA List.getD_cons_zero List.take_succ_cons List.take_zero List.drop_zero List.drop_succ_cons List.drop_nil List.set_cons_zero List.set_cons_succ List.append_nil AV.isUndef cid TI.size TI.ut TI.zero TI.bytes TI.eqs Option.isSome_some Nat.add_zero Nat.zero_add evNilCheck AV.nr AV.nr1 AV.nr0 Bool.not_true Bool.not_false Bool.not_not evExtract RP.ofOpt List.flatten List.max List.getD_cons_succ
theorem T3 : T.get 3 = some ⟨.int .i64, 1, 8, [.int .i64 0], false⟩ := rfl
theorem T4 : T.get 4 = some ⟨.bool, 1, 1, [.bool false], false⟩ := rfl
theorem T26 : T.get 26 = some ⟨.struct [(0,3),(1,3),(2,9)], 3, 32, [.int .i64 0, .int .i64 0, .str []], true⟩ := rfl
theorem T23 : T.get 23 = some ⟨.struct [(0,3),(1,3),(2,9)], 3, 32, [.int .i64 0, .int .i64 0, .str []], true⟩ := rfl
theorem T9 : T.get 9 = some ⟨.str, 1, 16, [.str []], false⟩ := rfl
theorem T21 : T.get 21 = some ⟨.int .i32, 1, 4, [.int .i32 0], false⟩ := rfl
attribute [local go_sem] T3 T4 T26 T23 T9 T21

def inR (n lo hi : Int) : Bool := decide (lo ≤ n) && decide (n ≤ hi)
theorem c41 (n lo hi : Int) : Con Try.prog 41 [.int .i64 n, .int .i64 lo, .int .i64 hi] (undefs [.int .i64 n, .int .i64 lo, .int .i64 hi]) (.bool (inR n lo hi)) := by
  refine Con.of 15 T_ok Try.func41 rfl rfl rfl rfl [.tmp 6] rfl ?_
  simp only [go_sem, Nat.reduceAdd, Nat.reduceLT, Nat.reduceLeDiff, Nat.reduceEqDiff, reduceIte, reduceCtorEq, Nat.reduceBEq, Int.reduceLE, Int.reduceLT, Int.reduceToNat, Int.reduceNeg, Int.reduceEq, Nat.reduceMul, Nat.reduceSub]
  repeat' (first
    | (refine regW_op rfl fun K hK => ?_; simp only [go_sem, Nat.reduceAdd, Nat.reduceLT, Nat.reduceLeDiff, Nat.reduceEqDiff, reduceIte, reduceCtorEq, Nat.reduceBEq, Int.reduceLE, Int.reduceLT, Int.reduceToNat, Int.reduceNeg, Int.reduceEq, Nat.reduceMul, Nat.reduceSub]; first | (refine hK _ ?_; clear hK K) )
    | (refine regW_gd rfl fun K hK => ?_; simp only [go_sem, Nat.reduceAdd, Nat.reduceLT, Nat.reduceLeDiff, Nat.reduceEqDiff, reduceIte, reduceCtorEq, Nat.reduceBEq, Int.reduceLE, Int.reduceLT, Int.reduceToNat, Int.reduceNeg, Int.reduceEq, Nat.reduceMul, Nat.reduceSub]; first | (refine hK _ ?_; clear hK K)  | (refine br_intro (fun _ => ?_) fun _ => ?_ <;> (try simp only [go_sem, Nat.reduceAdd, Nat.reduceLT, Nat.reduceLeDiff, Nat.reduceEqDiff, reduceIte, reduceCtorEq, Nat.reduceBEq, Int.reduceLE, Int.reduceLT, Int.reduceToNat, Int.reduceNeg, Int.reduceEq, Nat.reduceMul, Nat.reduceSub]) <;> (refine hK _ ?_; clear hK K)))
    | (refine regW_nil ?_)
    | (refine WP.seq ?_)
    | (refine WP.reg T_ok ?_)
    | (refine WP.block ?_)
    | (refine WP.skip ?_)
    | (refine WP.cond ?_; simp only [go_sem, Nat.reduceAdd, Nat.reduceLT, Nat.reduceLeDiff, Nat.reduceEqDiff, reduceIte, reduceCtorEq, Nat.reduceBEq, Int.reduceLE, Int.reduceLT, Int.reduceToNat, Int.reduceNeg, Int.reduceEq, Nat.reduceMul, Nat.reduceSub]; first | (refine br_intro (fun _ => ?_) fun _ => ?_) | skip)
    | (refine WP.exit ?_)
    | (refine WP.ret ?_; show retW _ _ _ _; simp only [go_sem, Nat.reduceAdd, Nat.reduceLT, Nat.reduceLeDiff, Nat.reduceEqDiff, reduceIte, reduceCtorEq, Nat.reduceBEq, Int.reduceLE, Int.reduceLT, Int.reduceToNat, Int.reduceNeg, Int.reduceEq, Nat.reduceMul, Nat.reduceSub]; refine sh_eq ?_; first | (simp_all [inR]; done) | (simp_all [inR]; omega)))
theorem c38 (n lo hi : Int) : Con Try.prog 38 [.int .i64 n, .int .i64 lo, .int .i64 hi] (undefs [.int .i64 n, .int .i64 lo, .int .i64 hi]) (.bool (inR n lo hi)) := by
  refine Con.of 15 T_ok Try.func38 rfl rfl rfl rfl [.tmp 6] rfl ?_
  simp only [go_sem, Nat.reduceAdd, Nat.reduceLT, Nat.reduceLeDiff, Nat.reduceEqDiff, reduceIte, reduceCtorEq, Nat.reduceBEq, Int.reduceLE, Int.reduceLT, Int.reduceToNat, Int.reduceNeg, Int.reduceEq, Nat.reduceMul, Nat.reduceSub]
  repeat' (first
    | (refine regW_op rfl fun K hK => ?_; simp only [go_sem, Nat.reduceAdd, Nat.reduceLT, Nat.reduceLeDiff, Nat.reduceEqDiff, reduceIte, reduceCtorEq, Nat.reduceBEq, Int.reduceLE, Int.reduceLT, Int.reduceToNat, Int.reduceNeg, Int.reduceEq, Nat.reduceMul, Nat.reduceSub]; first | (refine hK _ ?_; clear hK K) )
    | (refine regW_gd rfl fun K hK => ?_; simp only [go_sem, Nat.reduceAdd, Nat.reduceLT, Nat.reduceLeDiff, Nat.reduceEqDiff, reduceIte, reduceCtorEq, Nat.reduceBEq, Int.reduceLE, Int.reduceLT, Int.reduceToNat, Int.reduceNeg, Int.reduceEq, Nat.reduceMul, Nat.reduceSub]; first | (refine hK _ ?_; clear hK K)  | (refine br_intro (fun _ => ?_) fun _ => ?_ <;> (try simp only [go_sem, Nat.reduceAdd, Nat.reduceLT, Nat.reduceLeDiff, Nat.reduceEqDiff, reduceIte, reduceCtorEq, Nat.reduceBEq, Int.reduceLE, Int.reduceLT, Int.reduceToNat, Int.reduceNeg, Int.reduceEq, Nat.reduceMul, Nat.reduceSub]) <;> (refine hK _ ?_; clear hK K)))
    | (refine regW_nil ?_)
    | (refine WP.seq ?_)
    | (refine WP.reg T_ok ?_)
    | (refine WP.block ?_)
    | (refine WP.skip ?_)
    | (refine WP.cond ?_; simp only [go_sem, Nat.reduceAdd, Nat.reduceLT, Nat.reduceLeDiff, Nat.reduceEqDiff, reduceIte, reduceCtorEq, Nat.reduceBEq, Int.reduceLE, Int.reduceLT, Int.reduceToNat, Int.reduceNeg, Int.reduceEq, Nat.reduceMul, Nat.reduceSub]; first | (refine br_intro (fun _ => ?_) fun _ => ?_) | skip)
    | (refine WP.exit ?_)
    | (refine WP.ret ?_; show retW _ _ _ _; simp only [go_sem, Nat.reduceAdd, Nat.reduceLT, Nat.reduceLeDiff, Nat.reduceEqDiff, reduceIte, reduceCtorEq, Nat.reduceBEq, Int.reduceLE, Int.reduceLT, Int.reduceToNat, Int.reduceNeg, Int.reduceEq, Nat.reduceMul, Nat.reduceSub]; refine sh_eq ?_; first | (simp_all [inR]; done) | (simp_all [inR]; omega)))
theorem c40 (n : Int) : Con Try.prog 40 [.int .i64 n] (undefs [.int .i64 n]) (.bool (inR n 0 3)) := by
  refine Con.of 5 T_ok Try.func40 rfl rfl rfl rfl [.tmp 2] rfl ?_
  simp only [go_sem, Nat.reduceAdd, Nat.reduceLT, Nat.reduceLeDiff, Nat.reduceEqDiff, reduceIte, reduceCtorEq, Nat.reduceBEq, Int.reduceLE, Int.reduceLT, Int.reduceToNat, Int.reduceNeg, Int.reduceEq, Nat.reduceMul, Nat.reduceSub]
  repeat' (first
    | (refine regW_op rfl fun K hK => ?_; simp only [go_sem, Nat.reduceAdd, Nat.reduceLT, Nat.reduceLeDiff, Nat.reduceEqDiff, reduceIte, reduceCtorEq, Nat.reduceBEq, Int.reduceLE, Int.reduceLT, Int.reduceToNat, Int.reduceNeg, Int.reduceEq, Nat.reduceMul, Nat.reduceSub]; first | (refine hK _ ?_; clear hK K) | (first | refine ⟨_, c41 .., ?_⟩); simp only [go_sem, Nat.reduceAdd, Nat.reduceLT, Nat.reduceLeDiff, Nat.reduceEqDiff, reduceIte, reduceCtorEq, Nat.reduceBEq, Int.reduceLE, Int.reduceLT, Int.reduceToNat, Int.reduceNeg, Int.reduceEq, Nat.reduceMul, Nat.reduceSub]; refine hK _ ?_; clear hK K)
    | (refine regW_gd rfl fun K hK => ?_; simp only [go_sem, Nat.reduceAdd, Nat.reduceLT, Nat.reduceLeDiff, Nat.reduceEqDiff, reduceIte, reduceCtorEq, Nat.reduceBEq, Int.reduceLE, Int.reduceLT, Int.reduceToNat, Int.reduceNeg, Int.reduceEq, Nat.reduceMul, Nat.reduceSub]; first | (refine hK _ ?_; clear hK K) | (first | refine ⟨_, c41 .., ?_⟩); simp only [go_sem, Nat.reduceAdd, Nat.reduceLT, Nat.reduceLeDiff, Nat.reduceEqDiff, reduceIte, reduceCtorEq, Nat.reduceBEq, Int.reduceLE, Int.reduceLT, Int.reduceToNat, Int.reduceNeg, Int.reduceEq, Nat.reduceMul, Nat.reduceSub]; refine hK _ ?_; clear hK K | (refine br_intro (fun _ => ?_) fun _ => ?_ <;> (try simp only [go_sem, Nat.reduceAdd, Nat.reduceLT, Nat.reduceLeDiff, Nat.reduceEqDiff, reduceIte, reduceCtorEq, Nat.reduceBEq, Int.reduceLE, Int.reduceLT, Int.reduceToNat, Int.reduceNeg, Int.reduceEq, Nat.reduceMul, Nat.reduceSub]) <;> (refine hK _ ?_; clear hK K)))
    | (refine regW_nil ?_)
    | (refine WP.seq ?_)
    | (refine WP.reg T_ok ?_)
    | (refine WP.block ?_)
    | (refine WP.skip ?_)
    | (refine WP.cond ?_; simp only [go_sem, Nat.reduceAdd, Nat.reduceLT, Nat.reduceLeDiff, Nat.reduceEqDiff, reduceIte, reduceCtorEq, Nat.reduceBEq, Int.reduceLE, Int.reduceLT, Int.reduceToNat, Int.reduceNeg, Int.reduceEq, Nat.reduceMul, Nat.reduceSub]; first | (refine br_intro (fun _ => ?_) fun _ => ?_) | skip)
    | (refine WP.exit ?_)
    | (refine WP.ret ?_; show retW _ _ _ _; simp only [go_sem, Nat.reduceAdd, Nat.reduceLT, Nat.reduceLeDiff, Nat.reduceEqDiff, reduceIte, reduceCtorEq, Nat.reduceBEq, Int.reduceLE, Int.reduceLT, Int.reduceToNat, Int.reduceNeg, Int.reduceEq, Nat.reduceMul, Nat.reduceSub]; refine sh_eq ?_; rfl))
theorem c39 (n : Int) : Con Try.prog 39 [.int .i64 n] (undefs [.int .i64 n]) (.bool (inR n (-2147483648) 2147483647)) := by
  refine Con.of 5 T_ok Try.func39 rfl rfl rfl rfl [.tmp 2] rfl ?_
  simp only [go_sem, Nat.reduceAdd, Nat.reduceLT, Nat.reduceLeDiff, Nat.reduceEqDiff, reduceIte, reduceCtorEq, Nat.reduceBEq, Int.reduceLE, Int.reduceLT, Int.reduceToNat, Int.reduceNeg, Int.reduceEq, Nat.reduceMul, Nat.reduceSub]
  repeat' (first
    | (refine regW_op rfl fun K hK => ?_; simp only [go_sem, Nat.reduceAdd, Nat.reduceLT, Nat.reduceLeDiff, Nat.reduceEqDiff, reduceIte, reduceCtorEq, Nat.reduceBEq, Int.reduceLE, Int.reduceLT, Int.reduceToNat, Int.reduceNeg, Int.reduceEq, Nat.reduceMul, Nat.reduceSub]; first | (refine hK _ ?_; clear hK K) | (first | refine ⟨_, c38 .., ?_⟩); simp only [go_sem, Nat.reduceAdd, Nat.reduceLT, Nat.reduceLeDiff, Nat.reduceEqDiff, reduceIte, reduceCtorEq, Nat.reduceBEq, Int.reduceLE, Int.reduceLT, Int.reduceToNat, Int.reduceNeg, Int.reduceEq, Nat.reduceMul, Nat.reduceSub]; refine hK _ ?_; clear hK K)
    | (refine regW_gd rfl fun K hK => ?_; simp only [go_sem, Nat.reduceAdd, Nat.reduceLT, Nat.reduceLeDiff, Nat.reduceEqDiff, reduceIte, reduceCtorEq, Nat.reduceBEq, Int.reduceLE, Int.reduceLT, Int.reduceToNat, Int.reduceNeg, Int.reduceEq, Nat.reduceMul, Nat.reduceSub]; first | (refine hK _ ?_; clear hK K) | (first | refine ⟨_, c38 .., ?_⟩); simp only [go_sem, Nat.reduceAdd, Nat.reduceLT, Nat.reduceLeDiff, Nat.reduceEqDiff, reduceIte, reduceCtorEq, Nat.reduceBEq, Int.reduceLE, Int.reduceLT, Int.reduceToNat, Int.reduceNeg, Int.reduceEq, Nat.reduceMul, Nat.reduceSub]; refine hK _ ?_; clear hK K | (refine br_intro (fun _ => ?_) fun _ => ?_ <;> (try simp only [go_sem, Nat.reduceAdd, Nat.reduceLT, Nat.reduceLeDiff, Nat.reduceEqDiff, reduceIte, reduceCtorEq, Nat.reduceBEq, Int.reduceLE, Int.reduceLT, Int.reduceToNat, Int.reduceNeg, Int.reduceEq, Nat.reduceMul, Nat.reduceSub]) <;> (refine hK _ ?_; clear hK K)))
    | (refine regW_nil ?_)
    | (refine WP.seq ?_)
    | (refine WP.reg T_ok ?_)
    | (refine WP.block ?_)
    | (refine WP.skip ?_)
    | (refine WP.cond ?_; simp only [go_sem, Nat.reduceAdd, Nat.reduceLT, Nat.reduceLeDiff, Nat.reduceEqDiff, reduceIte, reduceCtorEq, Nat.reduceBEq, Int.reduceLE, Int.reduceLT, Int.reduceToNat, Int.reduceNeg, Int.reduceEq, Nat.reduceMul, Nat.reduceSub]; first | (refine br_intro (fun _ => ?_) fun _ => ?_) | skip)
    | (refine WP.exit ?_)
    | (refine WP.ret ?_; show retW _ _ _ _; simp only [go_sem, Nat.reduceAdd, Nat.reduceLT, Nat.reduceLeDiff, Nat.reduceEqDiff, reduceIte, reduceCtorEq, Nat.reduceBEq, Int.reduceLE, Int.reduceLT, Int.reduceToNat, Int.reduceNeg, Int.reduceEq, Nat.reduceMul, Nat.reduceSub]; refine sh_eq ?_; rfl))
def wrapCell (n : Int) : Int := IntKind.i64.wrap (IntKind.i32.wrap n)
theorem c67 (n : Int) : Con Try.prog 67 [.int .i64 n] (undefs [.int .i64 n]) (.int .i64 (wrapCell n)) := by
  refine Con.of 6 T_ok Try.func67 rfl rfl rfl rfl [.tmp 2] rfl ?_
  simp only [go_sem, Nat.reduceAdd, Nat.reduceLT, Nat.reduceLeDiff, Nat.reduceEqDiff, reduceIte, reduceCtorEq, Nat.reduceBEq, Int.reduceLE, Int.reduceLT, Int.reduceToNat, Int.reduceNeg, Int.reduceEq, Nat.reduceMul, Nat.reduceSub]
  repeat' (first
    | (refine regW_op rfl fun K hK => ?_; simp only [go_sem, Nat.reduceAdd, Nat.reduceLT, Nat.reduceLeDiff, Nat.reduceEqDiff, reduceIte, reduceCtorEq, Nat.reduceBEq, Int.reduceLE, Int.reduceLT, Int.reduceToNat, Int.reduceNeg, Int.reduceEq, Nat.reduceMul, Nat.reduceSub]; first | (refine hK _ ?_; clear hK K) )
    | (refine regW_gd rfl fun K hK => ?_; simp only [go_sem, Nat.reduceAdd, Nat.reduceLT, Nat.reduceLeDiff, Nat.reduceEqDiff, reduceIte, reduceCtorEq, Nat.reduceBEq, Int.reduceLE, Int.reduceLT, Int.reduceToNat, Int.reduceNeg, Int.reduceEq, Nat.reduceMul, Nat.reduceSub]; first | (refine hK _ ?_; clear hK K)  | (refine br_intro (fun _ => ?_) fun _ => ?_ <;> (try simp only [go_sem, Nat.reduceAdd, Nat.reduceLT, Nat.reduceLeDiff, Nat.reduceEqDiff, reduceIte, reduceCtorEq, Nat.reduceBEq, Int.reduceLE, Int.reduceLT, Int.reduceToNat, Int.reduceNeg, Int.reduceEq, Nat.reduceMul, Nat.reduceSub]) <;> (refine hK _ ?_; clear hK K)))
    | (refine regW_nil ?_)
    | (refine WP.seq ?_)
    | (refine WP.reg T_ok ?_)
    | (refine WP.block ?_)
    | (refine WP.skip ?_)
    | (refine WP.cond ?_; simp only [go_sem, Nat.reduceAdd, Nat.reduceLT, Nat.reduceLeDiff, Nat.reduceEqDiff, reduceIte, reduceCtorEq, Nat.reduceBEq, Int.reduceLE, Int.reduceLT, Int.reduceToNat, Int.reduceNeg, Int.reduceEq, Nat.reduceMul, Nat.reduceSub]; first | (refine br_intro (fun _ => ?_) fun _ => ?_) | skip)
    | (refine WP.exit ?_)
    | (refine WP.ret ?_; show retW _ _ _ _; simp only [go_sem, Nat.reduceAdd, Nat.reduceLT, Nat.reduceLeDiff, Nat.reduceEqDiff, reduceIte, reduceCtorEq, Nat.reduceBEq, Int.reduceLE, Int.reduceLT, Int.reduceToNat, Int.reduceNeg, Int.reduceEq, Nat.reduceMul, Nat.reduceSub]; refine sh_eq ?_; rfl))
theorem c42 (n : Int) : Con Try.prog 42 [.int .i64 n] (undefs [.int .i64 n]) (.bool (wrapCell n == n)) := by
  refine Con.of 7 T_ok Try.func42 rfl rfl rfl rfl [.tmp 2] rfl ?_
  simp only [go_sem, Nat.reduceAdd, Nat.reduceLT, Nat.reduceLeDiff, Nat.reduceEqDiff, reduceIte, reduceCtorEq, Nat.reduceBEq, Int.reduceLE, Int.reduceLT, Int.reduceToNat, Int.reduceNeg, Int.reduceEq, Nat.reduceMul, Nat.reduceSub]
  repeat' (first
    | (refine regW_op rfl fun K hK => ?_; simp only [go_sem, Nat.reduceAdd, Nat.reduceLT, Nat.reduceLeDiff, Nat.reduceEqDiff, reduceIte, reduceCtorEq, Nat.reduceBEq, Int.reduceLE, Int.reduceLT, Int.reduceToNat, Int.reduceNeg, Int.reduceEq, Nat.reduceMul, Nat.reduceSub]; first | (refine hK _ ?_; clear hK K) | (first | refine ⟨_, c67 .., ?_⟩); simp only [go_sem, Nat.reduceAdd, Nat.reduceLT, Nat.reduceLeDiff, Nat.reduceEqDiff, reduceIte, reduceCtorEq, Nat.reduceBEq, Int.reduceLE, Int.reduceLT, Int.reduceToNat, Int.reduceNeg, Int.reduceEq, Nat.reduceMul, Nat.reduceSub]; refine hK _ ?_; clear hK K)
    | (refine regW_gd rfl fun K hK => ?_; simp only [go_sem, Nat.reduceAdd, Nat.reduceLT, Nat.reduceLeDiff, Nat.reduceEqDiff, reduceIte, reduceCtorEq, Nat.reduceBEq, Int.reduceLE, Int.reduceLT, Int.reduceToNat, Int.reduceNeg, Int.reduceEq, Nat.reduceMul, Nat.reduceSub]; first | (refine hK _ ?_; clear hK K) | (first | refine ⟨_, c67 .., ?_⟩); simp only [go_sem, Nat.reduceAdd, Nat.reduceLT, Nat.reduceLeDiff, Nat.reduceEqDiff, reduceIte, reduceCtorEq, Nat.reduceBEq, Int.reduceLE, Int.reduceLT, Int.reduceToNat, Int.reduceNeg, Int.reduceEq, Nat.reduceMul, Nat.reduceSub]; refine hK _ ?_; clear hK K | (refine br_intro (fun _ => ?_) fun _ => ?_ <;> (try simp only [go_sem, Nat.reduceAdd, Nat.reduceLT, Nat.reduceLeDiff, Nat.reduceEqDiff, reduceIte, reduceCtorEq, Nat.reduceBEq, Int.reduceLE, Int.reduceLT, Int.reduceToNat, Int.reduceNeg, Int.reduceEq, Nat.reduceMul, Nat.reduceSub]) <;> (refine hK _ ?_; clear hK K)))
    | (refine regW_nil ?_)
    | (refine WP.seq ?_)
    | (refine WP.reg T_ok ?_)
    | (refine WP.block ?_)
    | (refine WP.skip ?_)
    | (refine WP.cond ?_; simp only [go_sem, Nat.reduceAdd, Nat.reduceLT, Nat.reduceLeDiff, Nat.reduceEqDiff, reduceIte, reduceCtorEq, Nat.reduceBEq, Int.reduceLE, Int.reduceLT, Int.reduceToNat, Int.reduceNeg, Int.reduceEq, Nat.reduceMul, Nat.reduceSub]; first | (refine br_intro (fun _ => ?_) fun _ => ?_) | skip)
    | (refine WP.exit ?_)
    | (refine WP.ret ?_; show retW _ _ _ _; simp only [go_sem, Nat.reduceAdd, Nat.reduceLT, Nat.reduceLeDiff, Nat.reduceEqDiff, reduceIte, reduceCtorEq, Nat.reduceBEq, Int.reduceLE, Int.reduceLT, Int.reduceToNat, Int.reduceNeg, Int.reduceEq, Nat.reduceMul, Nat.reduceSub]; refine sh_eq ?_; rfl))
theorem c8 (k n : Int) (l : List UInt8) (m : Int) : Con Try.prog 8 [.agg [.int .i64 k, .int .i64 n, .str l], .int .i64 m] (undefs [.agg [.int .i64 k, .int .i64 n, .str l], .int .i64 m])
    (.int .i64 (if decide (IntKind.i64.wrap (m - l.length) < 0) = true then -1 else IntKind.i64.wrap (m - l.length))) := by
  refine Con.of 13 T_ok Try.func8 rfl rfl rfl rfl [.tmp 4] rfl ?_
  simp only [go_sem, Nat.reduceAdd, Nat.reduceLT, Nat.reduceLeDiff, Nat.reduceEqDiff, reduceIte, reduceCtorEq, Nat.reduceBEq, Int.reduceLE, Int.reduceLT, Int.reduceToNat, Int.reduceNeg, Int.reduceEq, Nat.reduceMul, Nat.reduceSub]
  repeat' (first
    | (refine regW_op rfl fun K hK => ?_; simp only [go_sem, Nat.reduceAdd, Nat.reduceLT, Nat.reduceLeDiff, Nat.reduceEqDiff, reduceIte, reduceCtorEq, Nat.reduceBEq, Int.reduceLE, Int.reduceLT, Int.reduceToNat, Int.reduceNeg, Int.reduceEq, Nat.reduceMul, Nat.reduceSub]; first | (refine hK _ ?_; clear hK K) )
    | (refine regW_gd rfl fun K hK => ?_; simp only [go_sem, Nat.reduceAdd, Nat.reduceLT, Nat.reduceLeDiff, Nat.reduceEqDiff, reduceIte, reduceCtorEq, Nat.reduceBEq, Int.reduceLE, Int.reduceLT, Int.reduceToNat, Int.reduceNeg, Int.reduceEq, Nat.reduceMul, Nat.reduceSub]; first | (refine hK _ ?_; clear hK K)  | (refine br_intro (fun _ => ?_) fun _ => ?_ <;> (try simp only [go_sem, Nat.reduceAdd, Nat.reduceLT, Nat.reduceLeDiff, Nat.reduceEqDiff, reduceIte, reduceCtorEq, Nat.reduceBEq, Int.reduceLE, Int.reduceLT, Int.reduceToNat, Int.reduceNeg, Int.reduceEq, Nat.reduceMul, Nat.reduceSub]) <;> (refine hK _ ?_; clear hK K)))
    | (refine regW_nil ?_)
    | (refine WP.seq ?_)
    | (refine WP.reg T_ok ?_)
    | (refine WP.block ?_)
    | (refine WP.skip ?_)
    | (refine WP.cond ?_; simp only [go_sem, Nat.reduceAdd, Nat.reduceLT, Nat.reduceLeDiff, Nat.reduceEqDiff, reduceIte, reduceCtorEq, Nat.reduceBEq, Int.reduceLE, Int.reduceLT, Int.reduceToNat, Int.reduceNeg, Int.reduceEq, Nat.reduceMul, Nat.reduceSub]; first | (refine br_intro (fun _ => ?_) fun _ => ?_) | skip)
    | (refine WP.exit ?_)
    | (refine WP.ret ?_; show retW _ _ _ _; simp only [go_sem, Nat.reduceAdd, Nat.reduceLT, Nat.reduceLeDiff, Nat.reduceEqDiff, reduceIte, reduceCtorEq, Nat.reduceBEq, Int.reduceLE, Int.reduceLT, Int.reduceToNat, Int.reduceNeg, Int.reduceEq, Nat.reduceMul, Nat.reduceSub]; refine sh_eq ?_; simp [*]))
theorem c10 (k n : Int) (l : List UInt8) : Con Try.prog 10 [.agg [.int .i64 k, .int .i64 n, .str l]] (undefs [.agg [.int .i64 k, .int .i64 n, .str l]]) (.agg [.int .i64 k, .int .i64 n, .str l]) := by
  refine Con.of 14 T_ok Try.func10 rfl rfl rfl rfl [.cell 2 26] rfl ?_
  simp only [go_sem, Nat.reduceAdd, Nat.reduceLT, Nat.reduceLeDiff, Nat.reduceEqDiff, reduceIte, reduceCtorEq, Nat.reduceBEq, Int.reduceLE, Int.reduceLT, Int.reduceToNat, Int.reduceNeg, Int.reduceEq, Nat.reduceMul, Nat.reduceSub]
  repeat' (first
    | (refine regW_op rfl fun K hK => ?_; simp only [go_sem, Nat.reduceAdd, Nat.reduceLT, Nat.reduceLeDiff, Nat.reduceEqDiff, reduceIte, reduceCtorEq, Nat.reduceBEq, Int.reduceLE, Int.reduceLT, Int.reduceToNat, Int.reduceNeg, Int.reduceEq, Nat.reduceMul, Nat.reduceSub]; first | (refine hK _ ?_; clear hK K) )
    | (refine regW_gd rfl fun K hK => ?_; simp only [go_sem, Nat.reduceAdd, Nat.reduceLT, Nat.reduceLeDiff, Nat.reduceEqDiff, reduceIte, reduceCtorEq, Nat.reduceBEq, Int.reduceLE, Int.reduceLT, Int.reduceToNat, Int.reduceNeg, Int.reduceEq, Nat.reduceMul, Nat.reduceSub]; first | (refine hK _ ?_; clear hK K)  | (refine br_intro (fun _ => ?_) fun _ => ?_ <;> (try simp only [go_sem, Nat.reduceAdd, Nat.reduceLT, Nat.reduceLeDiff, Nat.reduceEqDiff, reduceIte, reduceCtorEq, Nat.reduceBEq, Int.reduceLE, Int.reduceLT, Int.reduceToNat, Int.reduceNeg, Int.reduceEq, Nat.reduceMul, Nat.reduceSub]) <;> (refine hK _ ?_; clear hK K)))
    | (refine regW_nil ?_)
    | (refine WP.seq ?_)
    | (refine WP.reg T_ok ?_)
    | (refine WP.block ?_)
    | (refine WP.skip ?_)
    | (refine WP.cond ?_; simp only [go_sem, Nat.reduceAdd, Nat.reduceLT, Nat.reduceLeDiff, Nat.reduceEqDiff, reduceIte, reduceCtorEq, Nat.reduceBEq, Int.reduceLE, Int.reduceLT, Int.reduceToNat, Int.reduceNeg, Int.reduceEq, Nat.reduceMul, Nat.reduceSub]; first | (refine br_intro (fun _ => ?_) fun _ => ?_) | skip)
    | (refine WP.exit ?_)
    | (refine WP.ret ?_; show retW _ _ _ _; simp only [go_sem, Nat.reduceAdd, Nat.reduceLT, Nat.reduceLeDiff, Nat.reduceEqDiff, reduceIte, reduceCtorEq, Nat.reduceBEq, Int.reduceLE, Int.reduceLT, Int.reduceToNat, Int.reduceNeg, Int.reduceEq, Nat.reduceMul, Nat.reduceSub]; refine sh_eq ?_; rfl))
def specActOK (k n : Int) (l : List UInt8) : Bool :=
  if ((!(k == 6)) && (!(l == []))) || decide ((l.length : Int) > 400) then false
  else if k = 1 ∨ k = 2 then inR n 0 3
  else if k = 3 then inR n 1 4000
  else if k = 4 then inR n (-2147483648) 2147483647
  else if k = 5 then inR n 1 1000
  else k == 6 && n == 0
set_option maxHeartbeats 4000000 in
theorem c9 (k n : Int) (l : List UInt8) : Con Try.prog 9 [.agg [.int .i64 k, .int .i64 n, .str l]] (undefs [.agg [.int .i64 k, .int .i64 n, .str l]]) (.bool (specActOK k n l)) := by
  refine Con.of 48 T_ok Try.func9 rfl rfl rfl rfl [.tmp 2] rfl ?_
  simp only [go_sem, Nat.reduceAdd, Nat.reduceLT, Nat.reduceLeDiff, Nat.reduceEqDiff, reduceIte, reduceCtorEq, Nat.reduceBEq, Int.reduceLE, Int.reduceLT, Int.reduceToNat, Int.reduceNeg, Int.reduceEq, Nat.reduceMul, Nat.reduceSub]
  repeat' (first
    | (refine regW_op rfl fun K hK => ?_; simp only [go_sem, Nat.reduceAdd, Nat.reduceLT, Nat.reduceLeDiff, Nat.reduceEqDiff, reduceIte, reduceCtorEq, Nat.reduceBEq, Int.reduceLE, Int.reduceLT, Int.reduceToNat, Int.reduceNeg, Int.reduceEq, Nat.reduceMul, Nat.reduceSub]; first | (refine hK _ ?_; clear hK K) | (first | refine ⟨_, c38 .., ?_⟩ | refine ⟨_, c39 .., ?_⟩); simp only [go_sem, Nat.reduceAdd, Nat.reduceLT, Nat.reduceLeDiff, Nat.reduceEqDiff, reduceIte, reduceCtorEq, Nat.reduceBEq, Int.reduceLE, Int.reduceLT, Int.reduceToNat, Int.reduceNeg, Int.reduceEq, Nat.reduceMul, Nat.reduceSub]; refine hK _ ?_; clear hK K)
    | (refine regW_gd rfl fun K hK => ?_; simp only [go_sem, Nat.reduceAdd, Nat.reduceLT, Nat.reduceLeDiff, Nat.reduceEqDiff, reduceIte, reduceCtorEq, Nat.reduceBEq, Int.reduceLE, Int.reduceLT, Int.reduceToNat, Int.reduceNeg, Int.reduceEq, Nat.reduceMul, Nat.reduceSub]; first | (refine hK _ ?_; clear hK K) | (first | refine ⟨_, c38 .., ?_⟩ | refine ⟨_, c39 .., ?_⟩); simp only [go_sem, Nat.reduceAdd, Nat.reduceLT, Nat.reduceLeDiff, Nat.reduceEqDiff, reduceIte, reduceCtorEq, Nat.reduceBEq, Int.reduceLE, Int.reduceLT, Int.reduceToNat, Int.reduceNeg, Int.reduceEq, Nat.reduceMul, Nat.reduceSub]; refine hK _ ?_; clear hK K | (refine br_intro (fun _ => ?_) fun _ => ?_ <;> (try simp only [go_sem, Nat.reduceAdd, Nat.reduceLT, Nat.reduceLeDiff, Nat.reduceEqDiff, reduceIte, reduceCtorEq, Nat.reduceBEq, Int.reduceLE, Int.reduceLT, Int.reduceToNat, Int.reduceNeg, Int.reduceEq, Nat.reduceMul, Nat.reduceSub]) <;> (refine hK _ ?_; clear hK K)))
    | (refine regW_nil ?_)
    | (refine WP.seq ?_)
    | (refine WP.reg T_ok ?_)
    | (refine WP.block ?_)
    | (refine WP.skip ?_)
    | (refine WP.cond ?_; simp only [go_sem, Nat.reduceAdd, Nat.reduceLT, Nat.reduceLeDiff, Nat.reduceEqDiff, reduceIte, reduceCtorEq, Nat.reduceBEq, Int.reduceLE, Int.reduceLT, Int.reduceToNat, Int.reduceNeg, Int.reduceEq, Nat.reduceMul, Nat.reduceSub]; first | (refine br_intro (fun _ => ?_) fun _ => ?_) | skip)
    | (refine WP.exit ?_)
    | (refine WP.ret ?_; show retW _ _ _ _; simp only [go_sem, Nat.reduceAdd, Nat.reduceLT, Nat.reduceLeDiff, Nat.reduceEqDiff, reduceIte, reduceCtorEq, Nat.reduceBEq, Int.reduceLE, Int.reduceLT, Int.reduceToNat, Int.reduceNeg, Int.reduceEq, Nat.reduceMul, Nat.reduceSub]; refine sh_eq ?_; simp_all [specActOK]))
def implActOK (k n : Int) (l : List UInt8) : Bool :=
  if k = 1 ∨ k = 2 then inR n 0 3 && l == []
  else if k = 3 then inR n 1 4000 && l == []
  else if k = 4 then (wrapCell n == n) && l == []
  else if k = 5 then inR n 1 1000 && l == []
  else k == 6 && n == 0 && decide ((l.length : Int) ≤ 400)
set_option maxHeartbeats 4000000 in
theorem c11 (k n : Int) (l : List UInt8) : Con Try.prog 11 [.agg [.int .i64 k, .int .i64 n, .str l]] (undefs [.agg [.int .i64 k, .int .i64 n, .str l]]) (.bool (implActOK k n l)) := by
  refine Con.of 60 T_ok Try.func11 rfl rfl rfl rfl [.tmp 2] rfl ?_
  simp only [go_sem, Nat.reduceAdd, Nat.reduceLT, Nat.reduceLeDiff, Nat.reduceEqDiff, reduceIte, reduceCtorEq, Nat.reduceBEq, Int.reduceLE, Int.reduceLT, Int.reduceToNat, Int.reduceNeg, Int.reduceEq, Nat.reduceMul, Nat.reduceSub]
  repeat' (first
    | (refine regW_op rfl fun K hK => ?_; simp only [go_sem, Nat.reduceAdd, Nat.reduceLT, Nat.reduceLeDiff, Nat.reduceEqDiff, reduceIte, reduceCtorEq, Nat.reduceBEq, Int.reduceLE, Int.reduceLT, Int.reduceToNat, Int.reduceNeg, Int.reduceEq, Nat.reduceMul, Nat.reduceSub]; first | (refine hK _ ?_; clear hK K) | (first | refine ⟨_, c40 .., ?_⟩ | refine ⟨_, c41 .., ?_⟩ | refine ⟨_, c42 .., ?_⟩); simp only [go_sem, Nat.reduceAdd, Nat.reduceLT, Nat.reduceLeDiff, Nat.reduceEqDiff, reduceIte, reduceCtorEq, Nat.reduceBEq, Int.reduceLE, Int.reduceLT, Int.reduceToNat, Int.reduceNeg, Int.reduceEq, Nat.reduceMul, Nat.reduceSub]; refine hK _ ?_; clear hK K)
    | (refine regW_gd rfl fun K hK => ?_; simp only [go_sem, Nat.reduceAdd, Nat.reduceLT, Nat.reduceLeDiff, Nat.reduceEqDiff, reduceIte, reduceCtorEq, Nat.reduceBEq, Int.reduceLE, Int.reduceLT, Int.reduceToNat, Int.reduceNeg, Int.reduceEq, Nat.reduceMul, Nat.reduceSub]; first | (refine hK _ ?_; clear hK K) | (first | refine ⟨_, c40 .., ?_⟩ | refine ⟨_, c41 .., ?_⟩ | refine ⟨_, c42 .., ?_⟩); simp only [go_sem, Nat.reduceAdd, Nat.reduceLT, Nat.reduceLeDiff, Nat.reduceEqDiff, reduceIte, reduceCtorEq, Nat.reduceBEq, Int.reduceLE, Int.reduceLT, Int.reduceToNat, Int.reduceNeg, Int.reduceEq, Nat.reduceMul, Nat.reduceSub]; refine hK _ ?_; clear hK K | (refine br_intro (fun _ => ?_) fun _ => ?_ <;> (try simp only [go_sem, Nat.reduceAdd, Nat.reduceLT, Nat.reduceLeDiff, Nat.reduceEqDiff, reduceIte, reduceCtorEq, Nat.reduceBEq, Int.reduceLE, Int.reduceLT, Int.reduceToNat, Int.reduceNeg, Int.reduceEq, Nat.reduceMul, Nat.reduceSub]) <;> (refine hK _ ?_; clear hK K)))
    | (refine regW_nil ?_)
    | (refine WP.seq ?_)
    | (refine WP.reg T_ok ?_)
    | (refine WP.block ?_)
    | (refine WP.skip ?_)
    | (refine WP.cond ?_; simp only [go_sem, Nat.reduceAdd, Nat.reduceLT, Nat.reduceLeDiff, Nat.reduceEqDiff, reduceIte, reduceCtorEq, Nat.reduceBEq, Int.reduceLE, Int.reduceLT, Int.reduceToNat, Int.reduceNeg, Int.reduceEq, Nat.reduceMul, Nat.reduceSub]; first | (refine br_intro (fun _ => ?_) fun _ => ?_) | skip)
    | (refine WP.exit ?_)
    | (refine WP.ret ?_; show retW _ _ _ _; simp only [go_sem, Nat.reduceAdd, Nat.reduceLT, Nat.reduceLeDiff, Nat.reduceEqDiff, reduceIte, reduceCtorEq, Nat.reduceBEq, Int.reduceLE, Int.reduceLT, Int.reduceToNat, Int.reduceNeg, Int.reduceEq, Nat.reduceMul, Nat.reduceSub]; refine sh_eq ?_; first | (simp [implActOK, *]; done) | (simp_all [implActOK]; done)))
theorem wrapCell_eq (n : Int) : (wrapCell n == n) = inR n (-2147483648) 2147483647 := by
  have h1 : wrapCell n = IntKind.i32.wrap n := by
    unfold wrapCell
    apply IntWalk.i64_in
    rw [IntKind.wrap_i32]
    omega
  rw [h1, IntKind.wrap_i32]
  unfold inR
  rw [Bool.eq_iff_iff]
  simp only [beq_iff_eq, Bool.and_eq_true, decide_eq_true_eq]
  omega
theorem act_eq (k n : Int) (l : List UInt8) : implActOK k n l = specActOK k n l := by
  unfold implActOK specActOK
  rw [wrapCell_eq]
  by_cases h6 : k = 6
  · subst h6
    simp
    by_cases h : (l.length : Int) ≤ 400
    · simp [h, show ¬ (400 : Int) < l.length by omega]
    · simp [h, show (400 : Int) < l.length by omega]
  · have e6 : (k == 6) = false := by simpa using h6
    cases l with
    | nil => simp [e6]
    | cons c l => simp [e6]
set_option maxHeartbeats 4000000 in
theorem c3 (k n : Int) (l : List UInt8) : Con Try.prog 3 [.agg [.int .i64 k, .int .i64 n, .str l]] (undefs [.agg [.int .i64 k, .int .i64 n, .str l]]) (.bool true) := by
  refine Con.of 20 T_ok Try.func3 rfl rfl rfl rfl [.tmp 2] rfl ?_
  simp only [go_sem, Nat.reduceAdd, Nat.reduceLT, Nat.reduceLeDiff, Nat.reduceEqDiff, reduceIte, reduceCtorEq, Nat.reduceBEq, Int.reduceLE, Int.reduceLT, Int.reduceToNat, Int.reduceNeg, Int.reduceEq, Nat.reduceMul, Nat.reduceSub]
  repeat' (first
    | (refine regW_op rfl fun K hK => ?_; simp only [go_sem, Nat.reduceAdd, Nat.reduceLT, Nat.reduceLeDiff, Nat.reduceEqDiff, reduceIte, reduceCtorEq, Nat.reduceBEq, Int.reduceLE, Int.reduceLT, Int.reduceToNat, Int.reduceNeg, Int.reduceEq, Nat.reduceMul, Nat.reduceSub]; first | (refine hK _ ?_; clear hK K) | (first | refine ⟨_, c8 .., ?_⟩ | refine ⟨_, c9 .., ?_⟩ | refine ⟨_, c10 .., ?_⟩ | refine ⟨_, c11 .., ?_⟩); simp only [go_sem, Nat.reduceAdd, Nat.reduceLT, Nat.reduceLeDiff, Nat.reduceEqDiff, reduceIte, reduceCtorEq, Nat.reduceBEq, Int.reduceLE, Int.reduceLT, Int.reduceToNat, Int.reduceNeg, Int.reduceEq, Nat.reduceMul, Nat.reduceSub]; refine hK _ ?_; clear hK K)
    | (refine regW_gd rfl fun K hK => ?_; simp only [go_sem, Nat.reduceAdd, Nat.reduceLT, Nat.reduceLeDiff, Nat.reduceEqDiff, reduceIte, reduceCtorEq, Nat.reduceBEq, Int.reduceLE, Int.reduceLT, Int.reduceToNat, Int.reduceNeg, Int.reduceEq, Nat.reduceMul, Nat.reduceSub]; first | (refine hK _ ?_; clear hK K) | (first | refine ⟨_, c8 .., ?_⟩ | refine ⟨_, c9 .., ?_⟩ | refine ⟨_, c10 .., ?_⟩ | refine ⟨_, c11 .., ?_⟩); simp only [go_sem, Nat.reduceAdd, Nat.reduceLT, Nat.reduceLeDiff, Nat.reduceEqDiff, reduceIte, reduceCtorEq, Nat.reduceBEq, Int.reduceLE, Int.reduceLT, Int.reduceToNat, Int.reduceNeg, Int.reduceEq, Nat.reduceMul, Nat.reduceSub]; refine hK _ ?_; clear hK K | (refine br_intro (fun _ => ?_) fun _ => ?_ <;> (try simp only [go_sem, Nat.reduceAdd, Nat.reduceLT, Nat.reduceLeDiff, Nat.reduceEqDiff, reduceIte, reduceCtorEq, Nat.reduceBEq, Int.reduceLE, Int.reduceLT, Int.reduceToNat, Int.reduceNeg, Int.reduceEq, Nat.reduceMul, Nat.reduceSub]) <;> (refine hK _ ?_; clear hK K)))
    | (refine regW_nil ?_)
    | (refine WP.seq ?_)
    | (refine WP.reg T_ok ?_)
    | (refine WP.block ?_)
    | (refine WP.skip ?_)
    | (refine WP.cond ?_; simp only [go_sem, Nat.reduceAdd, Nat.reduceLT, Nat.reduceLeDiff, Nat.reduceEqDiff, reduceIte, reduceCtorEq, Nat.reduceBEq, Int.reduceLE, Int.reduceLT, Int.reduceToNat, Int.reduceNeg, Int.reduceEq, Nat.reduceMul, Nat.reduceSub]; first | (refine br_intro (fun _ => ?_) fun _ => ?_) | skip)
    | (refine WP.exit ?_)
    | (refine WP.ret ?_; show retW _ _ _ _; simp only [go_sem, Nat.reduceAdd, Nat.reduceLT, Nat.reduceLeDiff, Nat.reduceEqDiff, reduceIte, reduceCtorEq, Nat.reduceBEq, Int.reduceLE, Int.reduceLT, Int.reduceToNat, Int.reduceNeg, Int.reduceEq, Nat.reduceMul, Nat.reduceSub]; refine sh_eq ?_; first | rfl | (simp_all [act_eq]; done)))
end U1
