/-
  No cell of these rows narrows 'for every input' (looked for: loops, veiled, ifaces, maps, wideKeys, modest, calm, conditions, laid).
  DERIVED. THE GIVEN ROWS OF THIS SEAT. 5 by the template 'for every input the law returns true; each argument reads behind the call as it read before'; 0 by the template 'total and deterministic' (their statements: YtbngkaiocdpliaaTotals.lean).
  GIVEN WITH THE SEED: the statements are not yours to turn. If you find one false, say at which input.
  Laid BY PROGRAM, IN A SANDBOX (cutbox-rows.mjs): the forced cells as the released guide's own fill.sh prints them over the translation 3f3481876671933c… (all of the seat's roots in one cut). By AI agents, Wed Nov 11 2026. No macro, syntax, notation, axiom, sorry.
-/
import Derived.Test.YtbngkaiocdpliaaChecked
import GoSem.Claim
import GoSem.ClaimJoined
import GoSem.ClaimMapViews
import Derived.JoinedTies
import Derived.KernelRfl
namespace Go.Proofs.Ytbngkaiocdpliaa
/- THE CELL 'sum', in the pinned program and in every row, IS THE sha256 OF THE DUMP (.gsa) THAT YtbngkaiocdpliaaProg.lean LOADS. Nothing in Lean hashes anything: it is a label: what it is worth is what the hold of that sum in a sandbox is worth. -/
noncomputable def Try.pinned : Pinned := { name := "ytbngkaiocdpliaa", sum := "3f3481876671933c6e77e0f8ebe7c65280b076e7d70dbdf3499f9ec5ff3d8e12", checked := Try.checked }
namespace Rows
def none {H : Type} : Left H := { results := [], args := [] }

/-- 'laws.FnExactActOK': WHATEVER THE INPUT: true; the input reads as it did. -/
def fnExactActOKSpec : ChangeSpec := { name := "fnExactActOK", fn := fun _ => fun
  | [d] => { results := [.lit (.bool true)], args := [d] }
  | _ => none }
def fnExactActOKRow : OpenClaim := { program := "ytbngkaiocdpliaa", sum := "3f3481876671933c6e77e0f8ebe7c65280b076e7d70dbdf3499f9ec5ff3d8e12", func := "loop.example/g00787/laws.FnExactActOK", spec := "fnExactActOK", apart := false }
def FnExactActOKSaid : Prop := fnExactActOKRow.holds Try.pinned (OpenSpec.ofChange fnExactActOKSpec)

/-- ITS FALSE NEIGHBOUR: 'it returns false'. Refute it at one input. -/
def fnExactActOKWrong : ChangeSpec := { name := "fnExactActOK", fn := fun _ => fun
  | [d] => { results := [.lit (.bool false)], args := [d] }
  | _ => none }
def FnExactActOKWrongFalsely : Prop := fnExactActOKRow.holds Try.pinned (OpenSpec.ofChange fnExactActOKWrong)

/-- 'laws.FnExactSameReport': WHATEVER THE INPUT: true; the input reads as it did. -/
def fnExactSameReportSpec : ChangeSpec := { name := "fnExactSameReport", fn := fun _ => fun
  | [d1, d2] => { results := [.lit (.bool true)], args := [d1, d2] }
  | _ => none }
def fnExactSameReportRow : OpenClaim := { program := "ytbngkaiocdpliaa", sum := "3f3481876671933c6e77e0f8ebe7c65280b076e7d70dbdf3499f9ec5ff3d8e12", func := "loop.example/g00787/laws.FnExactSameReport", spec := "fnExactSameReport", apart := false }
def FnExactSameReportSaid : Prop := fnExactSameReportRow.holds Try.pinned (OpenSpec.ofChange fnExactSameReportSpec)

/-- ITS FALSE NEIGHBOUR: 'it returns false'. Refute it at one input. -/
def fnExactSameReportWrong : ChangeSpec := { name := "fnExactSameReport", fn := fun _ => fun
  | [d1, d2] => { results := [.lit (.bool false)], args := [d1, d2] }
  | _ => none }
def FnExactSameReportWrongFalsely : Prop := fnExactSameReportRow.holds Try.pinned (OpenSpec.ofChange fnExactSameReportWrong)

/-- 'laws.FnExactFuelUsed': WHATEVER THE INPUT: true; the input reads as it did. -/
def fnExactFuelUsedSpec : ChangeSpec := { name := "fnExactFuelUsed", fn := fun _ => fun
  | [d] => { results := [.lit (.bool true)], args := [d] }
  | _ => none }
def fnExactFuelUsedRow : OpenClaim := { program := "ytbngkaiocdpliaa", sum := "3f3481876671933c6e77e0f8ebe7c65280b076e7d70dbdf3499f9ec5ff3d8e12", func := "loop.example/g00787/laws.FnExactFuelUsed", spec := "fnExactFuelUsed", unfollowed := true, recurses := true, apart := false }
def FnExactFuelUsedSaid : Prop := fnExactFuelUsedRow.holds Try.pinned (OpenSpec.ofChange fnExactFuelUsedSpec)

/-- ITS FALSE NEIGHBOUR: 'it returns false'. Refute it at one input. -/
def fnExactFuelUsedWrong : ChangeSpec := { name := "fnExactFuelUsed", fn := fun _ => fun
  | [d] => { results := [.lit (.bool false)], args := [d] }
  | _ => none }
def FnExactFuelUsedWrongFalsely : Prop := fnExactFuelUsedRow.holds Try.pinned (OpenSpec.ofChange fnExactFuelUsedWrong)

/-- 'laws.FnExactGrantsAt': WHATEVER THE INPUT: true; the input reads as it did. -/
def fnExactGrantsAtSpec : ChangeSpec := { name := "fnExactGrantsAt", fn := fun _ => fun
  | [d1, d2] => { results := [.lit (.bool true)], args := [d1, d2] }
  | _ => none }
def fnExactGrantsAtRow : OpenClaim := { program := "ytbngkaiocdpliaa", sum := "3f3481876671933c6e77e0f8ebe7c65280b076e7d70dbdf3499f9ec5ff3d8e12", func := "loop.example/g00787/laws.FnExactGrantsAt", spec := "fnExactGrantsAt", unfollowed := true, recurses := true, apart := false }
def FnExactGrantsAtSaid : Prop := fnExactGrantsAtRow.holds Try.pinned (OpenSpec.ofChange fnExactGrantsAtSpec)

/-- ITS FALSE NEIGHBOUR: 'it returns false'. Refute it at one input. -/
def fnExactGrantsAtWrong : ChangeSpec := { name := "fnExactGrantsAt", fn := fun _ => fun
  | [d1, d2] => { results := [.lit (.bool false)], args := [d1, d2] }
  | _ => none }
def FnExactGrantsAtWrongFalsely : Prop := fnExactGrantsAtRow.holds Try.pinned (OpenSpec.ofChange fnExactGrantsAtWrong)

/-- 'laws.FnExactAnswerHost': WHATEVER THE INPUT: true; the input reads as it did. -/
def fnExactAnswerHostSpec : ChangeSpec := { name := "fnExactAnswerHost", fn := fun _ => fun
  | [d1, d2] => { results := [.lit (.bool true)], args := [d1, d2] }
  | _ => none }
def fnExactAnswerHostRow : OpenClaim := { program := "ytbngkaiocdpliaa", sum := "3f3481876671933c6e77e0f8ebe7c65280b076e7d70dbdf3499f9ec5ff3d8e12", func := "loop.example/g00787/laws.FnExactAnswerHost", spec := "fnExactAnswerHost", unfollowed := true, recurses := true, apart := false }
def FnExactAnswerHostSaid : Prop := fnExactAnswerHostRow.holds Try.pinned (OpenSpec.ofChange fnExactAnswerHostSpec)

/-- ITS FALSE NEIGHBOUR: 'it returns false'. Refute it at one input. -/
def fnExactAnswerHostWrong : ChangeSpec := { name := "fnExactAnswerHost", fn := fun _ => fun
  | [d1, d2] => { results := [.lit (.bool false)], args := [d1, d2] }
  | _ => none }
def FnExactAnswerHostWrongFalsely : Prop := fnExactAnswerHostRow.holds Try.pinned (OpenSpec.ofChange fnExactAnswerHostWrong)

/- THE SECOND FORM. 'bulk': how many values and letters a reading holds, each counted each time it is reached (what is shared counts as often as it is met; a slice's spare places count too). A statement '..UptoSaid' is the law's where the arguments, and the package variables that the reading takes, are together of bulk at most 1048576: NARROWER than '..Said'. Prove '..Said' where nothing that the law and all that it calls make is longer than what came in: it says more and counts as full. Else prove '..UptoSaid'. A law counts once. -/
mutual
def uptoBulk {H : Type} : DataW H → Nat
  | .lit (.string bytes) => bytes.length + 1
  | .lit _ => 1
  | .nil => 1
  | .ptr d => uptoBulk d + 1
  | .slice elems spare => uptoBulkAll elems + uptoBulkAll spare + 1
  | .agg parts => uptoBulkAll parts + 1
  | .iface _ d => uptoBulk d + 1
  | .map entries => uptoBulkEntries entries + 1
  | .held _ => 1
def uptoBulkAll {H : Type} : List (DataW H) → Nat
  | [] => 0
  | d :: r => uptoBulk d + uptoBulkAll r
def uptoBulkEntries {H : Type} : List (Lit × DataW H) → Nat
  | [] => 0
  | x :: r => uptoBulkEntry x + uptoBulkEntries r
def uptoBulkEntry {H : Type} : Lit × DataW H → Nat
  | (.string bytes, d) => bytes.length + uptoBulk d + 1
  | (_, d) => uptoBulk d + 1
 end
def uptoSmall : (H : Type) → List (DataW H) → Bool := fun _ ds => decide (uptoBulkAll ds ≤ 1048576)
def OpenSpec.upto (s : _root_.Go.ChangeSpec) : _root_.Go.OpenSpec := { _root_.Go.OpenSpec.ofChange s with cond := some uptoSmall }

/-- 'laws.FnExactActOK', WHERE WHAT IT READS IS OF BULK AT MOST 1048576: true; the input reads as it did. -/
def fnExactActOKUptoRow : OpenClaim := { program := "ytbngkaiocdpliaa", sum := "3f3481876671933c6e77e0f8ebe7c65280b076e7d70dbdf3499f9ec5ff3d8e12", func := "loop.example/g00787/laws.FnExactActOK", spec := "fnExactActOK", apart := false, narrowed := true }
def FnExactActOKUptoSaid : Prop := fnExactActOKUptoRow.holds Try.pinned (OpenSpec.upto fnExactActOKSpec)

/-- 'laws.FnExactSameReport', WHERE WHAT IT READS IS OF BULK AT MOST 1048576: true; the input reads as it did. -/
def fnExactSameReportUptoRow : OpenClaim := { program := "ytbngkaiocdpliaa", sum := "3f3481876671933c6e77e0f8ebe7c65280b076e7d70dbdf3499f9ec5ff3d8e12", func := "loop.example/g00787/laws.FnExactSameReport", spec := "fnExactSameReport", apart := false, narrowed := true }
def FnExactSameReportUptoSaid : Prop := fnExactSameReportUptoRow.holds Try.pinned (OpenSpec.upto fnExactSameReportSpec)

/-- 'laws.FnExactFuelUsed', WHERE WHAT IT READS IS OF BULK AT MOST 1048576: true; the input reads as it did. -/
def fnExactFuelUsedUptoRow : OpenClaim := { program := "ytbngkaiocdpliaa", sum := "3f3481876671933c6e77e0f8ebe7c65280b076e7d70dbdf3499f9ec5ff3d8e12", func := "loop.example/g00787/laws.FnExactFuelUsed", spec := "fnExactFuelUsed", unfollowed := true, recurses := true, apart := false, narrowed := true }
def FnExactFuelUsedUptoSaid : Prop := fnExactFuelUsedUptoRow.holds Try.pinned (OpenSpec.upto fnExactFuelUsedSpec)

/-- 'laws.FnExactGrantsAt', WHERE WHAT IT READS IS OF BULK AT MOST 1048576: true; the input reads as it did. -/
def fnExactGrantsAtUptoRow : OpenClaim := { program := "ytbngkaiocdpliaa", sum := "3f3481876671933c6e77e0f8ebe7c65280b076e7d70dbdf3499f9ec5ff3d8e12", func := "loop.example/g00787/laws.FnExactGrantsAt", spec := "fnExactGrantsAt", unfollowed := true, recurses := true, apart := false, narrowed := true }
def FnExactGrantsAtUptoSaid : Prop := fnExactGrantsAtUptoRow.holds Try.pinned (OpenSpec.upto fnExactGrantsAtSpec)

/-- 'laws.FnExactAnswerHost', WHERE WHAT IT READS IS OF BULK AT MOST 1048576: true; the input reads as it did. -/
def fnExactAnswerHostUptoRow : OpenClaim := { program := "ytbngkaiocdpliaa", sum := "3f3481876671933c6e77e0f8ebe7c65280b076e7d70dbdf3499f9ec5ff3d8e12", func := "loop.example/g00787/laws.FnExactAnswerHost", spec := "fnExactAnswerHost", unfollowed := true, recurses := true, apart := false, narrowed := true }
def FnExactAnswerHostUptoSaid : Prop := fnExactAnswerHostUptoRow.holds Try.pinned (OpenSpec.upto fnExactAnswerHostSpec)

end Rows
end Go.Proofs.Ytbngkaiocdpliaa
