/-
  DERIVED. GIVEN WITH THE SEED: THE CARDS: each row of YtidkogijdlfjpaaGreatDoorRows.lean that lists a variable, with what it lists TIED to the program's text (the seventh form; the later family's looks); each row that meets fmt, with fmt's text TOLD by the authors' own Lean function (tested against real Go, not proved from fmt's source: count such statements apart). THE CARD IS WHAT COUNTS. Prove the row's statement (the work); the ties are given (YtidkogijdlfjpaaGreatDoorTie.lean); close each card by the builder's one call (the guide's Derived/Test/ToyasCard.lean, 'card_holds'). Laid BY PROGRAM, IN A SANDBOX (cutbox-door.mjs). By AI agents, Wed Nov 11 2026. No macro, syntax, notation, axiom, sorry.
-/
import Derived.Test.YtidkogijdlfjpaaGreatDoorRows
import GoSem.ClaimSeven
namespace Go.Proofs.YtidkogijdlfjpaaGreatDoor
namespace Rows

/-- THE TIED CARD OF 'laws.FnExactApplyPrim'. -/
def fnExactApplyPrimCard : Claim7 := { stood := { row := fnExactApplyPrimRow, standIns := [], harness := (true, "906d1e393f5158a7dc230c1ce1b67d1f33274a7a058bf2b176f0e1c9112ef19b"), looks := false }, kinds := [], alts := [], laidByText := true, laidKinds := [.data, .data, .data, .data, .pinned, .pinned], laidTests := true, laidLooks := .later }
def FnExactApplyPrimCardSaid : Prop := Claim7.holds Tryz.pinned (.plain (OpenSpec.ofChange fnExactApplyPrimSpec)) fnExactApplyPrimCard

/-- THE TIED CARD OF 'laws.FnExactApplyAll'. -/
def fnExactApplyAllCard : Claim7 := { stood := { row := fnExactApplyAllRow, standIns := [], harness := (true, "906d1e393f5158a7dc230c1ce1b67d1f33274a7a058bf2b176f0e1c9112ef19b"), looks := false }, kinds := [], alts := [], laidByText := true, laidKinds := [.data, .data, .data, .data, .pinned, .pinned], laidTests := true, laidLooks := .later }
def FnExactApplyAllCardSaid : Prop := Claim7.holds Tryz.pinned (.plain (OpenSpec.ofChange fnExactApplyAllSpec)) fnExactApplyAllCard

/-- THE TIED CARD OF 'laws.FnPrims'. -/
def fnPrimsCard : Claim7 := { stood := { row := fnPrimsRow, standIns := [], harness := (true, "906d1e393f5158a7dc230c1ce1b67d1f33274a7a058bf2b176f0e1c9112ef19b"), looks := false }, kinds := [], alts := [], laidByText := true, laidKinds := [.data, .data, .data, .data, .pinned, .pinned], laidTests := true, laidLooks := .later }
def FnPrimsCardSaid : Prop := Claim7.holds Tryz.pinned (.plain (OpenSpec.ofChange fnPrimsSpec)) fnPrimsCard

/-- THE TIED CARD OF 'laws.FnIdentities'. -/
def fnIdentitiesCard : Claim7 := { stood := { row := fnIdentitiesRow, standIns := [], harness := (true, "906d1e393f5158a7dc230c1ce1b67d1f33274a7a058bf2b176f0e1c9112ef19b"), looks := false }, kinds := [], alts := [], laidByText := true, laidKinds := [.data, .data, .data, .data, .pinned, .pinned], laidTests := true, laidLooks := .later }
def FnIdentitiesCardSaid : Prop := Claim7.holds Tryz.pinned (.plain (OpenSpec.ofChange fnIdentitiesSpec)) fnIdentitiesCard

/-- THE SECOND FORM's CARD OF 'laws.FnExactApplyPrim'. -/
def fnExactApplyPrimUptoCard : Claim7 := { stood := { row := fnExactApplyPrimUptoRow, standIns := [], harness := (true, "906d1e393f5158a7dc230c1ce1b67d1f33274a7a058bf2b176f0e1c9112ef19b"), looks := false }, kinds := [], alts := [], laidByText := true, laidKinds := [.data, .data, .data, .data, .pinned, .pinned], laidTests := true, laidLooks := .later }
def FnExactApplyPrimUptoCardSaid : Prop := Claim7.holds Tryz.pinned (.plain (OpenSpec.upto fnExactApplyPrimSpec)) fnExactApplyPrimUptoCard

/-- THE SECOND FORM's CARD OF 'laws.FnExactApplyAll'. -/
def fnExactApplyAllUptoCard : Claim7 := { stood := { row := fnExactApplyAllUptoRow, standIns := [], harness := (true, "906d1e393f5158a7dc230c1ce1b67d1f33274a7a058bf2b176f0e1c9112ef19b"), looks := false }, kinds := [], alts := [], laidByText := true, laidKinds := [.data, .data, .data, .data, .pinned, .pinned], laidTests := true, laidLooks := .later }
def FnExactApplyAllUptoCardSaid : Prop := Claim7.holds Tryz.pinned (.plain (OpenSpec.upto fnExactApplyAllSpec)) fnExactApplyAllUptoCard

/-- THE SECOND FORM's CARD OF 'laws.FnPrims'. -/
def fnPrimsUptoCard : Claim7 := { stood := { row := fnPrimsUptoRow, standIns := [], harness := (true, "906d1e393f5158a7dc230c1ce1b67d1f33274a7a058bf2b176f0e1c9112ef19b"), looks := false }, kinds := [], alts := [], laidByText := true, laidKinds := [.data, .data, .data, .data, .pinned, .pinned], laidTests := true, laidLooks := .later }
def FnPrimsUptoCardSaid : Prop := Claim7.holds Tryz.pinned (.plain (OpenSpec.upto fnPrimsSpec)) fnPrimsUptoCard

/-- THE SECOND FORM's CARD OF 'laws.FnIdentities'. -/
def fnIdentitiesUptoCard : Claim7 := { stood := { row := fnIdentitiesUptoRow, standIns := [], harness := (true, "906d1e393f5158a7dc230c1ce1b67d1f33274a7a058bf2b176f0e1c9112ef19b"), looks := false }, kinds := [], alts := [], laidByText := true, laidKinds := [.data, .data, .data, .data, .pinned, .pinned], laidTests := true, laidLooks := .later }
def FnIdentitiesUptoCardSaid : Prop := Claim7.holds Tryz.pinned (.plain (OpenSpec.upto fnIdentitiesSpec)) fnIdentitiesUptoCard
end Rows
end Go.Proofs.YtidkogijdlfjpaaGreatDoor
