/-
  DERIVED. GIVEN WITH THE SEED: THE CARDS: each row of YtkmadcdphnhciaaGreatDoorRows.lean that lists a variable, with what it lists TIED to the program's text (the seventh form; the later family's looks); each row that meets fmt, with fmt's text TOLD by the authors' own Lean function (tested against real Go, not proved from fmt's source: count such statements apart). THE CARD IS WHAT COUNTS. Prove the row's statement (the work); the ties are given (YtkmadcdphnhciaaGreatDoorTie.lean); close each card by the builder's one call (the guide's Derived/Test/ToyasCard.lean, 'card_holds'). Laid BY PROGRAM, IN A SANDBOX (cutbox-door.mjs). By AI agents, Wed Nov 11 2026. No macro, syntax, notation, axiom, sorry.
-/
import Derived.Test.YtkmadcdphnhciaaGreatDoorRows
import GoSem.ClaimSeven
namespace Go.Proofs.YtkmadcdphnhciaaGreatDoor
namespace Rows

/-- THE TIED CARD OF 'laws.FnExactDefsOK'. -/
def fnExactDefsOKCard : Claim7 := { stood := { row := fnExactDefsOKRow, standIns := [], harness := (true, "94beeb9677ee3b3b67c44bb1e1e2cbaf125d0f01c03c31e0bc5a67f695f2047a"), looks := false }, kinds := [], alts := [], laidByText := true, laidKinds := [.data, .listed, .data, .pinned], laidTests := true, laidLooks := .later }
def FnExactDefsOKCardSaid : Prop := Claim7.holds Tryz.pinned (.plain (OpenSpec.ofChange fnExactDefsOKSpec)) fnExactDefsOKCard

/-- THE TIED CARD OF 'laws.FnExactForthOK'. -/
def fnExactForthOKCard : Claim7 := { stood := { row := fnExactForthOKRow, standIns := [], harness := (true, "94beeb9677ee3b3b67c44bb1e1e2cbaf125d0f01c03c31e0bc5a67f695f2047a"), looks := false }, kinds := [], alts := [], laidByText := true, laidKinds := [.data, .listed, .data, .pinned], laidTests := true, laidLooks := .later }
def FnExactForthOKCardSaid : Prop := Claim7.holds Tryz.pinned (.plain (OpenSpec.ofChange fnExactForthOKSpec)) fnExactForthOKCard

/-- THE TIED CARD OF 'laws.FnExactSameForth'. -/
def fnExactSameForthCard : Claim7 := { stood := { row := fnExactSameForthRow, standIns := [], harness := (true, "94beeb9677ee3b3b67c44bb1e1e2cbaf125d0f01c03c31e0bc5a67f695f2047a"), looks := false }, kinds := [], alts := [], laidByText := true, laidKinds := [.data, .listed, .data, .pinned], laidTests := true, laidLooks := .later }
def FnExactSameForthCardSaid : Prop := Claim7.holds Tryz.pinned (.plain (OpenSpec.ofChange fnExactSameForthSpec)) fnExactSameForthCard

/-- THE TIED CARD OF 'laws.FnExactWordLine'. -/
def fnExactWordLineCard : Claim7 := { stood := { row := fnExactWordLineRow, standIns := [], harness := (true, "94beeb9677ee3b3b67c44bb1e1e2cbaf125d0f01c03c31e0bc5a67f695f2047a"), looks := false }, kinds := [], alts := [], laidByText := true, laidKinds := [.data, .data, .data, .data, .listed, .data, .pinned], laidTests := true, laidLooks := .later }
def FnExactWordLineCardSaid : Prop := Claim7.holds Tryz.pinned (.plain (OpenSpec.ofChange fnExactWordLineSpec)) fnExactWordLineCard

/-- THE TIED CARD OF 'laws.FnExactPublicOf'. -/
def fnExactPublicOfCard : Claim7 := { stood := { row := fnExactPublicOfRow, standIns := [], harness := (true, "94beeb9677ee3b3b67c44bb1e1e2cbaf125d0f01c03c31e0bc5a67f695f2047a"), looks := false }, kinds := [], alts := [], laidByText := true, laidKinds := [.data, .listed, .data, .pinned], laidTests := true, laidLooks := .later }
def FnExactPublicOfCardSaid : Prop := Claim7.holds Tryz.pinned (.plain (OpenSpec.ofChange fnExactPublicOfSpec)) fnExactPublicOfCard

/-- THE TIED CARD OF 'laws.FnExactWordLines'. -/
def fnExactWordLinesCard : Claim7 := { stood := { row := fnExactWordLinesRow, standIns := [], harness := (true, "94beeb9677ee3b3b67c44bb1e1e2cbaf125d0f01c03c31e0bc5a67f695f2047a"), looks := false }, kinds := [], alts := [], laidByText := true, laidKinds := [.data, .data, .data, .data, .listed, .data, .pinned], laidTests := true, laidLooks := .later }
def FnExactWordLinesCardSaid : Prop := Claim7.holds Tryz.pinned (.plain (OpenSpec.ofChange fnExactWordLinesSpec)) fnExactWordLinesCard

/-- THE TIED CARD OF 'laws.FnExactUsedCaps'. -/
def fnExactUsedCapsCard : Claim7 := { stood := { row := fnExactUsedCapsRow, standIns := [], harness := (true, "94beeb9677ee3b3b67c44bb1e1e2cbaf125d0f01c03c31e0bc5a67f695f2047a"), looks := false }, kinds := [], alts := [], laidByText := true, laidKinds := [.data, .listed, .data, .pinned], laidTests := true, laidLooks := .later }
def FnExactUsedCapsCardSaid : Prop := Claim7.holds Tryz.pinned (.plain (OpenSpec.ofChange fnExactUsedCapsSpec)) fnExactUsedCapsCard

/-- THE SECOND FORM's CARD OF 'laws.FnExactDefsOK'. -/
def fnExactDefsOKUptoCard : Claim7 := { stood := { row := fnExactDefsOKUptoRow, standIns := [], harness := (true, "94beeb9677ee3b3b67c44bb1e1e2cbaf125d0f01c03c31e0bc5a67f695f2047a"), looks := false }, kinds := [], alts := [], laidByText := true, laidKinds := [.data, .listed, .data, .pinned], laidTests := true, laidLooks := .later }
def FnExactDefsOKUptoCardSaid : Prop := Claim7.holds Tryz.pinned (.plain (OpenSpec.upto fnExactDefsOKSpec)) fnExactDefsOKUptoCard

/-- THE SECOND FORM's CARD OF 'laws.FnExactForthOK'. -/
def fnExactForthOKUptoCard : Claim7 := { stood := { row := fnExactForthOKUptoRow, standIns := [], harness := (true, "94beeb9677ee3b3b67c44bb1e1e2cbaf125d0f01c03c31e0bc5a67f695f2047a"), looks := false }, kinds := [], alts := [], laidByText := true, laidKinds := [.data, .listed, .data, .pinned], laidTests := true, laidLooks := .later }
def FnExactForthOKUptoCardSaid : Prop := Claim7.holds Tryz.pinned (.plain (OpenSpec.upto fnExactForthOKSpec)) fnExactForthOKUptoCard

/-- THE SECOND FORM's CARD OF 'laws.FnExactSameForth'. -/
def fnExactSameForthUptoCard : Claim7 := { stood := { row := fnExactSameForthUptoRow, standIns := [], harness := (true, "94beeb9677ee3b3b67c44bb1e1e2cbaf125d0f01c03c31e0bc5a67f695f2047a"), looks := false }, kinds := [], alts := [], laidByText := true, laidKinds := [.data, .listed, .data, .pinned], laidTests := true, laidLooks := .later }
def FnExactSameForthUptoCardSaid : Prop := Claim7.holds Tryz.pinned (.plain (OpenSpec.upto fnExactSameForthSpec)) fnExactSameForthUptoCard

/-- THE SECOND FORM's CARD OF 'laws.FnExactWordLine'. -/
def fnExactWordLineUptoCard : Claim7 := { stood := { row := fnExactWordLineUptoRow, standIns := [], harness := (true, "94beeb9677ee3b3b67c44bb1e1e2cbaf125d0f01c03c31e0bc5a67f695f2047a"), looks := false }, kinds := [], alts := [], laidByText := true, laidKinds := [.data, .data, .data, .data, .listed, .data, .pinned], laidTests := true, laidLooks := .later }
def FnExactWordLineUptoCardSaid : Prop := Claim7.holds Tryz.pinned (.plain (OpenSpec.upto fnExactWordLineSpec)) fnExactWordLineUptoCard

/-- THE SECOND FORM's CARD OF 'laws.FnExactPublicOf'. -/
def fnExactPublicOfUptoCard : Claim7 := { stood := { row := fnExactPublicOfUptoRow, standIns := [], harness := (true, "94beeb9677ee3b3b67c44bb1e1e2cbaf125d0f01c03c31e0bc5a67f695f2047a"), looks := false }, kinds := [], alts := [], laidByText := true, laidKinds := [.data, .listed, .data, .pinned], laidTests := true, laidLooks := .later }
def FnExactPublicOfUptoCardSaid : Prop := Claim7.holds Tryz.pinned (.plain (OpenSpec.upto fnExactPublicOfSpec)) fnExactPublicOfUptoCard

/-- THE SECOND FORM's CARD OF 'laws.FnExactWordLines'. -/
def fnExactWordLinesUptoCard : Claim7 := { stood := { row := fnExactWordLinesUptoRow, standIns := [], harness := (true, "94beeb9677ee3b3b67c44bb1e1e2cbaf125d0f01c03c31e0bc5a67f695f2047a"), looks := false }, kinds := [], alts := [], laidByText := true, laidKinds := [.data, .data, .data, .data, .listed, .data, .pinned], laidTests := true, laidLooks := .later }
def FnExactWordLinesUptoCardSaid : Prop := Claim7.holds Tryz.pinned (.plain (OpenSpec.upto fnExactWordLinesSpec)) fnExactWordLinesUptoCard

/-- THE SECOND FORM's CARD OF 'laws.FnExactUsedCaps'. -/
def fnExactUsedCapsUptoCard : Claim7 := { stood := { row := fnExactUsedCapsUptoRow, standIns := [], harness := (true, "94beeb9677ee3b3b67c44bb1e1e2cbaf125d0f01c03c31e0bc5a67f695f2047a"), looks := false }, kinds := [], alts := [], laidByText := true, laidKinds := [.data, .listed, .data, .pinned], laidTests := true, laidLooks := .later }
def FnExactUsedCapsUptoCardSaid : Prop := Claim7.holds Tryz.pinned (.plain (OpenSpec.upto fnExactUsedCapsSpec)) fnExactUsedCapsUptoCard
end Rows
end Go.Proofs.YtkmadcdphnhciaaGreatDoor
