/-
  DERIVED. GIVEN WITH THE SEED: THE CARDS: each row of YtdbjklhadnnbdaaDoorRows.lean that lists a variable, with what it lists TIED to the program's text (the seventh form; the later family's looks); each row that meets fmt, with fmt's text TOLD by the authors' own Lean function (tested against real Go, not proved from fmt's source: count such statements apart). THE CARD IS WHAT COUNTS. Prove the row's statement (the work); the ties are given (YtdbjklhadnnbdaaDoorTie.lean); close each card by the builder's one call (the guide's Derived/Test/ToyasCard.lean, 'card_holds'). Laid BY PROGRAM, IN A SANDBOX (cutbox-door.mjs). By AI agents, Wed Nov 11 2026. No macro, syntax, notation, axiom, sorry.
-/
import Derived.Test.YtdbjklhadnnbdaaDoorRows
import GoSem.ClaimSeven
namespace Go.Proofs.YtdbjklhadnnbdaaDoor
namespace Rows

/-- THE TIED CARD OF 'laws.FnExactReportText'. -/
def fnExactReportTextCard : Claim7 := { stood := { row := fnExactReportTextRow, standIns := [], harness := (true, "7121e581b6220beb3c718ca565e1c8f610d09025ca9fa5c89fbee4f0583089c9"), looks := true }, kinds := [], alts := [], laidByText := true, laidKinds := [.data, .data, .data], laidTests := true, laidLooks := .later }
def FnExactReportTextCardSaid : Prop := Claim7.holds Tryd.pinned (.plain (OpenSpec.ofChange fnExactReportTextSpec)) fnExactReportTextCard

/-- THE TIED CARD OF 'laws.FnExactHostLines'. -/
def fnExactHostLinesCard : Claim7 := { stood := { row := fnExactHostLinesRow, standIns := [], harness := (true, "7121e581b6220beb3c718ca565e1c8f610d09025ca9fa5c89fbee4f0583089c9"), looks := true }, kinds := [], alts := [], laidByText := true, laidKinds := [.data, .data, .data], laidTests := true, laidLooks := .later }
def FnExactHostLinesCardSaid : Prop := Claim7.holds Tryd.pinned (.plain (OpenSpec.ofChange fnExactHostLinesSpec)) fnExactHostLinesCard

/-- THE TIED CARD OF 'laws.FnExactItemText'. -/
def fnExactItemTextCard : Claim7 := { stood := { row := fnExactItemTextRow, standIns := [], harness := (true, "7121e581b6220beb3c718ca565e1c8f610d09025ca9fa5c89fbee4f0583089c9"), looks := true }, kinds := [], alts := [], laidByText := true, laidKinds := [.data, .data, .data, .data, .listed, .data, .pinned], laidTests := true, laidLooks := .later }
def FnExactItemTextCardSaid : Prop := Claim7.holds Tryd.pinned (.plain (OpenSpec.ofChange fnExactItemTextSpec)) fnExactItemTextCard

/-- THE TIED CARD OF 'laws.FnExactReadAct'. -/
def fnExactReadActCard : Claim7 := { stood := { row := fnExactReadActRow, standIns := [], harness := (true, "7121e581b6220beb3c718ca565e1c8f610d09025ca9fa5c89fbee4f0583089c9"), looks := true }, kinds := [], alts := [], laidByText := true, laidKinds := [.data, .data, .data, .data, .sentinel, .sentinel, .pinned], laidTests := true, laidLooks := .later }
def FnExactReadActCardSaid : Prop := Claim7.holds Tryd.pinned (.plain (OpenSpec.ofChange fnExactReadActSpec)) fnExactReadActCard

/-- THE TIED CARD OF 'laws.FnExactNewForth'. -/
def fnExactNewForthCard : Claim7 := { stood := { row := fnExactNewForthRow, standIns := [], harness := (true, "7121e581b6220beb3c718ca565e1c8f610d09025ca9fa5c89fbee4f0583089c9"), looks := true }, kinds := [], alts := [], laidByText := true, laidKinds := [.data, .listed, .data, .pinned], laidTests := true, laidLooks := .later }
def FnExactNewForthCardSaid : Prop := Claim7.holds Tryd.pinned (.plain (OpenSpec.ofChange fnExactNewForthSpec)) fnExactNewForthCard

/-- THE TIED CARD OF 'laws.FnActTexts'. -/
def fnActTextsCard : Claim7 := { stood := { row := fnActTextsRow, standIns := [], harness := (true, "7121e581b6220beb3c718ca565e1c8f610d09025ca9fa5c89fbee4f0583089c9"), looks := true }, kinds := [], alts := [], laidByText := true, laidKinds := [.data, .data, .data, .data, .sentinel, .sentinel, .pinned], laidTests := true, laidLooks := .later }
def FnActTextsCardSaid : Prop := Claim7.holds Tryd.pinned (.plain (OpenSpec.ofChange fnActTextsSpec)) fnActTextsCard

/-- THE SECOND FORM's CARD OF 'laws.FnExactReportText'. -/
def fnExactReportTextUptoCard : Claim7 := { stood := { row := fnExactReportTextUptoRow, standIns := [], harness := (true, "7121e581b6220beb3c718ca565e1c8f610d09025ca9fa5c89fbee4f0583089c9"), looks := true }, kinds := [], alts := [], laidByText := true, laidKinds := [.data, .data, .data], laidTests := true, laidLooks := .later }
def FnExactReportTextUptoCardSaid : Prop := Claim7.holds Tryd.pinned (.plain (OpenSpec.upto fnExactReportTextSpec)) fnExactReportTextUptoCard

/-- THE SECOND FORM's CARD OF 'laws.FnExactHostLines'. -/
def fnExactHostLinesUptoCard : Claim7 := { stood := { row := fnExactHostLinesUptoRow, standIns := [], harness := (true, "7121e581b6220beb3c718ca565e1c8f610d09025ca9fa5c89fbee4f0583089c9"), looks := true }, kinds := [], alts := [], laidByText := true, laidKinds := [.data, .data, .data], laidTests := true, laidLooks := .later }
def FnExactHostLinesUptoCardSaid : Prop := Claim7.holds Tryd.pinned (.plain (OpenSpec.upto fnExactHostLinesSpec)) fnExactHostLinesUptoCard

/-- THE SECOND FORM's CARD OF 'laws.FnExactItemText'. -/
def fnExactItemTextUptoCard : Claim7 := { stood := { row := fnExactItemTextUptoRow, standIns := [], harness := (true, "7121e581b6220beb3c718ca565e1c8f610d09025ca9fa5c89fbee4f0583089c9"), looks := true }, kinds := [], alts := [], laidByText := true, laidKinds := [.data, .data, .data, .data, .listed, .data, .pinned], laidTests := true, laidLooks := .later }
def FnExactItemTextUptoCardSaid : Prop := Claim7.holds Tryd.pinned (.plain (OpenSpec.upto fnExactItemTextSpec)) fnExactItemTextUptoCard

/-- THE SECOND FORM's CARD OF 'laws.FnExactReadAct'. -/
def fnExactReadActUptoCard : Claim7 := { stood := { row := fnExactReadActUptoRow, standIns := [], harness := (true, "7121e581b6220beb3c718ca565e1c8f610d09025ca9fa5c89fbee4f0583089c9"), looks := true }, kinds := [], alts := [], laidByText := true, laidKinds := [.data, .data, .data, .data, .sentinel, .sentinel, .pinned], laidTests := true, laidLooks := .later }
def FnExactReadActUptoCardSaid : Prop := Claim7.holds Tryd.pinned (.plain (OpenSpec.upto fnExactReadActSpec)) fnExactReadActUptoCard

/-- THE SECOND FORM's CARD OF 'laws.FnExactNewForth'. -/
def fnExactNewForthUptoCard : Claim7 := { stood := { row := fnExactNewForthUptoRow, standIns := [], harness := (true, "7121e581b6220beb3c718ca565e1c8f610d09025ca9fa5c89fbee4f0583089c9"), looks := true }, kinds := [], alts := [], laidByText := true, laidKinds := [.data, .listed, .data, .pinned], laidTests := true, laidLooks := .later }
def FnExactNewForthUptoCardSaid : Prop := Claim7.holds Tryd.pinned (.plain (OpenSpec.upto fnExactNewForthSpec)) fnExactNewForthUptoCard

/-- THE SECOND FORM's CARD OF 'laws.FnActTexts'. -/
def fnActTextsUptoCard : Claim7 := { stood := { row := fnActTextsUptoRow, standIns := [], harness := (true, "7121e581b6220beb3c718ca565e1c8f610d09025ca9fa5c89fbee4f0583089c9"), looks := true }, kinds := [], alts := [], laidByText := true, laidKinds := [.data, .data, .data, .data, .sentinel, .sentinel, .pinned], laidTests := true, laidLooks := .later }
def FnActTextsUptoCardSaid : Prop := Claim7.holds Tryd.pinned (.plain (OpenSpec.upto fnActTextsSpec)) fnActTextsUptoCard
end Rows
end Go.Proofs.YtdbjklhadnnbdaaDoor
