/-
  DERIVED. GIVEN WITH THE SEED: THE CARDS: each row of YthfphedhlnoffaaGreatDoorRows.lean that lists a variable, with what it lists TIED to the program's text (the seventh form; the later family's looks); each row that meets fmt, with fmt's text TOLD by the authors' own Lean function (tested against real Go, not proved from fmt's source: count such statements apart). THE CARD IS WHAT COUNTS. Prove the row's statement (the work); the ties are given (YthfphedhlnoffaaGreatDoorTie.lean); close each card by the builder's one call (the guide's Derived/Test/ToyasCard.lean, 'card_holds'). Laid BY PROGRAM, IN A SANDBOX (cutbox-door.mjs). By AI agents, Wed Nov 11 2026. No macro, syntax, notation, axiom, sorry.
-/
import Derived.Test.YthfphedhlnoffaaGreatDoorRows
import GoSem.ClaimSeven
namespace Go.Proofs.YthfphedhlnoffaaGreatDoor
namespace Rows

/-- THE TIED CARD OF 'laws.FnExactBeginToken'. -/
def fnExactBeginTokenCard : Claim7 := { stood := { row := fnExactBeginTokenRow, standIns := [], harness := (true, "0ff0c9ad374d67b7daec8f09df26a15cf85ed3c952dab27119820ee645253f41"), looks := false }, kinds := [], alts := [], laidByText := true, laidKinds := [.data, .data, .data, .data, .listed, .data, .pinned, .pinned], laidTests := true, laidLooks := .later }
def FnExactBeginTokenCardSaid : Prop := Claim7.holds Tryz.pinned (.plain (OpenSpec.ofChange fnExactBeginTokenSpec)) fnExactBeginTokenCard

/-- THE TIED CARD OF 'laws.FnExactStepMachine'. -/
def fnExactStepMachineCard : Claim7 := { stood := { row := fnExactStepMachineRow, standIns := [], harness := (true, "0ff0c9ad374d67b7daec8f09df26a15cf85ed3c952dab27119820ee645253f41"), looks := false }, kinds := [], alts := [], laidByText := true, laidKinds := [.data, .data, .data, .data, .listed, .data, .pinned, .pinned], laidTests := true, laidLooks := .later }
def FnExactStepMachineCardSaid : Prop := Claim7.holds Tryz.pinned (.plain (OpenSpec.ofChange fnExactStepMachineSpec)) fnExactStepMachineCard

/-- THE TIED CARD OF 'laws.FnExactRunToken'. -/
def fnExactRunTokenCard : Claim7 := { stood := { row := fnExactRunTokenRow, standIns := [], harness := (true, "0ff0c9ad374d67b7daec8f09df26a15cf85ed3c952dab27119820ee645253f41"), looks := false }, kinds := [], alts := [], laidByText := true, laidKinds := [.data, .data, .data, .data, .listed, .data, .pinned, .pinned], laidTests := true, laidLooks := .later }
def FnExactRunTokenCardSaid : Prop := Claim7.holds Tryz.pinned (.plain (OpenSpec.ofChange fnExactRunTokenSpec)) fnExactRunTokenCard

/-- THE SECOND FORM's CARD OF 'laws.FnExactBeginToken'. -/
def fnExactBeginTokenUptoCard : Claim7 := { stood := { row := fnExactBeginTokenUptoRow, standIns := [], harness := (true, "0ff0c9ad374d67b7daec8f09df26a15cf85ed3c952dab27119820ee645253f41"), looks := false }, kinds := [], alts := [], laidByText := true, laidKinds := [.data, .data, .data, .data, .listed, .data, .pinned, .pinned], laidTests := true, laidLooks := .later }
def FnExactBeginTokenUptoCardSaid : Prop := Claim7.holds Tryz.pinned (.plain (OpenSpec.upto fnExactBeginTokenSpec)) fnExactBeginTokenUptoCard

/-- THE SECOND FORM's CARD OF 'laws.FnExactStepMachine'. -/
def fnExactStepMachineUptoCard : Claim7 := { stood := { row := fnExactStepMachineUptoRow, standIns := [], harness := (true, "0ff0c9ad374d67b7daec8f09df26a15cf85ed3c952dab27119820ee645253f41"), looks := false }, kinds := [], alts := [], laidByText := true, laidKinds := [.data, .data, .data, .data, .listed, .data, .pinned, .pinned], laidTests := true, laidLooks := .later }
def FnExactStepMachineUptoCardSaid : Prop := Claim7.holds Tryz.pinned (.plain (OpenSpec.upto fnExactStepMachineSpec)) fnExactStepMachineUptoCard

/-- THE SECOND FORM's CARD OF 'laws.FnExactRunToken'. -/
def fnExactRunTokenUptoCard : Claim7 := { stood := { row := fnExactRunTokenUptoRow, standIns := [], harness := (true, "0ff0c9ad374d67b7daec8f09df26a15cf85ed3c952dab27119820ee645253f41"), looks := false }, kinds := [], alts := [], laidByText := true, laidKinds := [.data, .data, .data, .data, .listed, .data, .pinned, .pinned], laidTests := true, laidLooks := .later }
def FnExactRunTokenUptoCardSaid : Prop := Claim7.holds Tryz.pinned (.plain (OpenSpec.upto fnExactRunTokenSpec)) fnExactRunTokenUptoCard
end Rows
end Go.Proofs.YthfphedhlnoffaaGreatDoor
