/-
  DERIVED. GIVEN WITH THE SEED: THE CARDS: each row of YtinkdfnpmoljfaaGreatDoorRows.lean that lists a variable, with what it lists TIED to the program's text (the seventh form; the later family's looks); each row that meets fmt, with fmt's text TOLD by the authors' own Lean function (tested against real Go, not proved from fmt's source: count such statements apart). THE CARD IS WHAT COUNTS. Prove the row's statement (the work); the ties are given (YtinkdfnpmoljfaaGreatDoorTie.lean); close each card by the builder's one call (the guide's Derived/Test/ToyasCard.lean, 'card_holds'). Laid BY PROGRAM, IN A SANDBOX (cutbox-door.mjs). By AI agents, Wed Nov 11 2026. No macro, syntax, notation, axiom, sorry.
-/
import Derived.Test.YtinkdfnpmoljfaaGreatDoorRows
import GoSem.ClaimSeven
namespace Go.Proofs.YtinkdfnpmoljfaaGreatDoor
namespace Rows

/-- THE TIED CARD OF 'fenestralaw11.EmitRows'. -/
def emitRowsCard : Claim7 := { stood := { row := emitRowsRow, standIns := [], harness := (true, "5e76a9d70a1a4a8c7321b3f460b1a6891f4b77176e0ce5941d24e4530f781f61"), looks := true }, kinds := [], alts := [], laidByText := true, laidKinds := [.data, .data, .data, .data, .data, .widerDeep, .widerDeep], laidTests := true, laidLooks := .later }
def EmitRowsCardSaid : Prop := Claim7.holds Tryz.pinned (.plain (OpenSpec.ofChange emitRowsSpec)) emitRowsCard

/-- THE TIED CARD OF 'fenestralaw11.EmitOnes'. -/
def emitOnesCard : Claim7 := { stood := { row := emitOnesRow, standIns := [], harness := (true, "5e76a9d70a1a4a8c7321b3f460b1a6891f4b77176e0ce5941d24e4530f781f61"), looks := true }, kinds := [], alts := [], laidByText := true, laidKinds := [.data, .data, .data, .data, .data, .widerDeep, .widerDeep], laidTests := true, laidLooks := .later }
def EmitOnesCardSaid : Prop := Claim7.holds Tryz.pinned (.plain (OpenSpec.ofChange emitOnesSpec)) emitOnesCard

/-- THE TIED CARD OF 'fenestralaw11.EmitParts'. -/
def emitPartsCard : Claim7 := { stood := { row := emitPartsRow, standIns := [], harness := (true, "5e76a9d70a1a4a8c7321b3f460b1a6891f4b77176e0ce5941d24e4530f781f61"), looks := true }, kinds := [], alts := [], laidByText := true, laidKinds := [.data, .data, .data, .data, .data, .widerDeep, .widerDeep], laidTests := true, laidLooks := .later }
def EmitPartsCardSaid : Prop := Claim7.holds Tryz.pinned (.plain (OpenSpec.ofChange emitPartsSpec)) emitPartsCard

/-- THE TIED CARD OF 'fenestralaw11.EmitKnown'. -/
def emitKnownCard : Claim7 := { stood := { row := emitKnownRow, standIns := [], harness := (true, "5e76a9d70a1a4a8c7321b3f460b1a6891f4b77176e0ce5941d24e4530f781f61"), looks := true }, kinds := [], alts := [], laidByText := true, laidKinds := [.data, .data, .data, .data, .data, .widerDeep, .widerDeep], laidTests := true, laidLooks := .later }
def EmitKnownCardSaid : Prop := Claim7.holds Tryz.pinned (.plain (OpenSpec.ofChange emitKnownSpec)) emitKnownCard

/-- THE TIED CARD OF 'fenestralaw28.ShiftDoes'. -/
def shiftDoesCard : Claim7 := { stood := { row := shiftDoesRow, standIns := [], harness := (true, "5e76a9d70a1a4a8c7321b3f460b1a6891f4b77176e0ce5941d24e4530f781f61"), looks := true }, kinds := [], alts := [], laidByText := true, laidKinds := [.data, .data, .data, .data, .widerDeep, .widerDeep], laidTests := true, laidLooks := .later }
def ShiftDoesCardSaid : Prop := Claim7.holds Tryz.pinned (.plain (OpenSpec.ofChange shiftDoesSpec)) shiftDoesCard

/-- THE TIED CARD OF 'fenestralaw28.ShiftBack'. -/
def shiftBackCard : Claim7 := { stood := { row := shiftBackRow, standIns := [], harness := (true, "5e76a9d70a1a4a8c7321b3f460b1a6891f4b77176e0ce5941d24e4530f781f61"), looks := true }, kinds := [], alts := [], laidByText := true, laidKinds := [.data, .data, .data, .data, .widerDeep, .widerDeep], laidTests := true, laidLooks := .later }
def ShiftBackCardSaid : Prop := Claim7.holds Tryz.pinned (.plain (OpenSpec.ofChange shiftBackSpec)) shiftBackCard

/-- THE TIED CARD OF 'fenestralaw28.ShiftGains'. -/
def shiftGainsCard : Claim7 := { stood := { row := shiftGainsRow, standIns := [], harness := (true, "5e76a9d70a1a4a8c7321b3f460b1a6891f4b77176e0ce5941d24e4530f781f61"), looks := true }, kinds := [], alts := [], laidByText := true, laidKinds := [.data, .data, .data, .data, .widerDeep, .widerDeep], laidTests := true, laidLooks := .later }
def ShiftGainsCardSaid : Prop := Claim7.holds Tryz.pinned (.plain (OpenSpec.ofChange shiftGainsSpec)) shiftGainsCard

/-- THE TIED CARD OF 'fenestralaw28.ShiftBest'. -/
def shiftBestCard : Claim7 := { stood := { row := shiftBestRow, standIns := [], harness := (true, "5e76a9d70a1a4a8c7321b3f460b1a6891f4b77176e0ce5941d24e4530f781f61"), looks := true }, kinds := [], alts := [], laidByText := true, laidKinds := [.data, .data, .data, .data, .widerDeep, .widerDeep], laidTests := true, laidLooks := .later }
def ShiftBestCardSaid : Prop := Claim7.holds Tryz.pinned (.plain (OpenSpec.ofChange shiftBestSpec)) shiftBestCard

/-- THE TIED CARD OF 'fenestralaw26.PenSteps'. -/
def penStepsCard : Claim7 := { stood := { row := penStepsRow, standIns := [], harness := (true, "5e76a9d70a1a4a8c7321b3f460b1a6891f4b77176e0ce5941d24e4530f781f61"), looks := true }, kinds := [], alts := [], laidByText := true, laidKinds := [.data, .data, .data, .data, .data, .widerDeep, .widerDeep], laidTests := true, laidLooks := .later }
def PenStepsCardSaid : Prop := Claim7.holds Tryz.pinned (.plain (OpenSpec.ofChange penStepsSpec)) penStepsCard

/-- THE TIED CARD OF 'fenestralaw26.PenChanges'. -/
def penChangesCard : Claim7 := { stood := { row := penChangesRow, standIns := [], harness := (true, "5e76a9d70a1a4a8c7321b3f460b1a6891f4b77176e0ce5941d24e4530f781f61"), looks := true }, kinds := [], alts := [], laidByText := true, laidKinds := [.data, .data, .data, .data, .data, .widerDeep, .widerDeep], laidTests := true, laidLooks := .later }
def PenChangesCardSaid : Prop := Claim7.holds Tryz.pinned (.plain (OpenSpec.ofChange penChangesSpec)) penChangesCard

/-- THE TIED CARD OF 'fenestralaw26.PenLeast'. -/
def penLeastCard : Claim7 := { stood := { row := penLeastRow, standIns := [], harness := (true, "5e76a9d70a1a4a8c7321b3f460b1a6891f4b77176e0ce5941d24e4530f781f61"), looks := true }, kinds := [], alts := [], laidByText := true, laidKinds := [.data, .data, .data, .data, .data, .widerDeep, .widerDeep], laidTests := true, laidLooks := .later }
def PenLeastCardSaid : Prop := Claim7.holds Tryz.pinned (.plain (OpenSpec.ofChange penLeastSpec)) penLeastCard

/-- THE TIED CARD OF 'fenestralaw26.PenLeads'. -/
def penLeadsCard : Claim7 := { stood := { row := penLeadsRow, standIns := [], harness := (true, "5e76a9d70a1a4a8c7321b3f460b1a6891f4b77176e0ce5941d24e4530f781f61"), looks := true }, kinds := [], alts := [], laidByText := true, laidKinds := [.data, .data, .data, .data, .data, .widerDeep, .widerDeep], laidTests := true, laidLooks := .later }
def PenLeadsCardSaid : Prop := Claim7.holds Tryz.pinned (.plain (OpenSpec.ofChange penLeadsSpec)) penLeadsCard

/-- THE SECOND FORM's CARD OF 'fenestralaw11.EmitRows'. -/
def emitRowsUptoCard : Claim7 := { stood := { row := emitRowsUptoRow, standIns := [], harness := (true, "5e76a9d70a1a4a8c7321b3f460b1a6891f4b77176e0ce5941d24e4530f781f61"), looks := true }, kinds := [], alts := [], laidByText := true, laidKinds := [.data, .data, .data, .data, .data, .widerDeep, .widerDeep], laidTests := true, laidLooks := .later }
def EmitRowsUptoCardSaid : Prop := Claim7.holds Tryz.pinned (.plain (OpenSpec.upto emitRowsSpec)) emitRowsUptoCard

/-- THE SECOND FORM's CARD OF 'fenestralaw11.EmitOnes'. -/
def emitOnesUptoCard : Claim7 := { stood := { row := emitOnesUptoRow, standIns := [], harness := (true, "5e76a9d70a1a4a8c7321b3f460b1a6891f4b77176e0ce5941d24e4530f781f61"), looks := true }, kinds := [], alts := [], laidByText := true, laidKinds := [.data, .data, .data, .data, .data, .widerDeep, .widerDeep], laidTests := true, laidLooks := .later }
def EmitOnesUptoCardSaid : Prop := Claim7.holds Tryz.pinned (.plain (OpenSpec.upto emitOnesSpec)) emitOnesUptoCard

/-- THE SECOND FORM's CARD OF 'fenestralaw11.EmitParts'. -/
def emitPartsUptoCard : Claim7 := { stood := { row := emitPartsUptoRow, standIns := [], harness := (true, "5e76a9d70a1a4a8c7321b3f460b1a6891f4b77176e0ce5941d24e4530f781f61"), looks := true }, kinds := [], alts := [], laidByText := true, laidKinds := [.data, .data, .data, .data, .data, .widerDeep, .widerDeep], laidTests := true, laidLooks := .later }
def EmitPartsUptoCardSaid : Prop := Claim7.holds Tryz.pinned (.plain (OpenSpec.upto emitPartsSpec)) emitPartsUptoCard

/-- THE SECOND FORM's CARD OF 'fenestralaw11.EmitKnown'. -/
def emitKnownUptoCard : Claim7 := { stood := { row := emitKnownUptoRow, standIns := [], harness := (true, "5e76a9d70a1a4a8c7321b3f460b1a6891f4b77176e0ce5941d24e4530f781f61"), looks := true }, kinds := [], alts := [], laidByText := true, laidKinds := [.data, .data, .data, .data, .data, .widerDeep, .widerDeep], laidTests := true, laidLooks := .later }
def EmitKnownUptoCardSaid : Prop := Claim7.holds Tryz.pinned (.plain (OpenSpec.upto emitKnownSpec)) emitKnownUptoCard

/-- THE SECOND FORM's CARD OF 'fenestralaw28.ShiftDoes'. -/
def shiftDoesUptoCard : Claim7 := { stood := { row := shiftDoesUptoRow, standIns := [], harness := (true, "5e76a9d70a1a4a8c7321b3f460b1a6891f4b77176e0ce5941d24e4530f781f61"), looks := true }, kinds := [], alts := [], laidByText := true, laidKinds := [.data, .data, .data, .data, .widerDeep, .widerDeep], laidTests := true, laidLooks := .later }
def ShiftDoesUptoCardSaid : Prop := Claim7.holds Tryz.pinned (.plain (OpenSpec.upto shiftDoesSpec)) shiftDoesUptoCard

/-- THE SECOND FORM's CARD OF 'fenestralaw28.ShiftBack'. -/
def shiftBackUptoCard : Claim7 := { stood := { row := shiftBackUptoRow, standIns := [], harness := (true, "5e76a9d70a1a4a8c7321b3f460b1a6891f4b77176e0ce5941d24e4530f781f61"), looks := true }, kinds := [], alts := [], laidByText := true, laidKinds := [.data, .data, .data, .data, .widerDeep, .widerDeep], laidTests := true, laidLooks := .later }
def ShiftBackUptoCardSaid : Prop := Claim7.holds Tryz.pinned (.plain (OpenSpec.upto shiftBackSpec)) shiftBackUptoCard

/-- THE SECOND FORM's CARD OF 'fenestralaw28.ShiftGains'. -/
def shiftGainsUptoCard : Claim7 := { stood := { row := shiftGainsUptoRow, standIns := [], harness := (true, "5e76a9d70a1a4a8c7321b3f460b1a6891f4b77176e0ce5941d24e4530f781f61"), looks := true }, kinds := [], alts := [], laidByText := true, laidKinds := [.data, .data, .data, .data, .widerDeep, .widerDeep], laidTests := true, laidLooks := .later }
def ShiftGainsUptoCardSaid : Prop := Claim7.holds Tryz.pinned (.plain (OpenSpec.upto shiftGainsSpec)) shiftGainsUptoCard

/-- THE SECOND FORM's CARD OF 'fenestralaw28.ShiftBest'. -/
def shiftBestUptoCard : Claim7 := { stood := { row := shiftBestUptoRow, standIns := [], harness := (true, "5e76a9d70a1a4a8c7321b3f460b1a6891f4b77176e0ce5941d24e4530f781f61"), looks := true }, kinds := [], alts := [], laidByText := true, laidKinds := [.data, .data, .data, .data, .widerDeep, .widerDeep], laidTests := true, laidLooks := .later }
def ShiftBestUptoCardSaid : Prop := Claim7.holds Tryz.pinned (.plain (OpenSpec.upto shiftBestSpec)) shiftBestUptoCard

/-- THE SECOND FORM's CARD OF 'fenestralaw26.PenSteps'. -/
def penStepsUptoCard : Claim7 := { stood := { row := penStepsUptoRow, standIns := [], harness := (true, "5e76a9d70a1a4a8c7321b3f460b1a6891f4b77176e0ce5941d24e4530f781f61"), looks := true }, kinds := [], alts := [], laidByText := true, laidKinds := [.data, .data, .data, .data, .data, .widerDeep, .widerDeep], laidTests := true, laidLooks := .later }
def PenStepsUptoCardSaid : Prop := Claim7.holds Tryz.pinned (.plain (OpenSpec.upto penStepsSpec)) penStepsUptoCard

/-- THE SECOND FORM's CARD OF 'fenestralaw26.PenChanges'. -/
def penChangesUptoCard : Claim7 := { stood := { row := penChangesUptoRow, standIns := [], harness := (true, "5e76a9d70a1a4a8c7321b3f460b1a6891f4b77176e0ce5941d24e4530f781f61"), looks := true }, kinds := [], alts := [], laidByText := true, laidKinds := [.data, .data, .data, .data, .data, .widerDeep, .widerDeep], laidTests := true, laidLooks := .later }
def PenChangesUptoCardSaid : Prop := Claim7.holds Tryz.pinned (.plain (OpenSpec.upto penChangesSpec)) penChangesUptoCard

/-- THE SECOND FORM's CARD OF 'fenestralaw26.PenLeast'. -/
def penLeastUptoCard : Claim7 := { stood := { row := penLeastUptoRow, standIns := [], harness := (true, "5e76a9d70a1a4a8c7321b3f460b1a6891f4b77176e0ce5941d24e4530f781f61"), looks := true }, kinds := [], alts := [], laidByText := true, laidKinds := [.data, .data, .data, .data, .data, .widerDeep, .widerDeep], laidTests := true, laidLooks := .later }
def PenLeastUptoCardSaid : Prop := Claim7.holds Tryz.pinned (.plain (OpenSpec.upto penLeastSpec)) penLeastUptoCard

/-- THE SECOND FORM's CARD OF 'fenestralaw26.PenLeads'. -/
def penLeadsUptoCard : Claim7 := { stood := { row := penLeadsUptoRow, standIns := [], harness := (true, "5e76a9d70a1a4a8c7321b3f460b1a6891f4b77176e0ce5941d24e4530f781f61"), looks := true }, kinds := [], alts := [], laidByText := true, laidKinds := [.data, .data, .data, .data, .data, .widerDeep, .widerDeep], laidTests := true, laidLooks := .later }
def PenLeadsUptoCardSaid : Prop := Claim7.holds Tryz.pinned (.plain (OpenSpec.upto penLeadsSpec)) penLeadsUptoCard
end Rows
end Go.Proofs.YtinkdfnpmoljfaaGreatDoor
