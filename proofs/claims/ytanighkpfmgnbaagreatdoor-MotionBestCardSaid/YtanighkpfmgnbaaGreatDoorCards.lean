/-
  DERIVED. GIVEN WITH THE SEED: THE CARDS: each row of YtanighkpfmgnbaaGreatDoorRows.lean that lists a variable, with what it lists TIED to the program's text (the seventh form; the later family's looks); each row that meets fmt, with fmt's text TOLD by the authors' own Lean function (tested against real Go, not proved from fmt's source: count such statements apart). THE CARD IS WHAT COUNTS. Prove the row's statement (the work); the ties are given (YtanighkpfmgnbaaGreatDoorTie.lean); close each card by the builder's one call (the guide's Derived/Test/ToyasCard.lean, 'card_holds'). Laid BY PROGRAM, IN A SANDBOX (cutbox-door.mjs). By AI agents, Wed Nov 11 2026. No macro, syntax, notation, axiom, sorry.
-/
import Derived.Test.YtanighkpfmgnbaaGreatDoorRows
import GoSem.ClaimSeven
namespace Go.Proofs.YtanighkpfmgnbaaGreatDoor
namespace Rows

/-- THE TIED CARD OF 'fenestralaw11.EmitRows'. -/
def emitRowsCard : Claim7 := { stood := { row := emitRowsRow, standIns := [], harness := (true, "84f9ad4f44459a901fabed404c20f033b286e50e3c523cd081e593771cca7fe9"), looks := true }, kinds := [], alts := [], laidByText := true, laidKinds := [.data, .data, .data, .data, .data, .widerDeep, .widerDeep], laidTests := true, laidLooks := .later }
def EmitRowsCardSaid : Prop := Claim7.holds Tryz.pinned (.plain (OpenSpec.ofChange emitRowsSpec)) emitRowsCard

/-- THE TIED CARD OF 'fenestralaw11.EmitAlike'. -/
def emitAlikeCard : Claim7 := { stood := { row := emitAlikeRow, standIns := [], harness := (true, "84f9ad4f44459a901fabed404c20f033b286e50e3c523cd081e593771cca7fe9"), looks := true }, kinds := [], alts := [], laidByText := true, laidKinds := [.data, .data, .data, .data, .data, .widerDeep, .widerDeep], laidTests := true, laidLooks := .later }
def EmitAlikeCardSaid : Prop := Claim7.holds Tryz.pinned (.plain (OpenSpec.ofChange emitAlikeSpec)) emitAlikeCard

/-- THE TIED CARD OF 'fenestralaw11.EmitOnes'. -/
def emitOnesCard : Claim7 := { stood := { row := emitOnesRow, standIns := [], harness := (true, "84f9ad4f44459a901fabed404c20f033b286e50e3c523cd081e593771cca7fe9"), looks := true }, kinds := [], alts := [], laidByText := true, laidKinds := [.data, .data, .data, .data, .data, .widerDeep, .widerDeep], laidTests := true, laidLooks := .later }
def EmitOnesCardSaid : Prop := Claim7.holds Tryz.pinned (.plain (OpenSpec.ofChange emitOnesSpec)) emitOnesCard

/-- THE TIED CARD OF 'fenestralaw11.EmitParts'. -/
def emitPartsCard : Claim7 := { stood := { row := emitPartsRow, standIns := [], harness := (true, "84f9ad4f44459a901fabed404c20f033b286e50e3c523cd081e593771cca7fe9"), looks := true }, kinds := [], alts := [], laidByText := true, laidKinds := [.data, .data, .data, .data, .data, .widerDeep, .widerDeep], laidTests := true, laidLooks := .later }
def EmitPartsCardSaid : Prop := Claim7.holds Tryz.pinned (.plain (OpenSpec.ofChange emitPartsSpec)) emitPartsCard

/-- THE TIED CARD OF 'fenestralaw11.EmitKnown'. -/
def emitKnownCard : Claim7 := { stood := { row := emitKnownRow, standIns := [], harness := (true, "84f9ad4f44459a901fabed404c20f033b286e50e3c523cd081e593771cca7fe9"), looks := true }, kinds := [], alts := [], laidByText := true, laidKinds := [.data, .data, .data, .data, .data, .widerDeep, .widerDeep], laidTests := true, laidLooks := .later }
def EmitKnownCardSaid : Prop := Claim7.holds Tryz.pinned (.plain (OpenSpec.ofChange emitKnownSpec)) emitKnownCard

/-- THE TIED CARD OF 'fenestralaw25.MotionWays'. -/
def motionWaysCard : Claim7 := { stood := { row := motionWaysRow, standIns := [], harness := (true, "84f9ad4f44459a901fabed404c20f033b286e50e3c523cd081e593771cca7fe9"), looks := true }, kinds := [], alts := [], laidByText := true, laidKinds := [.data, .data, .data, .data, .data, .widerDeep, .widerDeep], laidTests := true, laidLooks := .later }
def MotionWaysCardSaid : Prop := Claim7.holds Tryz.pinned (.plain (OpenSpec.ofChange motionWaysSpec)) motionWaysCard

/-- THE TIED CARD OF 'fenestralaw25.MotionBest'. -/
def motionBestCard : Claim7 := { stood := { row := motionBestRow, standIns := [], harness := (true, "84f9ad4f44459a901fabed404c20f033b286e50e3c523cd081e593771cca7fe9"), looks := true }, kinds := [], alts := [], laidByText := true, laidKinds := [.data, .data, .data, .data, .data, .widerDeep, .widerDeep], laidTests := true, laidLooks := .later }
def MotionBestCardSaid : Prop := Claim7.holds Tryz.pinned (.plain (OpenSpec.ofChange motionBestSpec)) motionBestCard

/-- THE TIED CARD OF 'fenestralaw25.MotionSteps'. -/
def motionStepsCard : Claim7 := { stood := { row := motionStepsRow, standIns := [], harness := (true, "84f9ad4f44459a901fabed404c20f033b286e50e3c523cd081e593771cca7fe9"), looks := true }, kinds := [], alts := [], laidByText := true, laidKinds := [.data, .data, .data, .data, .data, .widerDeep, .widerDeep], laidTests := true, laidLooks := .later }
def MotionStepsCardSaid : Prop := Claim7.holds Tryz.pinned (.plain (OpenSpec.ofChange motionStepsSpec)) motionStepsCard

/-- THE TIED CARD OF 'fenestralaw25.MotionLeast'. -/
def motionLeastCard : Claim7 := { stood := { row := motionLeastRow, standIns := [], harness := (true, "84f9ad4f44459a901fabed404c20f033b286e50e3c523cd081e593771cca7fe9"), looks := true }, kinds := [], alts := [], laidByText := true, laidKinds := [.data, .data, .data, .data, .data, .widerDeep, .widerDeep], laidTests := true, laidLooks := .later }
def MotionLeastCardSaid : Prop := Claim7.holds Tryz.pinned (.plain (OpenSpec.ofChange motionLeastSpec)) motionLeastCard

/-- THE TIED CARD OF 'fenestralaw27.PaintLeast'. -/
def paintLeastCard : Claim7 := { stood := { row := paintLeastRow, standIns := [], harness := (true, "84f9ad4f44459a901fabed404c20f033b286e50e3c523cd081e593771cca7fe9"), looks := true }, kinds := [], alts := [], laidByText := true, laidKinds := [.data, .data, .data, .data, .data, .widerDeep, .widerDeep], laidTests := true, laidLooks := .later }
def PaintLeastCardSaid : Prop := Claim7.holds Tryz.pinned (.plain (OpenSpec.ofChange paintLeastSpec)) paintLeastCard

/-- THE TIED CARD OF 'fenestralaw27.PaintParts'. -/
def paintPartsCard : Claim7 := { stood := { row := paintPartsRow, standIns := [], harness := (true, "84f9ad4f44459a901fabed404c20f033b286e50e3c523cd081e593771cca7fe9"), looks := true }, kinds := [], alts := [], laidByText := true, laidKinds := [.data, .data, .data, .data, .data, .widerDeep, .widerDeep], laidTests := true, laidLooks := .later }
def PaintPartsCardSaid : Prop := Claim7.holds Tryz.pinned (.plain (OpenSpec.ofChange paintPartsSpec)) paintPartsCard

/-- THE SECOND FORM's CARD OF 'fenestralaw11.EmitRows'. -/
def emitRowsUptoCard : Claim7 := { stood := { row := emitRowsUptoRow, standIns := [], harness := (true, "84f9ad4f44459a901fabed404c20f033b286e50e3c523cd081e593771cca7fe9"), looks := true }, kinds := [], alts := [], laidByText := true, laidKinds := [.data, .data, .data, .data, .data, .widerDeep, .widerDeep], laidTests := true, laidLooks := .later }
def EmitRowsUptoCardSaid : Prop := Claim7.holds Tryz.pinned (.plain (OpenSpec.upto emitRowsSpec)) emitRowsUptoCard

/-- THE SECOND FORM's CARD OF 'fenestralaw11.EmitAlike'. -/
def emitAlikeUptoCard : Claim7 := { stood := { row := emitAlikeUptoRow, standIns := [], harness := (true, "84f9ad4f44459a901fabed404c20f033b286e50e3c523cd081e593771cca7fe9"), looks := true }, kinds := [], alts := [], laidByText := true, laidKinds := [.data, .data, .data, .data, .data, .widerDeep, .widerDeep], laidTests := true, laidLooks := .later }
def EmitAlikeUptoCardSaid : Prop := Claim7.holds Tryz.pinned (.plain (OpenSpec.upto emitAlikeSpec)) emitAlikeUptoCard

/-- THE SECOND FORM's CARD OF 'fenestralaw11.EmitOnes'. -/
def emitOnesUptoCard : Claim7 := { stood := { row := emitOnesUptoRow, standIns := [], harness := (true, "84f9ad4f44459a901fabed404c20f033b286e50e3c523cd081e593771cca7fe9"), looks := true }, kinds := [], alts := [], laidByText := true, laidKinds := [.data, .data, .data, .data, .data, .widerDeep, .widerDeep], laidTests := true, laidLooks := .later }
def EmitOnesUptoCardSaid : Prop := Claim7.holds Tryz.pinned (.plain (OpenSpec.upto emitOnesSpec)) emitOnesUptoCard

/-- THE SECOND FORM's CARD OF 'fenestralaw11.EmitParts'. -/
def emitPartsUptoCard : Claim7 := { stood := { row := emitPartsUptoRow, standIns := [], harness := (true, "84f9ad4f44459a901fabed404c20f033b286e50e3c523cd081e593771cca7fe9"), looks := true }, kinds := [], alts := [], laidByText := true, laidKinds := [.data, .data, .data, .data, .data, .widerDeep, .widerDeep], laidTests := true, laidLooks := .later }
def EmitPartsUptoCardSaid : Prop := Claim7.holds Tryz.pinned (.plain (OpenSpec.upto emitPartsSpec)) emitPartsUptoCard

/-- THE SECOND FORM's CARD OF 'fenestralaw11.EmitKnown'. -/
def emitKnownUptoCard : Claim7 := { stood := { row := emitKnownUptoRow, standIns := [], harness := (true, "84f9ad4f44459a901fabed404c20f033b286e50e3c523cd081e593771cca7fe9"), looks := true }, kinds := [], alts := [], laidByText := true, laidKinds := [.data, .data, .data, .data, .data, .widerDeep, .widerDeep], laidTests := true, laidLooks := .later }
def EmitKnownUptoCardSaid : Prop := Claim7.holds Tryz.pinned (.plain (OpenSpec.upto emitKnownSpec)) emitKnownUptoCard

/-- THE SECOND FORM's CARD OF 'fenestralaw25.MotionWays'. -/
def motionWaysUptoCard : Claim7 := { stood := { row := motionWaysUptoRow, standIns := [], harness := (true, "84f9ad4f44459a901fabed404c20f033b286e50e3c523cd081e593771cca7fe9"), looks := true }, kinds := [], alts := [], laidByText := true, laidKinds := [.data, .data, .data, .data, .data, .widerDeep, .widerDeep], laidTests := true, laidLooks := .later }
def MotionWaysUptoCardSaid : Prop := Claim7.holds Tryz.pinned (.plain (OpenSpec.upto motionWaysSpec)) motionWaysUptoCard

/-- THE SECOND FORM's CARD OF 'fenestralaw25.MotionBest'. -/
def motionBestUptoCard : Claim7 := { stood := { row := motionBestUptoRow, standIns := [], harness := (true, "84f9ad4f44459a901fabed404c20f033b286e50e3c523cd081e593771cca7fe9"), looks := true }, kinds := [], alts := [], laidByText := true, laidKinds := [.data, .data, .data, .data, .data, .widerDeep, .widerDeep], laidTests := true, laidLooks := .later }
def MotionBestUptoCardSaid : Prop := Claim7.holds Tryz.pinned (.plain (OpenSpec.upto motionBestSpec)) motionBestUptoCard

/-- THE SECOND FORM's CARD OF 'fenestralaw25.MotionSteps'. -/
def motionStepsUptoCard : Claim7 := { stood := { row := motionStepsUptoRow, standIns := [], harness := (true, "84f9ad4f44459a901fabed404c20f033b286e50e3c523cd081e593771cca7fe9"), looks := true }, kinds := [], alts := [], laidByText := true, laidKinds := [.data, .data, .data, .data, .data, .widerDeep, .widerDeep], laidTests := true, laidLooks := .later }
def MotionStepsUptoCardSaid : Prop := Claim7.holds Tryz.pinned (.plain (OpenSpec.upto motionStepsSpec)) motionStepsUptoCard

/-- THE SECOND FORM's CARD OF 'fenestralaw25.MotionLeast'. -/
def motionLeastUptoCard : Claim7 := { stood := { row := motionLeastUptoRow, standIns := [], harness := (true, "84f9ad4f44459a901fabed404c20f033b286e50e3c523cd081e593771cca7fe9"), looks := true }, kinds := [], alts := [], laidByText := true, laidKinds := [.data, .data, .data, .data, .data, .widerDeep, .widerDeep], laidTests := true, laidLooks := .later }
def MotionLeastUptoCardSaid : Prop := Claim7.holds Tryz.pinned (.plain (OpenSpec.upto motionLeastSpec)) motionLeastUptoCard

/-- THE SECOND FORM's CARD OF 'fenestralaw27.PaintLeast'. -/
def paintLeastUptoCard : Claim7 := { stood := { row := paintLeastUptoRow, standIns := [], harness := (true, "84f9ad4f44459a901fabed404c20f033b286e50e3c523cd081e593771cca7fe9"), looks := true }, kinds := [], alts := [], laidByText := true, laidKinds := [.data, .data, .data, .data, .data, .widerDeep, .widerDeep], laidTests := true, laidLooks := .later }
def PaintLeastUptoCardSaid : Prop := Claim7.holds Tryz.pinned (.plain (OpenSpec.upto paintLeastSpec)) paintLeastUptoCard

/-- THE SECOND FORM's CARD OF 'fenestralaw27.PaintParts'. -/
def paintPartsUptoCard : Claim7 := { stood := { row := paintPartsUptoRow, standIns := [], harness := (true, "84f9ad4f44459a901fabed404c20f033b286e50e3c523cd081e593771cca7fe9"), looks := true }, kinds := [], alts := [], laidByText := true, laidKinds := [.data, .data, .data, .data, .data, .widerDeep, .widerDeep], laidTests := true, laidLooks := .later }
def PaintPartsUptoCardSaid : Prop := Claim7.holds Tryz.pinned (.plain (OpenSpec.upto paintPartsSpec)) paintPartsUptoCard
end Rows
end Go.Proofs.YtanighkpfmgnbaaGreatDoor
