/-
  DERIVED. GIVEN WITH THE SEED: THE CARDS: each row of YtioaekgoceinkaaGreatDoorRows.lean that lists a variable, with what it lists TIED to the program's text (the seventh form; the later family's looks); each row that meets fmt, with fmt's text TOLD by the authors' own Lean function (tested against real Go, not proved from fmt's source: count such statements apart). THE CARD IS WHAT COUNTS. Prove the row's statement (the work); the ties are given (YtioaekgoceinkaaGreatDoorTie.lean); close each card by the builder's one call (the guide's Derived/Test/ToyasCard.lean, 'card_holds'). Laid BY PROGRAM, IN A SANDBOX (cutbox-door.mjs). By AI agents, Wed Nov 11 2026. No macro, syntax, notation, axiom, sorry.
-/
import Derived.Test.YtioaekgoceinkaaGreatDoorRows
import GoSem.ClaimSeven
namespace Go.Proofs.YtioaekgoceinkaaGreatDoor
namespace Rows

/-- THE TIED CARD OF 'fenestralaw25.MotionLeads'. -/
def motionLeadsCard : Claim7 := { stood := { row := motionLeadsRow, standIns := [], harness := (true, "8d6aac4419254535066e23634f9297c16cf98d3cc7b66757ac3004fa5a5d6df6"), looks := true }, kinds := [], alts := [], laidByText := true, laidKinds := [.data, .data, .data, .data, .data, .data, .widerDeep, .widerDeep], laidTests := true, laidLooks := .later }
def MotionLeadsCardSaid : Prop := Claim7.holds Tryz.pinned (.plain (OpenSpec.ofChange motionLeadsSpec)) motionLeadsCard

/-- THE SECOND FORM's CARD OF 'fenestralaw25.MotionLeads'. -/
def motionLeadsUptoCard : Claim7 := { stood := { row := motionLeadsUptoRow, standIns := [], harness := (true, "8d6aac4419254535066e23634f9297c16cf98d3cc7b66757ac3004fa5a5d6df6"), looks := true }, kinds := [], alts := [], laidByText := true, laidKinds := [.data, .data, .data, .data, .data, .data, .widerDeep, .widerDeep], laidTests := true, laidLooks := .later }
def MotionLeadsUptoCardSaid : Prop := Claim7.holds Tryz.pinned (.plain (OpenSpec.upto motionLeadsSpec)) motionLeadsUptoCard
end Rows
end Go.Proofs.YtioaekgoceinkaaGreatDoor
