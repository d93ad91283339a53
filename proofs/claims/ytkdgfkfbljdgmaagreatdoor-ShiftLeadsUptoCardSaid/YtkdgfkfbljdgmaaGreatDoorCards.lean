/-
  DERIVED. GIVEN WITH THE SEED: THE CARDS: each row of YtkdgfkfbljdgmaaGreatDoorRows.lean that lists a variable, with what it lists TIED to the program's text (the seventh form; the later family's looks); each row that meets fmt, with fmt's text TOLD by the authors' own Lean function (tested against real Go, not proved from fmt's source: count such statements apart). THE CARD IS WHAT COUNTS. Prove the row's statement (the work); the ties are given (YtkdgfkfbljdgmaaGreatDoorTie.lean); close each card by the builder's one call (the guide's Derived/Test/ToyasCard.lean, 'card_holds'). Laid BY PROGRAM, IN A SANDBOX (cutbox-door.mjs). By AI agents, Wed Nov 11 2026. No macro, syntax, notation, axiom, sorry.
-/
import Derived.Test.YtkdgfkfbljdgmaaGreatDoorRows
import GoSem.ClaimSeven
namespace Go.Proofs.YtkdgfkfbljdgmaaGreatDoor
namespace Rows

/-- THE TIED CARD OF 'fenestralaw28.ShiftLeads'. -/
def shiftLeadsCard : Claim7 := { stood := { row := shiftLeadsRow, standIns := [], harness := (true, "fe115954759ea2d6867f2f83967be0db24f0bb5c899cb0e93bfa0294caba59a1"), looks := true }, kinds := [], alts := [], laidByText := true, laidKinds := [.data, .data, .data, .data, .data, .widerDeep, .widerDeep], laidTests := true, laidLooks := .later }
def ShiftLeadsCardSaid : Prop := Claim7.holds Tryz.pinned (.plain (OpenSpec.ofChange shiftLeadsSpec)) shiftLeadsCard

/-- THE SECOND FORM's CARD OF 'fenestralaw28.ShiftLeads'. -/
def shiftLeadsUptoCard : Claim7 := { stood := { row := shiftLeadsUptoRow, standIns := [], harness := (true, "fe115954759ea2d6867f2f83967be0db24f0bb5c899cb0e93bfa0294caba59a1"), looks := true }, kinds := [], alts := [], laidByText := true, laidKinds := [.data, .data, .data, .data, .data, .widerDeep, .widerDeep], laidTests := true, laidLooks := .later }
def ShiftLeadsUptoCardSaid : Prop := Claim7.holds Tryz.pinned (.plain (OpenSpec.upto shiftLeadsSpec)) shiftLeadsUptoCard
end Rows
end Go.Proofs.YtkdgfkfbljdgmaaGreatDoor
