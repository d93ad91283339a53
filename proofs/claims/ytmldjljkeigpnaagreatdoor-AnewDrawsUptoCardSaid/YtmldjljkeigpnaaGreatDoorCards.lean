/-
  DERIVED. GIVEN WITH THE SEED: THE CARDS: each row of YtmldjljkeigpnaaGreatDoorRows.lean that lists a variable, with what it lists TIED to the program's text (the seventh form; the later family's looks); each row that meets fmt, with fmt's text TOLD by the authors' own Lean function (tested against real Go, not proved from fmt's source: count such statements apart). THE CARD IS WHAT COUNTS. Prove the row's statement (the work); the ties are given (YtmldjljkeigpnaaGreatDoorTie.lean); close each card by the builder's one call (the guide's Derived/Test/ToyasCard.lean, 'card_holds'). Laid BY PROGRAM, IN A SANDBOX (cutbox-door.mjs). By AI agents, Wed Nov 11 2026. No macro, syntax, notation, axiom, sorry.
-/
import Derived.Test.YtmldjljkeigpnaaGreatDoorRows
import GoSem.ClaimSeven
namespace Go.Proofs.YtmldjljkeigpnaaGreatDoor
namespace Rows

/-- THE TIED CARD OF 'fenestralaw29.AnewCells'. -/
def anewCellsCard : Claim7 := { stood := { row := anewCellsRow, standIns := [], harness := (true, "d0f6ad0d35be8c0190ffabd7f31f5808e74133db139498e076fa10a4b576f2c3"), looks := true }, kinds := [], alts := [], laidByText := true, laidKinds := [.data, .data, .data, .data, .data, .widerDeep, .widerDeep], laidTests := true, laidLooks := .later }
def AnewCellsCardSaid : Prop := Claim7.holds Tryz.pinned (.plain (OpenSpec.ofChange anewCellsSpec)) anewCellsCard

/-- THE TIED CARD OF 'fenestralaw29.AnewDraws'. -/
def anewDrawsCard : Claim7 := { stood := { row := anewDrawsRow, standIns := [], harness := (true, "d0f6ad0d35be8c0190ffabd7f31f5808e74133db139498e076fa10a4b576f2c3"), looks := true }, kinds := [], alts := [], laidByText := true, laidKinds := [.data, .data, .data, .data, .data, .widerDeep, .widerDeep], laidTests := true, laidLooks := .later }
def AnewDrawsCardSaid : Prop := Claim7.holds Tryz.pinned (.plain (OpenSpec.ofChange anewDrawsSpec)) anewDrawsCard

/-- THE SECOND FORM's CARD OF 'fenestralaw29.AnewCells'. -/
def anewCellsUptoCard : Claim7 := { stood := { row := anewCellsUptoRow, standIns := [], harness := (true, "d0f6ad0d35be8c0190ffabd7f31f5808e74133db139498e076fa10a4b576f2c3"), looks := true }, kinds := [], alts := [], laidByText := true, laidKinds := [.data, .data, .data, .data, .data, .widerDeep, .widerDeep], laidTests := true, laidLooks := .later }
def AnewCellsUptoCardSaid : Prop := Claim7.holds Tryz.pinned (.plain (OpenSpec.upto anewCellsSpec)) anewCellsUptoCard

/-- THE SECOND FORM's CARD OF 'fenestralaw29.AnewDraws'. -/
def anewDrawsUptoCard : Claim7 := { stood := { row := anewDrawsUptoRow, standIns := [], harness := (true, "d0f6ad0d35be8c0190ffabd7f31f5808e74133db139498e076fa10a4b576f2c3"), looks := true }, kinds := [], alts := [], laidByText := true, laidKinds := [.data, .data, .data, .data, .data, .widerDeep, .widerDeep], laidTests := true, laidLooks := .later }
def AnewDrawsUptoCardSaid : Prop := Claim7.holds Tryz.pinned (.plain (OpenSpec.upto anewDrawsSpec)) anewDrawsUptoCard
end Rows
end Go.Proofs.YtmldjljkeigpnaaGreatDoor
