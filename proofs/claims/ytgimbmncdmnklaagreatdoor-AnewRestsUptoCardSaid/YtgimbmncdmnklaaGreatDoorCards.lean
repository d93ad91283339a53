/-
  DERIVED. GIVEN WITH THE SEED: THE CARDS: each row of YtgimbmncdmnklaaGreatDoorRows.lean that lists a variable, with what it lists TIED to the program's text (the seventh form; the later family's looks); each row that meets fmt, with fmt's text TOLD by the authors' own Lean function (tested against real Go, not proved from fmt's source: count such statements apart). THE CARD IS WHAT COUNTS. Prove the row's statement (the work); the ties are given (YtgimbmncdmnklaaGreatDoorTie.lean); close each card by the builder's one call (the guide's Derived/Test/ToyasCard.lean, 'card_holds'). Laid BY PROGRAM, IN A SANDBOX (cutbox-door.mjs). By AI agents, Wed Nov 11 2026. No macro, syntax, notation, axiom, sorry.
-/
import Derived.Test.YtgimbmncdmnklaaGreatDoorRows
import GoSem.ClaimSeven
namespace Go.Proofs.YtgimbmncdmnklaaGreatDoor
namespace Rows

/-- THE TIED CARD OF 'fenestralaw29.AnewCells'. -/
def anewCellsCard : Claim7 := { stood := { row := anewCellsRow, standIns := [], harness := (true, "1911dd4c2c17792be8d4baa8c34220eac3b005dbc0925d782f6c1ea33a52ea17"), looks := true }, kinds := [], alts := [], laidByText := true, laidKinds := [.data, .data, .data, .data, .data, .widerDeep, .widerDeep], laidTests := true, laidLooks := .later }
def AnewCellsCardSaid : Prop := Claim7.holds Tryz.pinned (.plain (OpenSpec.ofChange anewCellsSpec)) anewCellsCard

/-- THE TIED CARD OF 'fenestralaw29.AnewRests'. -/
def anewRestsCard : Claim7 := { stood := { row := anewRestsRow, standIns := [], harness := (true, "1911dd4c2c17792be8d4baa8c34220eac3b005dbc0925d782f6c1ea33a52ea17"), looks := true }, kinds := [], alts := [], laidByText := true, laidKinds := [.data, .data, .data, .data, .data, .widerDeep, .widerDeep], laidTests := true, laidLooks := .later }
def AnewRestsCardSaid : Prop := Claim7.holds Tryz.pinned (.plain (OpenSpec.ofChange anewRestsSpec)) anewRestsCard

/-- THE TIED CARD OF 'fenestralaw29.AnewDraws'. -/
def anewDrawsCard : Claim7 := { stood := { row := anewDrawsRow, standIns := [], harness := (true, "1911dd4c2c17792be8d4baa8c34220eac3b005dbc0925d782f6c1ea33a52ea17"), looks := true }, kinds := [], alts := [], laidByText := true, laidKinds := [.data, .data, .data, .data, .data, .widerDeep, .widerDeep], laidTests := true, laidLooks := .later }
def AnewDrawsCardSaid : Prop := Claim7.holds Tryz.pinned (.plain (OpenSpec.ofChange anewDrawsSpec)) anewDrawsCard

/-- THE SECOND FORM's CARD OF 'fenestralaw29.AnewCells'. -/
def anewCellsUptoCard : Claim7 := { stood := { row := anewCellsUptoRow, standIns := [], harness := (true, "1911dd4c2c17792be8d4baa8c34220eac3b005dbc0925d782f6c1ea33a52ea17"), looks := true }, kinds := [], alts := [], laidByText := true, laidKinds := [.data, .data, .data, .data, .data, .widerDeep, .widerDeep], laidTests := true, laidLooks := .later }
def AnewCellsUptoCardSaid : Prop := Claim7.holds Tryz.pinned (.plain (OpenSpec.upto anewCellsSpec)) anewCellsUptoCard

/-- THE SECOND FORM's CARD OF 'fenestralaw29.AnewRests'. -/
def anewRestsUptoCard : Claim7 := { stood := { row := anewRestsUptoRow, standIns := [], harness := (true, "1911dd4c2c17792be8d4baa8c34220eac3b005dbc0925d782f6c1ea33a52ea17"), looks := true }, kinds := [], alts := [], laidByText := true, laidKinds := [.data, .data, .data, .data, .data, .widerDeep, .widerDeep], laidTests := true, laidLooks := .later }
def AnewRestsUptoCardSaid : Prop := Claim7.holds Tryz.pinned (.plain (OpenSpec.upto anewRestsSpec)) anewRestsUptoCard

/-- THE SECOND FORM's CARD OF 'fenestralaw29.AnewDraws'. -/
def anewDrawsUptoCard : Claim7 := { stood := { row := anewDrawsUptoRow, standIns := [], harness := (true, "1911dd4c2c17792be8d4baa8c34220eac3b005dbc0925d782f6c1ea33a52ea17"), looks := true }, kinds := [], alts := [], laidByText := true, laidKinds := [.data, .data, .data, .data, .data, .widerDeep, .widerDeep], laidTests := true, laidLooks := .later }
def AnewDrawsUptoCardSaid : Prop := Claim7.holds Tryz.pinned (.plain (OpenSpec.upto anewDrawsSpec)) anewDrawsUptoCard
end Rows
end Go.Proofs.YtgimbmncdmnklaaGreatDoor
