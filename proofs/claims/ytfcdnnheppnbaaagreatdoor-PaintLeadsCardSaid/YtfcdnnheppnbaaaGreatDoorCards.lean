/-
  DERIVED. GIVEN WITH THE SEED: THE CARDS: each row of YtfcdnnheppnbaaaGreatDoorRows.lean that lists a variable, with what it lists TIED to the program's text (the seventh form; the later family's looks); each row that meets fmt, with fmt's text TOLD by the authors' own Lean function (tested against real Go, not proved from fmt's source: count such statements apart). THE CARD IS WHAT COUNTS. Prove the row's statement (the work); the ties are given (YtfcdnnheppnbaaaGreatDoorTie.lean); close each card by the builder's one call (the guide's Derived/Test/ToyasCard.lean, 'card_holds'). Laid BY PROGRAM, IN A SANDBOX (cutbox-door.mjs). By AI agents, Wed Nov 11 2026. No macro, syntax, notation, axiom, sorry.
-/
import Derived.Test.YtfcdnnheppnbaaaGreatDoorRows
import GoSem.ClaimSeven
namespace Go.Proofs.YtfcdnnheppnbaaaGreatDoor
namespace Rows

/-- THE TIED CARD OF 'fenestralaw27.PaintLeads'. -/
def paintLeadsCard : Claim7 := { stood := { row := paintLeadsRow, standIns := [], harness := (true, "9c648f5e5c67a950ff7aa41cf34e65b4955dfb9c7309d74311761620ad1573b4"), looks := true }, kinds := [], alts := [], laidByText := true, laidKinds := [.data, .data, .data, .data, .data, .data, .widerDeep, .widerDeep], laidTests := true, laidLooks := .later }
def PaintLeadsCardSaid : Prop := Claim7.holds Tryz.pinned (.plain (OpenSpec.ofChange paintLeadsSpec)) paintLeadsCard

/-- THE SECOND FORM's CARD OF 'fenestralaw27.PaintLeads'. -/
def paintLeadsUptoCard : Claim7 := { stood := { row := paintLeadsUptoRow, standIns := [], harness := (true, "9c648f5e5c67a950ff7aa41cf34e65b4955dfb9c7309d74311761620ad1573b4"), looks := true }, kinds := [], alts := [], laidByText := true, laidKinds := [.data, .data, .data, .data, .data, .data, .widerDeep, .widerDeep], laidTests := true, laidLooks := .later }
def PaintLeadsUptoCardSaid : Prop := Claim7.holds Tryz.pinned (.plain (OpenSpec.upto paintLeadsSpec)) paintLeadsUptoCard
end Rows
end Go.Proofs.YtfcdnnheppnbaaaGreatDoor
