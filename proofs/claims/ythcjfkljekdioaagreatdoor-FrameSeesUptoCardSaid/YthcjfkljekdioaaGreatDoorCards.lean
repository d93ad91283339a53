/-
  DERIVED. GIVEN WITH THE SEED: THE CARDS: each row of YthcjfkljekdioaaGreatDoorRows.lean that lists a variable, with what it lists TIED to the program's text (the seventh form; the later family's looks); each row that meets fmt, with fmt's text TOLD by the authors' own Lean function (tested against real Go, not proved from fmt's source: count such statements apart). THE CARD IS WHAT COUNTS. Prove the row's statement (the work); the ties are given (YthcjfkljekdioaaGreatDoorTie.lean); close each card by the builder's one call (the guide's Derived/Test/ToyasCard.lean, 'card_holds'). Laid BY PROGRAM, IN A SANDBOX (cutbox-door.mjs). By AI agents, Wed Nov 11 2026. No macro, syntax, notation, axiom, sorry.
-/
import Derived.Test.YthcjfkljekdioaaGreatDoorRows
import GoSem.ClaimSeven
namespace Go.Proofs.YthcjfkljekdioaaGreatDoor
namespace Rows

/-- THE TIED CARD OF 'fenestralaw23.FrameChecks'. -/
def frameChecksCard : Claim7 := { stood := { row := frameChecksRow, standIns := [], harness := (true, "c2a480c15ea72ce441dad9296e33ac476921794ab3ee063cffa505cca6d404e9"), looks := true }, kinds := [], alts := [], laidByText := true, laidKinds := [.data, .data, .data, .data, .data, .widerDeep, .widerDeep], laidTests := true, laidLooks := .later }
def FrameChecksCardSaid : Prop := Claim7.holds Tryz.pinned (.plain (OpenSpec.ofChange frameChecksSpec)) frameChecksCard

/-- THE TIED CARD OF 'fenestralaw23.FrameBlanks'. -/
def frameBlanksCard : Claim7 := { stood := { row := frameBlanksRow, standIns := [], harness := (true, "c2a480c15ea72ce441dad9296e33ac476921794ab3ee063cffa505cca6d404e9"), looks := true }, kinds := [], alts := [], laidByText := true, laidKinds := [.data, .data, .data, .data, .data, .widerDeep, .widerDeep], laidTests := true, laidLooks := .later }
def FrameBlanksCardSaid : Prop := Claim7.holds Tryz.pinned (.plain (OpenSpec.ofChange frameBlanksSpec)) frameBlanksCard

/-- THE TIED CARD OF 'fenestralaw23.FrameSees'. -/
def frameSeesCard : Claim7 := { stood := { row := frameSeesRow, standIns := [], harness := (true, "c2a480c15ea72ce441dad9296e33ac476921794ab3ee063cffa505cca6d404e9"), looks := true }, kinds := [], alts := [], laidByText := true, laidKinds := [.data, .data, .data, .data, .data, .widerDeep, .widerDeep], laidTests := true, laidLooks := .later }
def FrameSeesCardSaid : Prop := Claim7.holds Tryz.pinned (.plain (OpenSpec.ofChange frameSeesSpec)) frameSeesCard

/-- THE TIED CARD OF 'fenestralaw23.FrameShows'. -/
def frameShowsCard : Claim7 := { stood := { row := frameShowsRow, standIns := [], harness := (true, "c2a480c15ea72ce441dad9296e33ac476921794ab3ee063cffa505cca6d404e9"), looks := true }, kinds := [], alts := [], laidByText := true, laidKinds := [.data, .data, .data, .data, .data, .widerDeep, .widerDeep], laidTests := true, laidLooks := .later }
def FrameShowsCardSaid : Prop := Claim7.holds Tryz.pinned (.plain (OpenSpec.ofChange frameShowsSpec)) frameShowsCard

/-- THE TIED CARD OF 'fenestralaw23.FrameParts'. -/
def framePartsCard : Claim7 := { stood := { row := framePartsRow, standIns := [], harness := (true, "c2a480c15ea72ce441dad9296e33ac476921794ab3ee063cffa505cca6d404e9"), looks := true }, kinds := [], alts := [], laidByText := true, laidKinds := [.data, .data, .data, .data, .data, .widerDeep, .widerDeep], laidTests := true, laidLooks := .later }
def FramePartsCardSaid : Prop := Claim7.holds Tryz.pinned (.plain (OpenSpec.ofChange framePartsSpec)) framePartsCard

/-- THE TIED CARD OF 'fenestralaw23.FramePuts'. -/
def framePutsCard : Claim7 := { stood := { row := framePutsRow, standIns := [], harness := (true, "c2a480c15ea72ce441dad9296e33ac476921794ab3ee063cffa505cca6d404e9"), looks := true }, kinds := [], alts := [], laidByText := true, laidKinds := [.data, .data, .data, .data, .data, .widerDeep, .widerDeep], laidTests := true, laidLooks := .later }
def FramePutsCardSaid : Prop := Claim7.holds Tryz.pinned (.plain (OpenSpec.ofChange framePutsSpec)) framePutsCard

/-- THE TIED CARD OF 'fenestralaw23.FrameBack'. -/
def frameBackCard : Claim7 := { stood := { row := frameBackRow, standIns := [], harness := (true, "c2a480c15ea72ce441dad9296e33ac476921794ab3ee063cffa505cca6d404e9"), looks := true }, kinds := [], alts := [], laidByText := true, laidKinds := [.data, .data, .data, .data, .data, .widerDeep, .widerDeep], laidTests := true, laidLooks := .later }
def FrameBackCardSaid : Prop := Claim7.holds Tryz.pinned (.plain (OpenSpec.ofChange frameBackSpec)) frameBackCard

/-- THE TIED CARD OF 'fenestralaw23.FrameWithin'. -/
def frameWithinCard : Claim7 := { stood := { row := frameWithinRow, standIns := [], harness := (true, "c2a480c15ea72ce441dad9296e33ac476921794ab3ee063cffa505cca6d404e9"), looks := true }, kinds := [], alts := [], laidByText := true, laidKinds := [.data, .data, .data, .data, .data, .widerDeep, .widerDeep], laidTests := true, laidLooks := .later }
def FrameWithinCardSaid : Prop := Claim7.holds Tryz.pinned (.plain (OpenSpec.ofChange frameWithinSpec)) frameWithinCard

/-- THE TIED CARD OF 'fenestralaw23.FrameWhole'. -/
def frameWholeCard : Claim7 := { stood := { row := frameWholeRow, standIns := [], harness := (true, "c2a480c15ea72ce441dad9296e33ac476921794ab3ee063cffa505cca6d404e9"), looks := true }, kinds := [], alts := [], laidByText := true, laidKinds := [.data, .data, .data, .data, .data, .widerDeep, .widerDeep], laidTests := true, laidLooks := .later }
def FrameWholeCardSaid : Prop := Claim7.holds Tryz.pinned (.plain (OpenSpec.ofChange frameWholeSpec)) frameWholeCard

/-- THE SECOND FORM's CARD OF 'fenestralaw23.FrameChecks'. -/
def frameChecksUptoCard : Claim7 := { stood := { row := frameChecksUptoRow, standIns := [], harness := (true, "c2a480c15ea72ce441dad9296e33ac476921794ab3ee063cffa505cca6d404e9"), looks := true }, kinds := [], alts := [], laidByText := true, laidKinds := [.data, .data, .data, .data, .data, .widerDeep, .widerDeep], laidTests := true, laidLooks := .later }
def FrameChecksUptoCardSaid : Prop := Claim7.holds Tryz.pinned (.plain (OpenSpec.upto frameChecksSpec)) frameChecksUptoCard

/-- THE SECOND FORM's CARD OF 'fenestralaw23.FrameBlanks'. -/
def frameBlanksUptoCard : Claim7 := { stood := { row := frameBlanksUptoRow, standIns := [], harness := (true, "c2a480c15ea72ce441dad9296e33ac476921794ab3ee063cffa505cca6d404e9"), looks := true }, kinds := [], alts := [], laidByText := true, laidKinds := [.data, .data, .data, .data, .data, .widerDeep, .widerDeep], laidTests := true, laidLooks := .later }
def FrameBlanksUptoCardSaid : Prop := Claim7.holds Tryz.pinned (.plain (OpenSpec.upto frameBlanksSpec)) frameBlanksUptoCard

/-- THE SECOND FORM's CARD OF 'fenestralaw23.FrameSees'. -/
def frameSeesUptoCard : Claim7 := { stood := { row := frameSeesUptoRow, standIns := [], harness := (true, "c2a480c15ea72ce441dad9296e33ac476921794ab3ee063cffa505cca6d404e9"), looks := true }, kinds := [], alts := [], laidByText := true, laidKinds := [.data, .data, .data, .data, .data, .widerDeep, .widerDeep], laidTests := true, laidLooks := .later }
def FrameSeesUptoCardSaid : Prop := Claim7.holds Tryz.pinned (.plain (OpenSpec.upto frameSeesSpec)) frameSeesUptoCard

/-- THE SECOND FORM's CARD OF 'fenestralaw23.FrameShows'. -/
def frameShowsUptoCard : Claim7 := { stood := { row := frameShowsUptoRow, standIns := [], harness := (true, "c2a480c15ea72ce441dad9296e33ac476921794ab3ee063cffa505cca6d404e9"), looks := true }, kinds := [], alts := [], laidByText := true, laidKinds := [.data, .data, .data, .data, .data, .widerDeep, .widerDeep], laidTests := true, laidLooks := .later }
def FrameShowsUptoCardSaid : Prop := Claim7.holds Tryz.pinned (.plain (OpenSpec.upto frameShowsSpec)) frameShowsUptoCard

/-- THE SECOND FORM's CARD OF 'fenestralaw23.FrameParts'. -/
def framePartsUptoCard : Claim7 := { stood := { row := framePartsUptoRow, standIns := [], harness := (true, "c2a480c15ea72ce441dad9296e33ac476921794ab3ee063cffa505cca6d404e9"), looks := true }, kinds := [], alts := [], laidByText := true, laidKinds := [.data, .data, .data, .data, .data, .widerDeep, .widerDeep], laidTests := true, laidLooks := .later }
def FramePartsUptoCardSaid : Prop := Claim7.holds Tryz.pinned (.plain (OpenSpec.upto framePartsSpec)) framePartsUptoCard

/-- THE SECOND FORM's CARD OF 'fenestralaw23.FramePuts'. -/
def framePutsUptoCard : Claim7 := { stood := { row := framePutsUptoRow, standIns := [], harness := (true, "c2a480c15ea72ce441dad9296e33ac476921794ab3ee063cffa505cca6d404e9"), looks := true }, kinds := [], alts := [], laidByText := true, laidKinds := [.data, .data, .data, .data, .data, .widerDeep, .widerDeep], laidTests := true, laidLooks := .later }
def FramePutsUptoCardSaid : Prop := Claim7.holds Tryz.pinned (.plain (OpenSpec.upto framePutsSpec)) framePutsUptoCard

/-- THE SECOND FORM's CARD OF 'fenestralaw23.FrameBack'. -/
def frameBackUptoCard : Claim7 := { stood := { row := frameBackUptoRow, standIns := [], harness := (true, "c2a480c15ea72ce441dad9296e33ac476921794ab3ee063cffa505cca6d404e9"), looks := true }, kinds := [], alts := [], laidByText := true, laidKinds := [.data, .data, .data, .data, .data, .widerDeep, .widerDeep], laidTests := true, laidLooks := .later }
def FrameBackUptoCardSaid : Prop := Claim7.holds Tryz.pinned (.plain (OpenSpec.upto frameBackSpec)) frameBackUptoCard

/-- THE SECOND FORM's CARD OF 'fenestralaw23.FrameWithin'. -/
def frameWithinUptoCard : Claim7 := { stood := { row := frameWithinUptoRow, standIns := [], harness := (true, "c2a480c15ea72ce441dad9296e33ac476921794ab3ee063cffa505cca6d404e9"), looks := true }, kinds := [], alts := [], laidByText := true, laidKinds := [.data, .data, .data, .data, .data, .widerDeep, .widerDeep], laidTests := true, laidLooks := .later }
def FrameWithinUptoCardSaid : Prop := Claim7.holds Tryz.pinned (.plain (OpenSpec.upto frameWithinSpec)) frameWithinUptoCard

/-- THE SECOND FORM's CARD OF 'fenestralaw23.FrameWhole'. -/
def frameWholeUptoCard : Claim7 := { stood := { row := frameWholeUptoRow, standIns := [], harness := (true, "c2a480c15ea72ce441dad9296e33ac476921794ab3ee063cffa505cca6d404e9"), looks := true }, kinds := [], alts := [], laidByText := true, laidKinds := [.data, .data, .data, .data, .data, .widerDeep, .widerDeep], laidTests := true, laidLooks := .later }
def FrameWholeUptoCardSaid : Prop := Claim7.holds Tryz.pinned (.plain (OpenSpec.upto frameWholeSpec)) frameWholeUptoCard
end Rows
end Go.Proofs.YthcjfkljekdioaaGreatDoor
