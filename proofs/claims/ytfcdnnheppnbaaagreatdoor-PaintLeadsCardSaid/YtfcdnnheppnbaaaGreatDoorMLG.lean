import Derived.Test.YtfcdnnheppnbaaaGreatDoorCards
import Derived.Test.YtfcdnnheppnbaaaGreatDoorTie
import Derived.SevenTiedAt
set_option linter.unusedVariables false
set_option linter.unusedSimpArgs false
set_option linter.unnecessarySimpa false
set_option maxRecDepth 100000
namespace Go.Proofs.YtfcdnnheppnbaaaGreatDoor
open Go
theorem C7v:false=Rows.paintLeadsRow.goesBy Tryz.pinned.checked.prog:=by kernel_rfl
end Go.Proofs.YtfcdnnheppnbaaaGreatDoor
