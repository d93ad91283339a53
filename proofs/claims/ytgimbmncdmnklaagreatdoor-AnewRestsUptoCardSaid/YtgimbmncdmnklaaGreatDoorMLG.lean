import Derived.Test.YtgimbmncdmnklaaGreatDoorCards
import Derived.Test.YtgimbmncdmnklaaGreatDoorTie
import Derived.SevenTiedAt
set_option linter.unusedVariables false
set_option linter.unusedSimpArgs false
set_option linter.unnecessarySimpa false
set_option maxRecDepth 100000
namespace Go.Proofs.YtgimbmncdmnklaaGreatDoor
open Go
theorem C8r:false=Rows.anewRestsUptoRow.goesBy Tryz.pinned.checked.prog:=by kernel_rfl
end Go.Proofs.YtgimbmncdmnklaaGreatDoor
