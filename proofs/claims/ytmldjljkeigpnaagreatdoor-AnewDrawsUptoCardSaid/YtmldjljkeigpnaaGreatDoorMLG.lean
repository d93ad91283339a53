import Derived.Test.YtmldjljkeigpnaaGreatDoorCards
import Derived.Test.YtmldjljkeigpnaaGreatDoorTie
import Derived.SevenTiedAt
set_option linter.unusedVariables false
set_option linter.unusedSimpArgs false
set_option linter.unnecessarySimpa false
set_option maxRecDepth 100000
namespace Go.Proofs.YtmldjljkeigpnaaGreatDoor
open Go
theorem da:false=Rows.anewDrawsUptoRow.goesBy Tryz.pinned.checked.prog:=by kernel_rfl
end Go.Proofs.YtmldjljkeigpnaaGreatDoor
