import Derived.Test.YtkdgfkfbljdgmaaGreatDoorCards
import Derived.Test.YtkdgfkfbljdgmaaGreatDoorTie
import Derived.SevenTiedAt
namespace Go.Proofs.YtkdgfkfbljdgmaaGreatDoor
open Go
theorem B5g:false=Rows.shiftLeadsUptoRow.goesBy Tryz.pinned.checked.prog:=by kernel_rfl
end Go.Proofs.YtkdgfkfbljdgmaaGreatDoor
