import Derived.Test.YthcjfkljekdioaaGreatDoorCards
import Derived.Test.YthcjfkljekdioaaGreatDoorTie
import Derived.SevenTiedAt
namespace Go.Proofs.YthcjfkljekdioaaGreatDoor
open Go
theorem A9b:false=Rows.frameWithinUptoRow.goesBy Tryz.pinned.checked.prog:=by kernel_rfl
end Go.Proofs.YthcjfkljekdioaaGreatDoor
