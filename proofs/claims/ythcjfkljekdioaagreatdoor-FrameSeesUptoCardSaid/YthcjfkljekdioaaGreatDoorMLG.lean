import Derived.Test.YthcjfkljekdioaaGreatDoorCards
import Derived.Test.YthcjfkljekdioaaGreatDoorTie
import Derived.SevenTiedAt
namespace Go.Proofs.YthcjfkljekdioaaGreatDoor
open Go
theorem B6i:false=Rows.frameSeesUptoRow.goesBy Tryz.pinned.checked.prog:=by kernel_rfl
end Go.Proofs.YthcjfkljekdioaaGreatDoor
