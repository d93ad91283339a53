import Derived.Test.YtioaekgoceinkaaGreatDoorCards
import Derived.Test.YtioaekgoceinkaaGreatDoorTie
import Derived.SevenTiedAt
namespace Go.Proofs.YtioaekgoceinkaaGreatDoor
open Go
theorem C1i:false=Rows.motionLeadsRow.goesBy Tryz.pinned.checked.prog:=by kernel_rfl
end Go.Proofs.YtioaekgoceinkaaGreatDoor
