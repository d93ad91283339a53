import Derived.Test.YtinkdfnpmoljfaaGreatDoorRows
import Derived.JoinedCond
namespace Go.Proofs.YtinkdfnpmoljfaaGreatDoor
open Go
theorem penLeast_inPlace : (Rows.penLeastRow.inPlace == Tryz.pinned.checked.prog.inPlace 13) = true := by kernel_rfl
theorem penLeast_unfollowed : (Rows.penLeastRow.unfollowed == Tryz.pinned.checked.prog.unfollowed 13) = true := by kernel_rfl
theorem penLeast_recurses : (Rows.penLeastRow.recurses == Tryz.pinned.checked.prog.recurses 13) = true := by kernel_rfl
theorem penLeast_named : (Rows.penLeastRow.named == Tryz.pinned.checked.prog.varsNamed 13) = true := by kernel_rfl
theorem penLeast_closed : joinedFacts Tryz.pinned.checked.prog 13 Tryz.f13 (OpenSpec.ofChange Rows.penLeastSpec).bare Rows.penLeastRow = true := by
 unfold joinedFacts
 rw [penLeast_inPlace, penLeast_unfollowed, penLeast_recurses, penLeast_named]
 kernel_rfl
end Go.Proofs.YtinkdfnpmoljfaaGreatDoor

