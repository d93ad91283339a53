import Derived.Test.YtinkdfnpmoljfaaGreatDoorRows
import Derived.JoinedCond
namespace Go.Proofs.YtinkdfnpmoljfaaGreatDoor
open Go
theorem penChanges_inPlace : (Rows.penChangesRow.inPlace == Tryz.pinned.checked.prog.inPlace 12) = true := by kernel_rfl
theorem penChanges_unfollowed : (Rows.penChangesRow.unfollowed == Tryz.pinned.checked.prog.unfollowed 12) = true := by kernel_rfl
theorem penChanges_recurses : (Rows.penChangesRow.recurses == Tryz.pinned.checked.prog.recurses 12) = true := by kernel_rfl
theorem penChanges_named : (Rows.penChangesRow.named == Tryz.pinned.checked.prog.varsNamed 12) = true := by kernel_rfl
theorem penChanges_closed : joinedFacts Tryz.pinned.checked.prog 12 Tryz.f12 (OpenSpec.ofChange Rows.penChangesSpec).bare Rows.penChangesRow = true := by
 unfold joinedFacts
 rw [penChanges_inPlace, penChanges_unfollowed, penChanges_recurses, penChanges_named]
 kernel_rfl
end Go.Proofs.YtinkdfnpmoljfaaGreatDoor

