import Derived.Test.YtinkdfnpmoljfaaGreatDoorRows
import Derived.JoinedCond
namespace Go.Proofs.YtinkdfnpmoljfaaGreatDoor
open Go
theorem shiftBack_inPlace : (Rows.shiftBackUptoRow.inPlace == Tryz.pinned.checked.prog.inPlace 8) = true := by kernel_rfl
theorem shiftBack_unfollowed : (Rows.shiftBackUptoRow.unfollowed == Tryz.pinned.checked.prog.unfollowed 8) = true := by kernel_rfl
theorem shiftBack_recurses : (Rows.shiftBackUptoRow.recurses == Tryz.pinned.checked.prog.recurses 8) = true := by kernel_rfl
theorem shiftBack_named : (Rows.shiftBackUptoRow.named == Tryz.pinned.checked.prog.varsNamed 8) = true := by kernel_rfl
theorem shiftBack_closed : joinedFacts Tryz.pinned.checked.prog 8 Tryz.f8 (Rows.OpenSpec.upto Rows.shiftBackSpec).bare Rows.shiftBackUptoRow = true := by
  unfold joinedFacts
  rw [shiftBack_inPlace, shiftBack_unfollowed, shiftBack_recurses, shiftBack_named]
  kernel_rfl
end Go.Proofs.YtinkdfnpmoljfaaGreatDoor

