import Derived.Test.YtinkdfnpmoljfaaGreatDoorRows
import Derived.JoinedCond
namespace Go.Proofs.YtinkdfnpmoljfaaGreatDoor
open Go
theorem shiftBest_inPlace : (Rows.shiftBestUptoRow.inPlace == Tryz.pinned.checked.prog.inPlace 10) = true := by kernel_rfl
theorem shiftBest_unfollowed : (Rows.shiftBestUptoRow.unfollowed == Tryz.pinned.checked.prog.unfollowed 10) = true := by kernel_rfl
theorem shiftBest_recurses : (Rows.shiftBestUptoRow.recurses == Tryz.pinned.checked.prog.recurses 10) = true := by kernel_rfl
theorem shiftBest_named : (Rows.shiftBestUptoRow.named == Tryz.pinned.checked.prog.varsNamed 10) = true := by kernel_rfl
theorem shiftBest_closed : joinedFacts Tryz.pinned.checked.prog 10 Tryz.f10 (Rows.OpenSpec.upto Rows.shiftBestSpec).bare Rows.shiftBestUptoRow = true := by
  unfold joinedFacts
  rw [shiftBest_inPlace, shiftBest_unfollowed, shiftBest_recurses, shiftBest_named]
  kernel_rfl
end Go.Proofs.YtinkdfnpmoljfaaGreatDoor

