import Derived.Test.YtinkdfnpmoljfaaGreatDoorRows
import Derived.JoinedCond
namespace Go.Proofs.YtinkdfnpmoljfaaGreatDoor
open Go
theorem shiftDoes_inPlace : (Rows.shiftDoesUptoRow.inPlace == Tryz.pinned.checked.prog.inPlace 7) = true := by kernel_rfl
theorem shiftDoes_unfollowed : (Rows.shiftDoesUptoRow.unfollowed == Tryz.pinned.checked.prog.unfollowed 7) = true := by kernel_rfl
theorem shiftDoes_recurses : (Rows.shiftDoesUptoRow.recurses == Tryz.pinned.checked.prog.recurses 7) = true := by kernel_rfl
theorem shiftDoes_named : (Rows.shiftDoesUptoRow.named == Tryz.pinned.checked.prog.varsNamed 7) = true := by kernel_rfl
theorem shiftDoes_closed : joinedFacts Tryz.pinned.checked.prog 7 Tryz.f7 (Rows.OpenSpec.upto Rows.shiftDoesSpec).bare Rows.shiftDoesUptoRow = true := by
  unfold joinedFacts
  rw [shiftDoes_inPlace, shiftDoes_unfollowed, shiftDoes_recurses, shiftDoes_named]
  kernel_rfl
end Go.Proofs.YtinkdfnpmoljfaaGreatDoor

