import Derived.Test.YtinkdfnpmoljfaaGreatDoorRows
import Derived.JoinedCond
namespace Go.Proofs.YtinkdfnpmoljfaaGreatDoor
open Go
theorem penSteps_inPlace : (Rows.penStepsRow.inPlace == Tryz.pinned.checked.prog.inPlace 11) = true := by kernel_rfl
theorem penSteps_unfollowed : (Rows.penStepsRow.unfollowed == Tryz.pinned.checked.prog.unfollowed 11) = true := by kernel_rfl
theorem penSteps_recurses : (Rows.penStepsRow.recurses == Tryz.pinned.checked.prog.recurses 11) = true := by kernel_rfl
theorem penSteps_named : (Rows.penStepsRow.named == Tryz.pinned.checked.prog.varsNamed 11) = true := by kernel_rfl
theorem penSteps_closed : joinedFacts Tryz.pinned.checked.prog 11 Tryz.f11 (OpenSpec.ofChange Rows.penStepsSpec).bare Rows.penStepsRow = true := by
 unfold joinedFacts
 rw [penSteps_inPlace, penSteps_unfollowed, penSteps_recurses, penSteps_named]
 kernel_rfl
end Go.Proofs.YtinkdfnpmoljfaaGreatDoor

