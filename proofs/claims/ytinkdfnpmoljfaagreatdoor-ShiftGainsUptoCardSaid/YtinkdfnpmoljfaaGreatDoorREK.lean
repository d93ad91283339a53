import Derived.Test.YtinkdfnpmoljfaaGreatDoorRows
import Derived.JoinedCond
namespace Go.Proofs.YtinkdfnpmoljfaaGreatDoor
open Go
theorem shiftGains_inPlace : (Rows.shiftGainsUptoRow.inPlace == Tryz.pinned.checked.prog.inPlace 9) = true := by kernel_rfl
theorem shiftGains_unfollowed : (Rows.shiftGainsUptoRow.unfollowed == Tryz.pinned.checked.prog.unfollowed 9) = true := by kernel_rfl
theorem shiftGains_recurses : (Rows.shiftGainsUptoRow.recurses == Tryz.pinned.checked.prog.recurses 9) = true := by kernel_rfl
theorem shiftGains_named : (Rows.shiftGainsUptoRow.named == Tryz.pinned.checked.prog.varsNamed 9) = true := by kernel_rfl
theorem shiftGains_closed : joinedFacts Tryz.pinned.checked.prog 9 Tryz.f9 (Rows.OpenSpec.upto Rows.shiftGainsSpec).bare Rows.shiftGainsUptoRow = true := by
 unfold joinedFacts
 rw [shiftGains_inPlace, shiftGains_unfollowed, shiftGains_recurses, shiftGains_named]
 kernel_rfl
end Go.Proofs.YtinkdfnpmoljfaaGreatDoor

