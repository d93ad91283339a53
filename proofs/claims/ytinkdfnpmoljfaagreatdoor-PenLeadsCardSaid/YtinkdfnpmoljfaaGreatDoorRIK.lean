import Derived.Test.YtinkdfnpmoljfaaGreatDoorRows
import Derived.JoinedCond
namespace Go.Proofs.YtinkdfnpmoljfaaGreatDoor
open Go
theorem penLeads_inPlace : (Rows.penLeadsRow.inPlace == Tryz.pinned.checked.prog.inPlace 14) = true := by kernel_rfl
theorem penLeads_unfollowed : (Rows.penLeadsRow.unfollowed == Tryz.pinned.checked.prog.unfollowed 14) = true := by kernel_rfl
theorem penLeads_recurses : (Rows.penLeadsRow.recurses == Tryz.pinned.checked.prog.recurses 14) = true := by kernel_rfl
theorem penLeads_named : (Rows.penLeadsRow.named == Tryz.pinned.checked.prog.varsNamed 14) = true := by kernel_rfl
theorem penLeads_closed : joinedFacts Tryz.pinned.checked.prog 14 Tryz.f14 (OpenSpec.ofChange Rows.penLeadsSpec).bare Rows.penLeadsRow = true := by
 unfold joinedFacts
 rw [penLeads_inPlace, penLeads_unfollowed, penLeads_recurses, penLeads_named]
 kernel_rfl
end Go.Proofs.YtinkdfnpmoljfaaGreatDoor

