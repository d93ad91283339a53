import Derived.Test.YtlcaphkcfmlljaaGreatDoorRows
import Derived.JoinedCond
namespace Go.Proofs.YtlcaphkcfmlljaaGreatDoor
open Go
theorem damageLeads_inPlace : (Rows.damageLeadsUptoRow.inPlace == Tryz.pinned.checked.prog.inPlace 13) = true := by kernel_rfl
theorem damageLeads_unfollowed : (Rows.damageLeadsUptoRow.unfollowed == Tryz.pinned.checked.prog.unfollowed 13) = true := by kernel_rfl
theorem damageLeads_recurses : (Rows.damageLeadsUptoRow.recurses == Tryz.pinned.checked.prog.recurses 13) = true := by kernel_rfl
theorem damageLeads_named : (Rows.damageLeadsUptoRow.named == Tryz.pinned.checked.prog.varsNamed 13) = true := by kernel_rfl
theorem damageLeads_closed : joinedFacts Tryz.pinned.checked.prog 13 Tryz.f13 (Rows.OpenSpec.upto Rows.damageLeadsSpec).bare Rows.damageLeadsUptoRow = true := by
  unfold joinedFacts
  rw [damageLeads_inPlace, damageLeads_unfollowed, damageLeads_recurses, damageLeads_named]
  kernel_rfl
end Go.Proofs.YtlcaphkcfmlljaaGreatDoor
