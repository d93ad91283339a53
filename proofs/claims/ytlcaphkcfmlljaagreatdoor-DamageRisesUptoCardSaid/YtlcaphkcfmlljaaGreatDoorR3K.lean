import Derived.Test.YtlcaphkcfmlljaaGreatDoorRows
import Derived.JoinedCond
namespace Go.Proofs.YtlcaphkcfmlljaaGreatDoor
open Go
theorem damageRises_inPlace : (Rows.damageRisesUptoRow.inPlace == Tryz.pinned.checked.prog.inPlace 11) = true := by kernel_rfl
theorem damageRises_unfollowed : (Rows.damageRisesUptoRow.unfollowed == Tryz.pinned.checked.prog.unfollowed 11) = true := by kernel_rfl
theorem damageRises_recurses : (Rows.damageRisesUptoRow.recurses == Tryz.pinned.checked.prog.recurses 11) = true := by kernel_rfl
theorem damageRises_named : (Rows.damageRisesUptoRow.named == Tryz.pinned.checked.prog.varsNamed 11) = true := by kernel_rfl
theorem damageRises_closed : joinedFacts Tryz.pinned.checked.prog 11 Tryz.f11 (Rows.OpenSpec.upto Rows.damageRisesSpec).bare Rows.damageRisesUptoRow = true := by
  unfold joinedFacts
  rw [damageRises_inPlace, damageRises_unfollowed, damageRises_recurses, damageRises_named]
  kernel_rfl
end Go.Proofs.YtlcaphkcfmlljaaGreatDoor
