import Derived.Test.YtlcaphkcfmlljaaGreatDoorRows
import Derived.JoinedCond
namespace Go.Proofs.YtlcaphkcfmlljaaGreatDoor
open Go
theorem damageJoins_inPlace : (Rows.damageJoinsRow.inPlace == Tryz.pinned.checked.prog.inPlace 9) = true := by kernel_rfl
theorem damageJoins_unfollowed : (Rows.damageJoinsRow.unfollowed == Tryz.pinned.checked.prog.unfollowed 9) = true := by kernel_rfl
theorem damageJoins_recurses : (Rows.damageJoinsRow.recurses == Tryz.pinned.checked.prog.recurses 9) = true := by kernel_rfl
theorem damageJoins_named : (Rows.damageJoinsRow.named == Tryz.pinned.checked.prog.varsNamed 9) = true := by kernel_rfl
theorem damageJoins_closed : joinedFacts Tryz.pinned.checked.prog 9 Tryz.f9 (OpenSpec.ofChange Rows.damageJoinsSpec).bare Rows.damageJoinsRow = true := by
  unfold joinedFacts
  rw [damageJoins_inPlace, damageJoins_unfollowed, damageJoins_recurses, damageJoins_named]
  kernel_rfl
end Go.Proofs.YtlcaphkcfmlljaaGreatDoor
