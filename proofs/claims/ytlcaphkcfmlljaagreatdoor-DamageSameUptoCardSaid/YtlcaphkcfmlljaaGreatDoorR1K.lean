import Derived.Test.YtlcaphkcfmlljaaGreatDoorRows
import Derived.JoinedCond
namespace Go.Proofs.YtlcaphkcfmlljaaGreatDoor
open Go
theorem damageSame_inPlace : (Rows.damageSameUptoRow.inPlace == Tryz.pinned.checked.prog.inPlace 14) = true := by kernel_rfl
theorem damageSame_unfollowed : (Rows.damageSameUptoRow.unfollowed == Tryz.pinned.checked.prog.unfollowed 14) = true := by kernel_rfl
theorem damageSame_recurses : (Rows.damageSameUptoRow.recurses == Tryz.pinned.checked.prog.recurses 14) = true := by kernel_rfl
theorem damageSame_named : (Rows.damageSameUptoRow.named == Tryz.pinned.checked.prog.varsNamed 14) = true := by kernel_rfl
theorem damageSame_closed : joinedFacts Tryz.pinned.checked.prog 14 Tryz.f14 (Rows.OpenSpec.upto Rows.damageSameSpec).bare Rows.damageSameUptoRow = true := by
  unfold joinedFacts
  rw [damageSame_inPlace, damageSame_unfollowed, damageSame_recurses, damageSame_named]
  kernel_rfl
end Go.Proofs.YtlcaphkcfmlljaaGreatDoor
