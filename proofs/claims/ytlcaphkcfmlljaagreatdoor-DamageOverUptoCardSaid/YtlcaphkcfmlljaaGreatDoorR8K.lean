import Derived.Test.YtlcaphkcfmlljaaGreatDoorRows
import Derived.JoinedCond
namespace Go.Proofs.YtlcaphkcfmlljaaGreatDoor
open Go
theorem damageOver_inPlace : (Rows.damageOverUptoRow.inPlace == Tryz.pinned.checked.prog.inPlace 10) = true := by kernel_rfl
theorem damageOver_unfollowed : (Rows.damageOverUptoRow.unfollowed == Tryz.pinned.checked.prog.unfollowed 10) = true := by kernel_rfl
theorem damageOver_recurses : (Rows.damageOverUptoRow.recurses == Tryz.pinned.checked.prog.recurses 10) = true := by kernel_rfl
theorem damageOver_named : (Rows.damageOverUptoRow.named == Tryz.pinned.checked.prog.varsNamed 10) = true := by kernel_rfl
theorem damageOver_closed : joinedFacts Tryz.pinned.checked.prog 10 Tryz.f10 (Rows.OpenSpec.upto Rows.damageOverSpec).bare Rows.damageOverUptoRow = true := by
  unfold joinedFacts
  rw [damageOver_inPlace, damageOver_unfollowed, damageOver_recurses, damageOver_named]
  kernel_rfl
end Go.Proofs.YtlcaphkcfmlljaaGreatDoor

