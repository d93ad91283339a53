import Derived.Test.YtlcaphkcfmlljaaGreatDoorRows
import Derived.JoinedCond
namespace Go.Proofs.YtlcaphkcfmlljaaGreatDoor
open Go
theorem damageTriangle_inPlace : (Rows.damageTriangleUptoRow.inPlace == Tryz.pinned.checked.prog.inPlace 12) = true := by kernel_rfl
theorem damageTriangle_unfollowed : (Rows.damageTriangleUptoRow.unfollowed == Tryz.pinned.checked.prog.unfollowed 12) = true := by kernel_rfl
theorem damageTriangle_recurses : (Rows.damageTriangleUptoRow.recurses == Tryz.pinned.checked.prog.recurses 12) = true := by kernel_rfl
theorem damageTriangle_named : (Rows.damageTriangleUptoRow.named == Tryz.pinned.checked.prog.varsNamed 12) = true := by kernel_rfl
theorem damageTriangle_closed : joinedFacts Tryz.pinned.checked.prog 12 Tryz.f12 (Rows.OpenSpec.upto Rows.damageTriangleSpec).bare Rows.damageTriangleUptoRow = true := by
  unfold joinedFacts
  rw [damageTriangle_inPlace, damageTriangle_unfollowed, damageTriangle_recurses, damageTriangle_named]
  kernel_rfl
end Go.Proofs.YtlcaphkcfmlljaaGreatDoor
