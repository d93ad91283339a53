import Derived.Test.YtlcaphkcfmlljaaGreatDoorRows
import Derived.JoinedCond
namespace Go.Proofs.YtlcaphkcfmlljaaGreatDoor
open Go
theorem damageSpans_inPlace : (Rows.damageSpansUptoRow.inPlace == Tryz.pinned.checked.prog.inPlace 8) = true := by kernel_rfl
theorem damageSpans_unfollowed : (Rows.damageSpansUptoRow.unfollowed == Tryz.pinned.checked.prog.unfollowed 8) = true := by kernel_rfl
theorem damageSpans_recurses : (Rows.damageSpansUptoRow.recurses == Tryz.pinned.checked.prog.recurses 8) = true := by kernel_rfl
theorem damageSpans_named : (Rows.damageSpansUptoRow.named == Tryz.pinned.checked.prog.varsNamed 8) = true := by kernel_rfl
theorem damageSpans_closed : joinedFacts Tryz.pinned.checked.prog 8 Tryz.f8 (Rows.OpenSpec.upto Rows.damageSpansSpec).bare Rows.damageSpansUptoRow = true := by
  unfold joinedFacts
  rw [damageSpans_inPlace, damageSpans_unfollowed, damageSpans_recurses, damageSpans_named]
  kernel_rfl
end Go.Proofs.YtlcaphkcfmlljaaGreatDoor

