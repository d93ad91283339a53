import Derived.Test.YtkdgfkfbljdgmaaGreatDoorRows
import Derived.JoinedCond
namespace Go.Proofs.YtkdgfkfbljdgmaaGreatDoor
open Go
theorem B0z:(Rows.shiftLeadsUptoRow.inPlace == Tryz.pinned.checked.prog.inPlace 3)=true:=by kernel_rfl
theorem A8o:(Rows.shiftLeadsUptoRow.unfollowed == Tryz.pinned.checked.prog.unfollowed 3)=true:=by kernel_rfl
theorem A9y:(Rows.shiftLeadsUptoRow.recurses == Tryz.pinned.checked.prog.recurses 3)=true:=by kernel_rfl
theorem B2y:(Rows.shiftLeadsUptoRow.named == Tryz.pinned.checked.prog.varsNamed 3)=true:=by kernel_rfl
theorem B1q:joinedFacts Tryz.pinned.checked.prog 3 Tryz.f3 (Rows.OpenSpec.upto Rows.shiftLeadsSpec).bare Rows.shiftLeadsUptoRow=true:=by
 unfold joinedFacts
 rw [B0z,A8o,A9y,B2y]
 kernel_rfl
end Go.Proofs.YtkdgfkfbljdgmaaGreatDoor
