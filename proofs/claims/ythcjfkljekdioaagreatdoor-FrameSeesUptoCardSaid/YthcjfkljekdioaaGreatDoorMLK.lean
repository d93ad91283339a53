import Derived.Test.YthcjfkljekdioaaGreatDoorRows
import Derived.JoinedCond
namespace Go.Proofs.YthcjfkljekdioaaGreatDoor
open Go
theorem B2v:(Rows.frameSeesUptoRow.inPlace == Tryz.pinned.checked.prog.inPlace 5)=true:=by kernel_rfl
theorem A9o:(Rows.frameSeesUptoRow.unfollowed == Tryz.pinned.checked.prog.unfollowed 5)=true:=by kernel_rfl
theorem B1v:(Rows.frameSeesUptoRow.recurses == Tryz.pinned.checked.prog.recurses 5)=true:=by kernel_rfl
theorem B5p:(Rows.frameSeesUptoRow.named == Tryz.pinned.checked.prog.varsNamed 5)=true:=by kernel_rfl
theorem B4d:joinedFacts Tryz.pinned.checked.prog 5 Tryz.f5 (Rows.OpenSpec.upto Rows.frameSeesSpec).bare Rows.frameSeesUptoRow=true:=by
 unfold joinedFacts
 rw [B2v,A9o,B1v,B5p]
 kernel_rfl
end Go.Proofs.YthcjfkljekdioaaGreatDoor
