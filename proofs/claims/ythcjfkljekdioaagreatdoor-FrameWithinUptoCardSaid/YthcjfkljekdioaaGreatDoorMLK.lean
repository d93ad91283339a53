import Derived.Test.YthcjfkljekdioaaGreatDoorRows
import Derived.JoinedCond
namespace Go.Proofs.YthcjfkljekdioaaGreatDoor
open Go
theorem A5y:(Rows.frameWithinUptoRow.inPlace == Tryz.pinned.checked.prog.inPlace 10)=true:=by kernel_rfl
theorem A4c:(Rows.frameWithinUptoRow.unfollowed == Tryz.pinned.checked.prog.unfollowed 10)=true:=by kernel_rfl
theorem A5l:(Rows.frameWithinUptoRow.recurses == Tryz.pinned.checked.prog.recurses 10)=true:=by kernel_rfl
theorem A7x:(Rows.frameWithinUptoRow.named == Tryz.pinned.checked.prog.varsNamed 10)=true:=by kernel_rfl
theorem A6n:joinedFacts Tryz.pinned.checked.prog 10 Tryz.f10 (Rows.OpenSpec.upto Rows.frameWithinSpec).bare Rows.frameWithinUptoRow=true:=by
 unfold joinedFacts
 rw [A5y,A4c,A5l,A7x]
 kernel_rfl
end Go.Proofs.YthcjfkljekdioaaGreatDoor
