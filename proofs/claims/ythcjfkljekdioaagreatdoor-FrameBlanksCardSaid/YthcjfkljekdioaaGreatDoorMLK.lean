import Derived.Test.YthcjfkljekdioaaGreatDoorRows
import Derived.JoinedCond
namespace Go.Proofs.YthcjfkljekdioaaGreatDoor
open Go
theorem A5u:(Rows.frameBlanksRow.inPlace == Tryz.pinned.checked.prog.inPlace 4)=true:=by kernel_rfl
theorem A3t:(Rows.frameBlanksRow.unfollowed == Tryz.pinned.checked.prog.unfollowed 4)=true:=by kernel_rfl
theorem A4x:(Rows.frameBlanksRow.recurses == Tryz.pinned.checked.prog.recurses 4)=true:=by kernel_rfl
theorem A7p:(Rows.frameBlanksRow.named == Tryz.pinned.checked.prog.varsNamed 4)=true:=by kernel_rfl
theorem A6i:joinedFacts Tryz.pinned.checked.prog 4 Tryz.f4 (OpenSpec.ofChange Rows.frameBlanksSpec).bare Rows.frameBlanksRow=true:=by
 unfold joinedFacts
 rw [A5u,A3t,A4x,A7p]
 kernel_rfl
end Go.Proofs.YthcjfkljekdioaaGreatDoor
