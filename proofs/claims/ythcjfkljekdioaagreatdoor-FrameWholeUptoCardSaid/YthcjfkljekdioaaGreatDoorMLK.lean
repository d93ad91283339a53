import Derived.Test.YthcjfkljekdioaaGreatDoorRows
import Derived.JoinedCond
namespace Go.Proofs.YthcjfkljekdioaaGreatDoor
open Go
theorem A6r:(Rows.frameWholeUptoRow.inPlace == Tryz.pinned.checked.prog.inPlace 11)=true:=by kernel_rfl
theorem A4o:(Rows.frameWholeUptoRow.unfollowed == Tryz.pinned.checked.prog.unfollowed 11)=true:=by kernel_rfl
theorem A6b:(Rows.frameWholeUptoRow.recurses == Tryz.pinned.checked.prog.recurses 11)=true:=by kernel_rfl
theorem A8n:(Rows.frameWholeUptoRow.named == Tryz.pinned.checked.prog.varsNamed 11)=true:=by kernel_rfl
theorem A8e:joinedFacts Tryz.pinned.checked.prog 11 Tryz.f11 (Rows.OpenSpec.upto Rows.frameWholeSpec).bare Rows.frameWholeUptoRow=true:=by
 unfold joinedFacts
 rw [A6r,A4o,A6b,A8n]
 kernel_rfl
end Go.Proofs.YthcjfkljekdioaaGreatDoor
