import Derived.Test.YthcjfkljekdioaaGreatDoorRows
import Derived.JoinedCond
namespace Go.Proofs.YthcjfkljekdioaaGreatDoor
open Go
theorem A7i:(Rows.frameBackUptoRow.inPlace == Tryz.pinned.checked.prog.inPlace 9)=true:=by kernel_rfl
theorem A4e:(Rows.frameBackUptoRow.unfollowed == Tryz.pinned.checked.prog.unfollowed 9)=true:=by kernel_rfl
theorem A6f:(Rows.frameBackUptoRow.recurses == Tryz.pinned.checked.prog.recurses 9)=true:=by kernel_rfl
theorem A9p:(Rows.frameBackUptoRow.named == Tryz.pinned.checked.prog.varsNamed 9)=true:=by kernel_rfl
theorem A8k:joinedFacts Tryz.pinned.checked.prog 9 Tryz.f9 (Rows.OpenSpec.upto Rows.frameBackSpec).bare Rows.frameBackUptoRow=true:=by
 unfold joinedFacts
 rw [A7i,A4e,A6f,A9p]
 kernel_rfl
end Go.Proofs.YthcjfkljekdioaaGreatDoor
