import Derived.Test.YthcjfkljekdioaaGreatDoorRows
import Derived.JoinedCond
namespace Go.Proofs.YthcjfkljekdioaaGreatDoor
open Go
theorem A9d:(Rows.frameChecksUptoRow.inPlace == Tryz.pinned.checked.prog.inPlace 3)=true:=by kernel_rfl
theorem A6s:(Rows.frameChecksUptoRow.unfollowed == Tryz.pinned.checked.prog.unfollowed 3)=true:=by kernel_rfl
theorem A7u:(Rows.frameChecksUptoRow.recurses == Tryz.pinned.checked.prog.recurses 3)=true:=by kernel_rfl
theorem B0g:(Rows.frameChecksUptoRow.named == Tryz.pinned.checked.prog.varsNamed 3)=true:=by kernel_rfl
theorem A9y:joinedFacts Tryz.pinned.checked.prog 3 Tryz.f3 (Rows.OpenSpec.upto Rows.frameChecksSpec).bare Rows.frameChecksUptoRow=true:=by
 unfold joinedFacts
 rw [A9d,A6s,A7u,B0g]
 kernel_rfl
end Go.Proofs.YthcjfkljekdioaaGreatDoor
