import Derived.Test.YthcjfkljekdioaaGreatDoorRows
import Derived.JoinedCond
namespace Go.Proofs.YthcjfkljekdioaaGreatDoor
open Go
theorem B2f:(Rows.framePutsUptoRow.inPlace == Tryz.pinned.checked.prog.inPlace 8)=true:=by kernel_rfl
theorem A8f:(Rows.framePutsUptoRow.unfollowed == Tryz.pinned.checked.prog.unfollowed 8)=true:=by kernel_rfl
theorem B0c:(Rows.framePutsUptoRow.recurses == Tryz.pinned.checked.prog.recurses 8)=true:=by kernel_rfl
theorem B4l:(Rows.framePutsUptoRow.named == Tryz.pinned.checked.prog.varsNamed 8)=true:=by kernel_rfl
theorem B2m:joinedFacts Tryz.pinned.checked.prog 8 Tryz.f8 (Rows.OpenSpec.upto Rows.framePutsSpec).bare Rows.framePutsUptoRow=true:=by
 unfold joinedFacts
 rw [B2f,A8f,B0c,B4l]
 kernel_rfl
end Go.Proofs.YthcjfkljekdioaaGreatDoor
