import Derived.Test.YthcjfkljekdioaaGreatDoorRows
import Derived.JoinedCond
namespace Go.Proofs.YthcjfkljekdioaaGreatDoor
open Go
theorem B0g:(Rows.framePartsUptoRow.inPlace == Tryz.pinned.checked.prog.inPlace 7)=true:=by kernel_rfl
theorem A7t:(Rows.framePartsUptoRow.unfollowed == Tryz.pinned.checked.prog.unfollowed 7)=true:=by kernel_rfl
theorem A9i:(Rows.framePartsUptoRow.recurses == Tryz.pinned.checked.prog.recurses 7)=true:=by kernel_rfl
theorem B2v:(Rows.framePartsUptoRow.named == Tryz.pinned.checked.prog.varsNamed 7)=true:=by kernel_rfl
theorem B2a:joinedFacts Tryz.pinned.checked.prog 7 Tryz.f7 (Rows.OpenSpec.upto Rows.framePartsSpec).bare Rows.framePartsUptoRow=true:=by
 unfold joinedFacts
 rw [B0g,A7t,A9i,B2v]
 kernel_rfl
end Go.Proofs.YthcjfkljekdioaaGreatDoor
