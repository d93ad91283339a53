import Derived.Test.YthcjfkljekdioaaGreatDoorRows
import Derived.JoinedCond
namespace Go.Proofs.YthcjfkljekdioaaGreatDoor
open Go
theorem B0t:(Rows.frameShowsUptoRow.inPlace == Tryz.pinned.checked.prog.inPlace 6)=true:=by kernel_rfl
theorem A8i:(Rows.frameShowsUptoRow.unfollowed == Tryz.pinned.checked.prog.unfollowed 6)=true:=by kernel_rfl
theorem B0d:(Rows.frameShowsUptoRow.recurses == Tryz.pinned.checked.prog.recurses 6)=true:=by kernel_rfl
theorem B3l:(Rows.frameShowsUptoRow.named == Tryz.pinned.checked.prog.varsNamed 6)=true:=by kernel_rfl
theorem B2m:joinedFacts Tryz.pinned.checked.prog 6 Tryz.f6 (Rows.OpenSpec.upto Rows.frameShowsSpec).bare Rows.frameShowsUptoRow=true:=by
 unfold joinedFacts
 rw [B0t,A8i,B0d,B3l]
 kernel_rfl
end Go.Proofs.YthcjfkljekdioaaGreatDoor
