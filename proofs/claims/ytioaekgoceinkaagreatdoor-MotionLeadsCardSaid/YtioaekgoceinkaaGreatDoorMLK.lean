import Derived.Test.YtioaekgoceinkaaGreatDoorRows
import Derived.JoinedCond
namespace Go.Proofs.YtioaekgoceinkaaGreatDoor
open Go
theorem B6l:(Rows.motionLeadsRow.inPlace == Tryz.pinned.checked.prog.inPlace 3)=true:=by kernel_rfl
theorem B3m:(Rows.motionLeadsRow.unfollowed == Tryz.pinned.checked.prog.unfollowed 3)=true:=by kernel_rfl
theorem B4s:(Rows.motionLeadsRow.recurses == Tryz.pinned.checked.prog.recurses 3)=true:=by kernel_rfl
theorem B8o:(Rows.motionLeadsRow.named == Tryz.pinned.checked.prog.varsNamed 3)=true:=by kernel_rfl
theorem B8d:joinedFacts Tryz.pinned.checked.prog 3 Tryz.f3 (OpenSpec.ofChange Rows.motionLeadsSpec).bare Rows.motionLeadsRow=true:=by
 unfold joinedFacts
 rw [B6l,B3m,B4s,B8o]
 kernel_rfl
end Go.Proofs.YtioaekgoceinkaaGreatDoor
