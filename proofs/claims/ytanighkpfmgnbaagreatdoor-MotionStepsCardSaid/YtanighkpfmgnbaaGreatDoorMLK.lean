import Derived.Test.YtanighkpfmgnbaaGreatDoorRows
import Derived.JoinedCond
namespace Go.Proofs.YtanighkpfmgnbaaGreatDoor
open Go
theorem B0p:(Rows.motionStepsRow.inPlace == Tryz.pinned.checked.prog.inPlace 10)=true:=by kernel_rfl
theorem A7v:(Rows.motionStepsRow.unfollowed == Tryz.pinned.checked.prog.unfollowed 10)=true:=by kernel_rfl
theorem A8t:(Rows.motionStepsRow.recurses == Tryz.pinned.checked.prog.recurses 10)=true:=by kernel_rfl
theorem B2l:(Rows.motionStepsRow.named == Tryz.pinned.checked.prog.varsNamed 10)=true:=by kernel_rfl
theorem B2f:joinedFacts Tryz.pinned.checked.prog 10 Tryz.f10 (OpenSpec.ofChange Rows.motionStepsSpec).bare Rows.motionStepsRow=true:=by
 unfold joinedFacts
 rw [B0p,A7v,A8t,B2l]
 kernel_rfl
end Go.Proofs.YtanighkpfmgnbaaGreatDoor
