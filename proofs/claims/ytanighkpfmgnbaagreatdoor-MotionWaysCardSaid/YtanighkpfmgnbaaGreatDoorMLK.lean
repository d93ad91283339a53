import Derived.Test.YtanighkpfmgnbaaGreatDoorRows
import Derived.JoinedCond
namespace Go.Proofs.YtanighkpfmgnbaaGreatDoor
open Go
theorem B1x:(Rows.motionWaysRow.inPlace == Tryz.pinned.checked.prog.inPlace 8)=true:=by kernel_rfl
theorem A8y:(Rows.motionWaysRow.unfollowed == Tryz.pinned.checked.prog.unfollowed 8)=true:=by kernel_rfl
theorem B0v:(Rows.motionWaysRow.recurses == Tryz.pinned.checked.prog.recurses 8)=true:=by kernel_rfl
theorem B4b:(Rows.motionWaysRow.named == Tryz.pinned.checked.prog.varsNamed 8)=true:=by kernel_rfl
theorem B3p:joinedFacts Tryz.pinned.checked.prog 8 Tryz.f8 (OpenSpec.ofChange Rows.motionWaysSpec).bare Rows.motionWaysRow=true:=by
 unfold joinedFacts
 rw [B1x,A8y,B0v,B4b]
 kernel_rfl
end Go.Proofs.YtanighkpfmgnbaaGreatDoor
