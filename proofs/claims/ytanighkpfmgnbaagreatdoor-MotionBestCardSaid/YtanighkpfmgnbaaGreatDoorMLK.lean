import Derived.Test.YtanighkpfmgnbaaGreatDoorRows
import Derived.JoinedCond
namespace Go.Proofs.YtanighkpfmgnbaaGreatDoor
open Go
theorem B7y:(Rows.motionBestRow.inPlace == Tryz.pinned.checked.prog.inPlace 9)=true:=by kernel_rfl
theorem B4h:(Rows.motionBestRow.unfollowed == Tryz.pinned.checked.prog.unfollowed 9)=true:=by kernel_rfl
theorem B6l:(Rows.motionBestRow.recurses == Tryz.pinned.checked.prog.recurses 9)=true:=by kernel_rfl
theorem C0l:(Rows.motionBestRow.named == Tryz.pinned.checked.prog.varsNamed 9)=true:=by kernel_rfl
theorem B8z:joinedFacts Tryz.pinned.checked.prog 9 Tryz.f9 (OpenSpec.ofChange Rows.motionBestSpec).bare Rows.motionBestRow=true:=by
 unfold joinedFacts
 rw [B7y,B4h,B6l,C0l]
 kernel_rfl
end Go.Proofs.YtanighkpfmgnbaaGreatDoor
