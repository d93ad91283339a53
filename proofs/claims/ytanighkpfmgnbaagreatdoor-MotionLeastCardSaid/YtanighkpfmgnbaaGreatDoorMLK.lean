import Derived.Test.YtanighkpfmgnbaaGreatDoorRows
import Derived.JoinedCond
namespace Go.Proofs.YtanighkpfmgnbaaGreatDoor
open Go
theorem B4w:(Rows.motionLeastRow.inPlace == Tryz.pinned.checked.prog.inPlace 11)=true:=by kernel_rfl
theorem B1h:(Rows.motionLeastRow.unfollowed == Tryz.pinned.checked.prog.unfollowed 11)=true:=by kernel_rfl
theorem B3h:(Rows.motionLeastRow.recurses == Tryz.pinned.checked.prog.recurses 11)=true:=by kernel_rfl
theorem B6z:(Rows.motionLeastRow.named == Tryz.pinned.checked.prog.varsNamed 11)=true:=by kernel_rfl
theorem B5o:joinedFacts Tryz.pinned.checked.prog 11 Tryz.f11 (OpenSpec.ofChange Rows.motionLeastSpec).bare Rows.motionLeastRow=true:=by
 unfold joinedFacts
 rw [B4w,B1h,B3h,B6z]
 kernel_rfl
end Go.Proofs.YtanighkpfmgnbaaGreatDoor
