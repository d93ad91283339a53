import Derived.Test.YtanighkpfmgnbaaGreatDoorRows
import Derived.JoinedCond
namespace Go.Proofs.YtanighkpfmgnbaaGreatDoor
open Go
theorem B4n:(Rows.emitKnownRow.inPlace == Tryz.pinned.checked.prog.inPlace 7)=true:=by kernel_rfl
theorem B0w:(Rows.emitKnownRow.unfollowed == Tryz.pinned.checked.prog.unfollowed 7)=true:=by kernel_rfl
theorem B2u:(Rows.emitKnownRow.recurses == Tryz.pinned.checked.prog.recurses 7)=true:=by kernel_rfl
theorem B6t:(Rows.emitKnownRow.named == Tryz.pinned.checked.prog.varsNamed 7)=true:=by kernel_rfl
theorem B5h:joinedFacts Tryz.pinned.checked.prog 7 Tryz.f7 (OpenSpec.ofChange Rows.emitKnownSpec).bare Rows.emitKnownRow=true:=by
 unfold joinedFacts
 rw [B4n,B0w,B2u,B6t]
 kernel_rfl
end Go.Proofs.YtanighkpfmgnbaaGreatDoor
