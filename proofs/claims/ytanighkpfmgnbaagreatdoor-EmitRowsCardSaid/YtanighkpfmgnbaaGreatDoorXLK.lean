import Derived.Test.YtanighkpfmgnbaaGreatDoorRows
import Derived.JoinedCond
namespace Go.Proofs.YtanighkpfmgnbaaGreatDoor
open Go
theorem B9q:(Rows.emitRowsRow.inPlace == Tryz.pinned.checked.prog.inPlace 3)=true:=by kernel_rfl
theorem B6p:(Rows.emitRowsRow.unfollowed == Tryz.pinned.checked.prog.unfollowed 3)=true:=by kernel_rfl
theorem B8b:(Rows.emitRowsRow.recurses == Tryz.pinned.checked.prog.recurses 3)=true:=by kernel_rfl
theorem C3t:(Rows.emitRowsRow.named == Tryz.pinned.checked.prog.varsNamed 3)=true:=by kernel_rfl
theorem C1f:joinedFacts Tryz.pinned.checked.prog 3 Tryz.f3 (OpenSpec.ofChange Rows.emitRowsSpec).bare Rows.emitRowsRow=true:=by
 unfold joinedFacts
 rw [B9q,B6p,B8b,C3t]
 kernel_rfl
end Go.Proofs.YtanighkpfmgnbaaGreatDoor
