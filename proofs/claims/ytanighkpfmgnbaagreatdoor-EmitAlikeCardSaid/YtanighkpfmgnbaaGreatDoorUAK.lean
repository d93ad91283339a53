import Derived.Test.YtanighkpfmgnbaaGreatDoorRows
import Derived.JoinedCond
namespace Go.Proofs.YtanighkpfmgnbaaGreatDoor
open Go
theorem B7m:(Rows.emitAlikeRow.inPlace == Tryz.pinned.checked.prog.inPlace 4)=true:=by kernel_rfl
theorem B4i:(Rows.emitAlikeRow.unfollowed == Tryz.pinned.checked.prog.unfollowed 4)=true:=by kernel_rfl
theorem B6p:(Rows.emitAlikeRow.recurses == Tryz.pinned.checked.prog.recurses 4)=true:=by kernel_rfl
theorem C0v:(Rows.emitAlikeRow.named == Tryz.pinned.checked.prog.varsNamed 4)=true:=by kernel_rfl
theorem B9a:joinedFacts Tryz.pinned.checked.prog 4 Tryz.f4 (OpenSpec.ofChange Rows.emitAlikeSpec).bare Rows.emitAlikeRow=true:=by
 unfold joinedFacts
 rw [B7m,B4i,B6p,C0v]
 kernel_rfl
end Go.Proofs.YtanighkpfmgnbaaGreatDoor
