import Derived.Test.YtanighkpfmgnbaaGreatDoorRows
import Derived.JoinedCond
namespace Go.Proofs.YtanighkpfmgnbaaGreatDoor
open Go
theorem B6p:(Rows.paintPartsRow.inPlace == Tryz.pinned.checked.prog.inPlace 13)=true:=by kernel_rfl
theorem B3v:(Rows.paintPartsRow.unfollowed == Tryz.pinned.checked.prog.unfollowed 13)=true:=by kernel_rfl
theorem B6c:(Rows.paintPartsRow.recurses == Tryz.pinned.checked.prog.recurses 13)=true:=by kernel_rfl
theorem B9y:(Rows.paintPartsRow.named == Tryz.pinned.checked.prog.varsNamed 13)=true:=by kernel_rfl
theorem B9b:joinedFacts Tryz.pinned.checked.prog 13 Tryz.f13 (OpenSpec.ofChange Rows.paintPartsSpec).bare Rows.paintPartsRow=true:=by
 unfold joinedFacts
 rw [B6p,B3v,B6c,B9y]
 kernel_rfl
end Go.Proofs.YtanighkpfmgnbaaGreatDoor
