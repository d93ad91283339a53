import Derived.Test.YtanighkpfmgnbaaGreatDoorRows
import Derived.JoinedCond
namespace Go.Proofs.YtanighkpfmgnbaaGreatDoor
open Go
theorem B6x:(Rows.emitPartsRow.inPlace == Tryz.pinned.checked.prog.inPlace 6)=true:=by kernel_rfl
theorem B3v:(Rows.emitPartsRow.unfollowed == Tryz.pinned.checked.prog.unfollowed 6)=true:=by kernel_rfl
theorem B5j:(Rows.emitPartsRow.recurses == Tryz.pinned.checked.prog.recurses 6)=true:=by kernel_rfl
theorem C0q:(Rows.emitPartsRow.named == Tryz.pinned.checked.prog.varsNamed 6)=true:=by kernel_rfl
theorem B8t:joinedFacts Tryz.pinned.checked.prog 6 Tryz.f6 (OpenSpec.ofChange Rows.emitPartsSpec).bare Rows.emitPartsRow=true:=by
 unfold joinedFacts
 rw [B6x,B3v,B5j,C0q]
 kernel_rfl
end Go.Proofs.YtanighkpfmgnbaaGreatDoor
