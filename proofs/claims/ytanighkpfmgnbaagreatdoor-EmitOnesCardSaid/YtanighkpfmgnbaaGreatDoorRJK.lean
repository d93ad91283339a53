import Derived.Test.YtanighkpfmgnbaaGreatDoorRows
import Derived.JoinedCond
namespace Go.Proofs.YtanighkpfmgnbaaGreatDoor
open Go
theorem B9f:(Rows.emitOnesRow.inPlace == Tryz.pinned.checked.prog.inPlace 5)=true:=by kernel_rfl
theorem B5x:(Rows.emitOnesRow.unfollowed == Tryz.pinned.checked.prog.unfollowed 5)=true:=by kernel_rfl
theorem B8i:(Rows.emitOnesRow.recurses == Tryz.pinned.checked.prog.recurses 5)=true:=by kernel_rfl
theorem C2n:(Rows.emitOnesRow.named == Tryz.pinned.checked.prog.varsNamed 5)=true:=by kernel_rfl
theorem C1m:joinedFacts Tryz.pinned.checked.prog 5 Tryz.f5 (OpenSpec.ofChange Rows.emitOnesSpec).bare Rows.emitOnesRow=true:=by
 unfold joinedFacts
 rw [B9f,B5x,B8i,C2n]
 kernel_rfl
end Go.Proofs.YtanighkpfmgnbaaGreatDoor
