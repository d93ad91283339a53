import Derived.Test.YtanighkpfmgnbaaGreatDoorRows
import Derived.JoinedCond
namespace Go.Proofs.YtanighkpfmgnbaaGreatDoor
open Go
theorem B7b:(Rows.paintLeastRow.inPlace == Tryz.pinned.checked.prog.inPlace 12)=true:=by kernel_rfl
theorem B4c:(Rows.paintLeastRow.unfollowed == Tryz.pinned.checked.prog.unfollowed 12)=true:=by kernel_rfl
theorem B6k:(Rows.paintLeastRow.recurses == Tryz.pinned.checked.prog.recurses 12)=true:=by kernel_rfl
theorem C0w:(Rows.paintLeastRow.named == Tryz.pinned.checked.prog.varsNamed 12)=true:=by kernel_rfl
theorem B9v:joinedFacts Tryz.pinned.checked.prog 12 Tryz.f12 (OpenSpec.ofChange Rows.paintLeastSpec).bare Rows.paintLeastRow=true:=by
 unfold joinedFacts
 rw [B7b,B4c,B6k,C0w]
 kernel_rfl
end Go.Proofs.YtanighkpfmgnbaaGreatDoor
