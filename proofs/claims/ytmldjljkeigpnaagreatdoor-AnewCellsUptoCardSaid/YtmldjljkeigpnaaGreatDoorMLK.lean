import Derived.Test.YtmldjljkeigpnaaGreatDoorRows
import Derived.JoinedCond
set_option linter.unusedVariables false
set_option linter.unusedSimpArgs false
set_option linter.unnecessarySimpa false
set_option maxRecDepth 100000
namespace Go.Proofs.YtmldjljkeigpnaaGreatDoor
open Go
theorem C7x:(Rows.anewCellsUptoRow.inPlace == Tryz.pinned.checked.prog.inPlace 3)=true:=by kernel_rfl
theorem C3l:(Rows.anewCellsUptoRow.unfollowed == Tryz.pinned.checked.prog.unfollowed 3)=true:=by kernel_rfl
theorem C7r:(Rows.anewCellsUptoRow.recurses == Tryz.pinned.checked.prog.recurses 3)=true:=by kernel_rfl
theorem D3c:(Rows.anewCellsUptoRow.named == Tryz.pinned.checked.prog.varsNamed 3)=true:=by kernel_rfl
theorem D0k:joinedFacts Tryz.pinned.checked.prog 3 Tryz.f3 (Rows.OpenSpec.upto Rows.anewCellsSpec).bare Rows.anewCellsUptoRow=true:=by
 unfold joinedFacts
 rw [C7x,C3l,C7r,D3c]
 kernel_rfl
end Go.Proofs.YtmldjljkeigpnaaGreatDoor
