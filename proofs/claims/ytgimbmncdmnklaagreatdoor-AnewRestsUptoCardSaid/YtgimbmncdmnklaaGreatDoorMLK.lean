import Derived.Test.YtgimbmncdmnklaaGreatDoorRows
import Derived.JoinedCond
set_option linter.unusedVariables false
set_option linter.unusedSimpArgs false
set_option linter.unnecessarySimpa false
set_option maxRecDepth 100000
namespace Go.Proofs.YtgimbmncdmnklaaGreatDoor
open Go
theorem C4d:(Rows.anewRestsUptoRow.inPlace == Tryz.pinned.checked.prog.inPlace 4)=true:=by kernel_rfl
theorem B9i:(Rows.anewRestsUptoRow.unfollowed == Tryz.pinned.checked.prog.unfollowed 4)=true:=by kernel_rfl
theorem C2v:(Rows.anewRestsUptoRow.recurses == Tryz.pinned.checked.prog.recurses 4)=true:=by kernel_rfl
theorem C7w:(Rows.anewRestsUptoRow.named == Tryz.pinned.checked.prog.varsNamed 4)=true:=by kernel_rfl
theorem C5n:joinedFacts Tryz.pinned.checked.prog 4 Tryz.f4 (Rows.OpenSpec.upto Rows.anewRestsSpec).bare Rows.anewRestsUptoRow=true:=by
 unfold joinedFacts
 rw [C4d,B9i,C2v,C7w]
 kernel_rfl
end Go.Proofs.YtgimbmncdmnklaaGreatDoor
