import Derived.Test.YtfcdnnheppnbaaaGreatDoorRows
import Derived.JoinedCond
set_option linter.unusedVariables false
set_option linter.unusedSimpArgs false
set_option linter.unnecessarySimpa false
set_option maxRecDepth 100000
namespace Go.Proofs.YtfcdnnheppnbaaaGreatDoor
open Go
theorem C2j:(Rows.paintLeadsRow.inPlace == Tryz.pinned.checked.prog.inPlace 3)=true:=by kernel_rfl
theorem B8n:(Rows.paintLeadsRow.unfollowed == Tryz.pinned.checked.prog.unfollowed 3)=true:=by kernel_rfl
theorem C0p:(Rows.paintLeadsRow.recurses == Tryz.pinned.checked.prog.recurses 3)=true:=by kernel_rfl
theorem C5y:(Rows.paintLeadsRow.named == Tryz.pinned.checked.prog.varsNamed 3)=true:=by kernel_rfl
theorem C4m:joinedFacts Tryz.pinned.checked.prog 3 Tryz.f3 (OpenSpec.ofChange Rows.paintLeadsSpec).bare Rows.paintLeadsRow=true:=by
 unfold joinedFacts
 rw [C2j,B8n,C0p,C5y]
 kernel_rfl
end Go.Proofs.YtfcdnnheppnbaaaGreatDoor
