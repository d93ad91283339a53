import Derived.Test.YtmldjljkeigpnaaGreatDoorRows
import Derived.JoinedCond
set_option linter.unusedVariables false
set_option linter.unusedSimpArgs false
set_option linter.unnecessarySimpa false
set_option maxRecDepth 100000
namespace Go.Proofs.YtmldjljkeigpnaaGreatDoor
open Go
theorem cj:(Rows.anewDrawsUptoRow.inPlace == Tryz.pinned.checked.prog.inPlace 4)=true:=by kernel_rfl
theorem bw:(Rows.anewDrawsUptoRow.unfollowed == Tryz.pinned.checked.prog.unfollowed 4)=true:=by kernel_rfl
theorem cg:(Rows.anewDrawsUptoRow.recurses == Tryz.pinned.checked.prog.recurses 4)=true:=by kernel_rfl
theorem d6:(Rows.anewDrawsUptoRow.named == Tryz.pinned.checked.prog.varsNamed 4)=true:=by kernel_rfl
theorem cq:joinedFacts Tryz.pinned.checked.prog 4 Tryz.f4 (Rows.OpenSpec.upto Rows.anewDrawsSpec).bare Rows.anewDrawsUptoRow=true:=by
 unfold joinedFacts
 rw [cj,bw,cg,d6]
 kernel_rfl
end Go.Proofs.YtmldjljkeigpnaaGreatDoor
