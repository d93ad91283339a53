import Derived.Lib.Builder
import Derived.Lib.UnsafeStr
import Derived.Laws.Externs
import Derived.WalkKit
import Derived.Shelf.RegionOpenPlain
import Derived.Shelf.Strings.Repeat
import Derived.Test.YtmldjljkeigpnaaGreatDoorProg
import Derived.Test.YtmldjljkeigpnaaGreatDoorMA2
set_option linter.unusedVariables false
set_option linter.unusedSimpArgs false
set_option linter.unnecessarySimpa false
set_option maxRecDepth 100000
namespace Go.Proofs.YtmldjljkeigpnaaGreatDoor
open Go Go.Fen Go.RowKit

end Go.Proofs.YtmldjljkeigpnaaGreatDoor
namespace Go.Fen
open Go Go.RowKit Go.Sort Go.Proofs
end Go.Fen
namespace Go.Proofs.YtmldjljkeigpnaaGreatDoor
open Go Go.Fen Go.RowKit Go.Sort
end Go.Proofs.YtmldjljkeigpnaaGreatDoor
