import Derived.Test.YtinkdfnpmoljfaaGreatDoorFenT
import Derived.Tactics
import Derived.Tactics2
import Derived.Defers
import Derived.Recover
import Derived.Laws.Pointers
import Derived.Test.YtinkdfnpmoljfaaGreatDoorProg
set_option linter.unusedVariables false
set_option linter.unusedSimpArgs false
namespace Go.Proofs.YtinkdfnpmoljfaaGreatDoor
open Go Go.Fen
end Go.Proofs.YtinkdfnpmoljfaaGreatDoor

