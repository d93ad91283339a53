import Derived.Test.YtinkdfnpmoljfaaGreatDoorFenW
set_option linter.unusedVariables false
set_option linter.unusedSimpArgs false
namespace Go.Fen
open Go Go.RowKit
/-! ### Loops over functions that hand on two values at a time -/
section
variable {P : Program} {n : Nat} {X : Cx} {K : Act → World → Prop} {Q : Exit → Act → World → Prop} {E E' : Env} {L L' : Own} {Φ Φ' : List Pers}

end
end Go.Fen

