import Derived.Test.YtinkdfnpmoljfaaGreatDoorFenO
set_option linter.unusedVariables false
set_option linter.unusedSimpArgs false
namespace Go.Fen
open Go Go.RowKit
set_option linter.unusedSimpArgs false
set_option linter.unusedVariables false
section
variable {P : Program} {n : Nat} {X : Cx} {K : Act → World → Prop} {Q : Exit → Act → World → Prop} {E E' : Env} {L L' : Own} {Φ Φ' : List Pers}
/-! ### Loops whose bodies hold loops over functions: each round leaves a mark -/
def MarksOk (ds : List (Nat × Obj)) : Prop := (ds.map Prod.fst).Nodup ∧ ∀ d ∈ ds, d.2 = .deferred (some [])
theorem MarksOk.nil : MarksOk [] := ⟨List.nodup_nil, fun d hd => by cases hd⟩
theorem MarksOk.cons {d : Nat} {ds : List (Nat × Obj)} (h : MarksOk ds) (hd : d ∉ ds.map Prod.fst) : MarksOk ((d, .deferred (some [])) :: ds) :=
 ⟨by rw [List.map_cons, List.nodup_cons]; exact ⟨hd, h.1⟩, fun e he => by
  rcases List.mem_cons.1 he with rfl | he
  ·rfl
  ·exact h.2 e he⟩
end
end Go.Fen

