import Derived.Test.YtinkdfnpmoljfaaGreatDoorFenP
set_option linter.unusedVariables false
set_option linter.unusedSimpArgs false
namespace Go.Fen
open Go Go.RowKit
set_option linter.unusedSimpArgs false
set_option linter.unusedVariables false
/-! ### Slices of slices -/
def cSlc (s : Slc) : List Value := [.slice s.q s.n s.k]
/-- The rows of a slice of slices, as what they hold is known. -/
def rowsF {α : Type} (c : α → List Value) (rs : List Slc) (xss : List (List α)) : Pers := ⟨fun h => ∀ (i : Nat) r xs, rs[i]? = some r → xss[i]? = some xs → (sl c r.q xs).p h, fun {h h'} hl hp i r xs h1 h2 => (sl c r.q xs).mono hl (hp i r xs h1 h2)⟩
/-- Each row is as long as it says. -/
def RowsOk {α : Type} (rs : List Slc) (xss : List (List α)) : Prop := rs.length = xss.length ∧ ∀ (i : Nat) r xs, rs[i]? = some r → xss[i]? = some xs → r.n = xs.length ∧ r.n ≤ r.k ∧ xs.length ≤ 9223372036854775807
section
variable {P : Program} {n : Nat} {X : Cx} {K : Act → World → Prop} {Q : Exit → Act → World → Prop} {E E' : Env} {L L' : Own} {Φ Φ' : List Pers}
theorem rows_at {α : Type} {c : α → List Value} {rs : List Slc} {xss : List (List α)} (j : Nat) (h : Φ[j]? = some (rowsF c rs xss)) {i : Nat} {r : Slc} {xs : List α} (hr : rs[i]? = some r) (hx : xss[i]? = some xs) : Fol1 Φ (sl c r.q xs) :=
 fun p hp => hp _ (List.mem_of_getElem? h) i r xs hr hx
theorem JQ_perm (hp : L.Perm L') (h : JQ n X K E L' Φ) : JQ n X K E L Φ := fun a w hs => h a w ⟨hs.size, hs.defers, hs.has, hs.world.perm hp⟩
theorem JI_fact1 {ops : Array Oper} {i m : Nat} {q : Pers} (hq : Fol1 Φ q) (h : JI P n X ops i m K Q E L (q :: Φ)) : JI P n X ops i m K Q E L Φ := JI_fact q hq h
end
end Go.Fen

