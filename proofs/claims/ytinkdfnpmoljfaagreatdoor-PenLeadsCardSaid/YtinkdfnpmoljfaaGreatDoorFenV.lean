import Derived.Test.YtinkdfnpmoljfaaGreatDoorFenU
import Derived.Laws.MakeOwn
set_option linter.unusedVariables false
set_option linter.unusedSimpArgs false
namespace Go.Fen
open Go Go.RowKit
section
variable {P : Program} {n : Nat} {X : Cx} {K : Act → World → Prop} {Q : Exit → Act → World → Prop} {E E' : Env} {L L' : Own} {Φ Φ' : List Pers}
theorem flat_part {α : Type} {c : α → List Value} {sz : Nat} (hc : ∀ x, (c x).length = sz) (d : α) : ∀ (xs : List α) (k : Nat), k < xs.length → ((xs.flatMap c).drop (k * sz)).take sz = c (xs.getD k d)
 | [], k, h => by simp at h
 | x :: xs, 0, _ => by simp [List.take_append_of_le_length, ← hc x]
 | x :: xs, k + 1, h => by
  have := flat_part hc d xs k (by simpa using h)
  rw [List.flatMap_cons, Nat.succ_mul, Nat.add_comm, ← List.drop_drop, ← hc x, List.drop_left, hc x, this]; simp
theorem flat_getk {α : Type} {c : α → List Value} {sz : Nat} (hc : ∀ x, (c x).length = sz) (d : α) {xs : List α} {k j : Nat} (hk : k < xs.length) (hj : j < sz) : (xs.flatMap c)[k * sz + j]? = (c (xs.getD k d))[j]? := by
 rw [← flat_part hc d xs k hk, List.getElem?_take, if_pos hj, List.getElem?_drop]
end
/-- What a call gives, under a name. -/
def bindV {α β : Type} (x : α) (k : α → β) : β := k x
theorem bindVx {α β : Type} {x : α} {k : α → β} {R : β} (h : bindV x k = R) : ∃ r, x = r ∧ k r = R := ⟨x, rfl, h⟩
@[simp] theorem bindV_eq {α β : Type} (x : α) (k : α → β) : bindV x k = k x := rfl
end Go.Fen

