import Derived.Test.YtlcaphkcfmlljaaGreatDoorLY4
import Derived.Test.YtlcaphkcfmlljaaGreatDoorLT2
set_option linter.unusedVariables false
set_option linter.unusedSimpArgs false
set_option linter.unnecessarySimpa false
namespace Go.Proofs.YtlcaphkcfmlljaaGreatDoor
open Go Go.Fen
/-! the reference's marks -/
theorem getD_set {α : Type} {l : List α} {d x : α} {i j : Nat} (hi : i < l.length) : (l.set i x).getD j d = if j = i then x else l.getD j d := by
  by_cases e : j = i
  · subst e; rw [if_pos rfl, List.getD_eq_getElem?_getD, List.getElem?_set_self hi]; rfl
  · rw [if_neg e, List.getD_eq_getElem?_getD, List.getElem?_set_ne (by omega), List.getD_eq_getElem?_getD]
/-! the reference's spans -/
structure RI (out : List Sp3) (r : Nat) (i : Nat) (m : List Bool) (C : Int → Int → Prop) : Prop where
  pw : out.Pairwise Lt4
  pos : ∀ s ∈ out, s.frm < s.to
  below : ∀ s ∈ out, s.row < r ∨ (s.row = r ∧ s.to ≤ i ∧ (s.to = i → 0 < i ∧ m.getD (i - 1) false = true))
  cov : ∀ q j : Int, Cv out q j ↔ C q j ∨ (q = r ∧ ∃ k : Nat, k < i ∧ j = k ∧ m.getD k false = true)
  last : 0 < i → m.getD (i - 1) false = true → ∃ (g : List Sp3) (x : Sp3), out = g ++ [x] ∧ x.row = (r : Int) ∧ x.to = (i : Int)
end Go.Proofs.YtlcaphkcfmlljaaGreatDoor

