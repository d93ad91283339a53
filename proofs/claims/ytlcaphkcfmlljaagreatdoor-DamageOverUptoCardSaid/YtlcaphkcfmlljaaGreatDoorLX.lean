import Derived.Test.YtlcaphkcfmlljaaGreatDoorLS
set_option linter.unusedVariables false
set_option linter.unusedSimpArgs false
set_option linter.unnecessarySimpa false
namespace Go.Proofs.YtlcaphkcfmlljaaGreatDoor
open Go Go.Fen
/-! spans by what they cover -/
def Cv (l : List Sp3) (r i : Int) : Prop := ∃ s ∈ l, s.row = r ∧ s.frm ≤ i ∧ i < s.to
def Lt4 (x y : Sp3) : Prop := x.row < y.row ∨ (x.row = y.row ∧ x.to < y.frm)
theorem Cv.cons {x : Sp3} {l : List Sp3} {r i : Int} : Cv (x :: l) r i ↔ (x.row = r ∧ x.frm ≤ i ∧ i < x.to) ∨ Cv l r i := by
  constructor
  · rintro ⟨s, hs, h⟩
    rcases List.mem_cons.1 hs with rfl | hs
    · exact Or.inl h
    · exact Or.inr ⟨s, hs, h⟩
  · rintro (h | ⟨s, hs, h⟩)
    · exact ⟨x, List.mem_cons_self .., h⟩
    · exact ⟨s, List.mem_cons_of_mem _ hs, h⟩
theorem Cv.nil {r i : Int} : ¬ Cv [] r i := fun ⟨s, hs, _⟩ => absurd hs List.not_mem_nil
theorem Cv.append {l m : List Sp3} {r i : Int} : Cv (l ++ m) r i ↔ Cv l r i ∨ Cv m r i := by
  constructor
  · rintro ⟨s, hs, h⟩
    rcases List.mem_append.1 hs with hs | hs
    · exact Or.inl ⟨s, hs, h⟩
    · exact Or.inr ⟨s, hs, h⟩
  · rintro (⟨s, hs, h⟩ | ⟨s, hs, h⟩)
    · exact ⟨s, List.mem_append_left _ hs, h⟩
    · exact ⟨s, List.mem_append_right _ hs, h⟩
/-! the program's spans -/
def Lk (a b : List Cel) (i : Nat) : Prop := damage_linked a b (i : Int) = true
end Go.Proofs.YtlcaphkcfmlljaaGreatDoor

