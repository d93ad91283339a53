import Derived.Test.YtlcaphkcfmlljaaGreatDoorT5
set_option linter.unusedVariables false
set_option linter.unusedSimpArgs false
namespace Go.Proofs.YtlcaphkcfmlljaaGreatDoor
open Go Go.Fen
/-! Equality of slices, and the spans of two rows. -/
theorem getD_eq {α : Type} {xs : List α} {d : α} {i : Nat} (h : i < xs.length) : xs.getD i d = xs[i] := by simp [List.getD_eq_getElem?_getD, h]
theorem ext_getD {α : Type} {xs ys : List α} (d : α) (hl : xs.length = ys.length) (h : ∀ i, i < xs.length → xs.getD i d = ys.getD i d) : xs = ys := by
  apply List.ext_getElem hl
  intro i h1 h2
  have := h i h1
  rwa [getD_eq h1, getD_eq h2] at this
/-! a row with itself -/
/-! two rows in either order -/
/-! rows without spans are equal -/
/-! all rows -/
/-! checks -/
theorem frame_l0_val (c : Int) : ∀ (rows : List (List Cel)) (ok : Bool) (t : Nat), frame_Check_l0 c rows ok t = 0 ∨ frame_Check_l0 c rows ok t = 330
  | [], ok, t => by cases ok <;> simp [frame_Check_l0]
  | r :: rows, ok, t => by
    simp only [frame_Check_l0]
    generalize ((ok && decide ((r.length : Int) = c)) && decide (row_Check r false = 0)) = b
    cases b <;> simp [frame_l0_val c rows]
theorem frame_val (c : Int) (rows : List (List Cel)) (cur : Plc) (v : Bool) (sh : Int) (ti : List UInt8) : frame_Check c rows cur v sh ti = 0 ∨ frame_Check c rows cur v sh ti = 330 := frame_l0_val _ _ _ _
theorem wakes_true : law24_wakes = true := by kernel_rfl
section
variable (ac : Int) (ar : List (List Cel)) (acu : Plc) (av : Bool) (ash : Int) (ati : List UInt8) (bc : Int) (br : List (List Cel)) (bcu : Plc) (bv' : Bool) (bsh : Int) (bti : List UInt8)
end
end Go.Proofs.YtlcaphkcfmlljaaGreatDoor

