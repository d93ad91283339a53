import Derived.Test.YtinkdfnpmoljfaaGreatDoorT8
set_option linter.unusedVariables false
set_option linter.unusedSimpArgs false
set_option linter.unnecessarySimpa false
namespace Go.Proofs.YtinkdfnpmoljfaaGreatDoor
open Go Go.Fen
theorem getD_eq {α : Type} {xs : List α} {d : α} {i : Nat} (h : i < xs.length) : xs.getD i d = xs[i] := by simp [List.getD_eq_getElem?_getD, h]
theorem ext_getD {α : Type} {xs ys : List α} (d : α) (hl : xs.length = ys.length) (h : ∀ i, i < xs.length → xs.getD i d = ys.getD i d) : xs = ys := by
 apply List.ext_getElem hl
 intro i h1 h2
 have := h i h1
 rwa [getD_eq h1, getD_eq h2] at this
theorem wakes_true : law28_wakes = true := by kernel_rfl
/-! frames -/
theorem frame_l0_val (c : Int) : ∀ (rows : List (List Cel)) (ok : Bool) (t : Nat), frame_Check_l0 c rows ok t = 0 ∨ frame_Check_l0 c rows ok t = 330
 | [], ok, t => by cases ok <;> simp [frame_Check_l0]
 | r :: rows, ok, t => by
  simp only [frame_Check_l0]
  cases (ok && decide ((r.length : Int) = c)) && decide (row_Check r false = 0) with
  | true => exact frame_l0_val c rows _ _
  | false => exact Or.inr rfl
theorem frame_val (c : Int) (rows : List (List Cel)) (cur : Plc) (v : Bool) (sh : Int) (ti : List UInt8) : frame_Check c rows cur v sh ti = 0 ∨ frame_Check c rows cur v sh ti = 330 := frame_l0_val _ _ _ _
/-! blank rows -/
theorem source_range {s : Shf} {n : Nat} (hs : shift_Check s (n : Int) = 0) {r : Nat} (hr : r < n) : shift_source s (r : Int) < n := (shift_source_le s (r : Int)).2 n (by omega) (by omega) (by have := shift_Check_ok hs; omega)
theorem done_eq {c : Int} {rows : List (List Cel)} {cur : Plc} {v : Bool} {sh : Int} {ti : List UInt8} {s : Shf} (h : frame_Check c rows cur v sh ti = 0) (hs : shift_Check s (rows.length : Int) = 0) :
  ∃ o, shift_Done c rows cur v sh ti s = (c, o, cur.row, cur.col, v, sh, ti, 0) ∧ o.length = rows.length ∧ ∀ r, r < rows.length → o.getD r [] = shRow c rows s r := by
 obtain ⟨o, g1, g2, g3⟩ := shift_Done_l0_all c rows cur v sh ti s rows 0 (List.replicate rows.length ([] : List Cel)) (by simp)
 refine ⟨o, by unfold shift_Done; rw [h, hs]; exact g1, by simpa using g2, fun r hr => ?_⟩
 rw [g3 r (by simpa using hr), if_pos (Nat.zero_le _)]
theorem source_if (s : Shf) (r : Int) : shift_source s r = if r < s.top ∨ s.bottom < r then r else if s.top ≤ r + s.amt ∧ r + s.amt ≤ s.bottom then r + s.amt else -1 := by
 unfold shift_source; simp only [Bool.cond_eq_ite, Bool.or_eq_true, Bool.and_eq_true, decide_eq_true_eq]
/-! ShiftBack -/
end Go.Proofs.YtinkdfnpmoljfaaGreatDoor

