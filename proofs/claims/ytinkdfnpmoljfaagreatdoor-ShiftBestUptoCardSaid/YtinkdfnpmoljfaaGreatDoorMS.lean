import Derived.Test.YtinkdfnpmoljfaaGreatDoorT8
set_option linter.unusedVariables false
set_option linter.unusedSimpArgs false
set_option linter.unnecessarySimpa false
namespace Go.Proofs.YtinkdfnpmoljfaaGreatDoor
open Go Go.Fen
theorem getD_eq {α : Type} {xs : List α} {d : α} {i : Nat} (h : i < xs.length) : xs.getD i d = xs[i] := by simp [List.getD_eq_getElem?_getD, h]
theorem wakes_true : law28_wakes = true := by kernel_rfl
/-! frames -/
theorem frame_l0_val (c : Int) : ∀ (rows : List (List Cel)) (ok : Bool) (t : Nat), frame_Check_l0 c rows ok t = 0 ∨ frame_Check_l0 c rows ok t = 330
  | [], ok, t => by cases ok <;> simp [frame_Check_l0]
  | r :: rows, ok, t => by
    simp only [frame_Check_l0]
    cases (ok && decide ((r.length : Int) = c)) && decide (row_Check r false = 0) with
    | true => exact frame_l0_val c rows _ _
    | false => exact Or.inr rfl
theorem frame_val (c : Int) (rows : List (List Cel)) (cur : Plc) (v : Bool) (sh : Int) (ti : List UInt8) : frame_Check c rows cur v sh ti = 0 ∨ frame_Check c rows cur v sh ti = 330 := frame_l0_val _ _ _ _
theorem frame_l0_true (c : Int) : ∀ (rows : List (List Cel)) (t : Nat), (∀ r ∈ rows, (r.length : Int) = c ∧ row_Check r false = 0) → frame_Check_l0 c rows true t = 0
  | [], t, _ => rfl
  | r :: rows, t, h => by
    have h0 := h r (List.mem_cons_self ..)
    simp only [frame_Check_l0]
    rw [decide_eq_true h0.1, decide_eq_true h0.2]
    exact frame_l0_true c rows (t + 1) (fun x hx => h x (List.mem_cons_of_mem _ hx))
theorem rows_ok {c : Int} {rows : List (List Cel)} {cur : Plc} {v : Bool} {sh : Int} {ti : List UInt8} (h : frame_Check c rows cur v sh ti = 0) : ∀ r ∈ rows, (r.length : Int) = c ∧ row_Check r false = 0 := by
  unfold frame_Check at h
  exact (frame_Check_l0_ok _ _ _ _ h).2
theorem frame_rows {c : Int} {rows rows' : List (List Cel)} {cur : Plc} {v : Bool} {sh : Int} {ti : List UInt8} (h : frame_Check c rows cur v sh ti = 0) (hl : rows'.length = rows.length) (h' : ∀ r ∈ rows', (r.length : Int) = c ∧ row_Check r false = 0) : frame_Check c rows' cur v sh ti = 0 := by
  unfold frame_Check at *
  rw [hl, (frame_Check_l0_ok _ _ _ _ h).1]
  exact frame_l0_true c rows' 0 h'
/-! blank rows -/
theorem blank_cell : row_CheckCell { Cel.zero with base := 32 } = 0 := by kernel_rfl
theorem blank_l0 : ∀ (xs : List Cel) (t : Nat) (last : Cel), (∀ x ∈ xs, x = { Cel.zero with base := 32 }) → last.wide = 0 → row_Check_l0 xs t last = 0
  | [], t, last, _, h => by simp only [row_Check_l0]; rw [h]; rfl
  | x :: xs, t, last, hx, h => by
    have e := hx x (List.mem_cons_self ..)
    simp only [row_Check_l0]
    rw [e, blank_cell, h]
    exact blank_l0 xs (t + 1) _ (fun y hy => hx y (List.mem_cons_of_mem _ hy)) rfl
theorem plain_ok {c : Int} (h : 2 ≤ c ∧ c ≤ 80) : ((shift_plain c).length : Int) = c ∧ row_Check (shift_plain c) false = 0 := by
  have hl := shift_plain_len c
  refine ⟨by omega, ?_⟩
  unfold row_Check
  rw [show ((decide (((shift_plain c).length : Int) < 2)) || (decide ((80 : Int) < ((shift_plain c).length : Int)))) = false by simp only [Bool.or_eq_false_iff, decide_eq_false_iff_not]; omega, cond_false]
  refine blank_l0 _ 0 _ (fun x hx => ?_) rfl
  obtain ⟨i, hi, rfl⟩ := List.getElem_of_mem hx
  rw [← getD_eq (d := Cel.zero) hi]; exact shift_plain_get c i (by omega)
theorem source_range {s : Shf} {n : Nat} (hs : shift_Check s (n : Int) = 0) {r : Nat} (hr : r < n) : shift_source s (r : Int) < n := (shift_source_le s (r : Int)).2 n (by omega) (by omega) (by have := shift_Check_ok hs; omega)
theorem shRow_ok {c : Int} {rows : List (List Cel)} {cur : Plc} {v : Bool} {sh : Int} {ti : List UInt8} {s : Shf} (h : frame_Check c rows cur v sh ti = 0) (hs : shift_Check s (rows.length : Int) = 0) {r : Nat} (hr : r < rows.length) :
    ((shRow c rows s r).length : Int) = c ∧ row_Check (shRow c rows s r) false = 0 := by
  have hf := frame_Check_ok h
  have hsr := source_range hs hr
  unfold shRow
  split
  · have hlt : (shift_source s (r : Int)).toNat < rows.length := by omega
    rw [getD_eq hlt]; exact rows_ok h _ (List.getElem_mem _)
  · exact plain_ok ⟨hf.1, hf.2.1⟩
theorem done_frame {c : Int} {rows o : List (List Cel)} {cur : Plc} {v : Bool} {sh : Int} {ti : List UInt8} {s : Shf} (h : frame_Check c rows cur v sh ti = 0) (hs : shift_Check s (rows.length : Int) = 0) (hl : o.length = rows.length) (ho : ∀ r, r < rows.length → o.getD r [] = shRow c rows s r) : frame_Check c o cur v sh ti = 0 := by
  refine frame_rows h hl fun x hx => ?_
  obtain ⟨i, hi, rfl⟩ := List.getElem_of_mem hx
  rw [← getD_eq (d := []) hi, ho i (by omega)]
  exact shRow_ok h hs (by omega)
theorem done_eq {c : Int} {rows : List (List Cel)} {cur : Plc} {v : Bool} {sh : Int} {ti : List UInt8} {s : Shf} (h : frame_Check c rows cur v sh ti = 0) (hs : shift_Check s (rows.length : Int) = 0) :
    ∃ o, shift_Done c rows cur v sh ti s = (c, o, cur.row, cur.col, v, sh, ti, 0) ∧ o.length = rows.length ∧ ∀ r, r < rows.length → o.getD r [] = shRow c rows s r := by
  obtain ⟨o, g1, g2, g3⟩ := shift_Done_l0_all c rows cur v sh ti s rows 0 (List.replicate rows.length ([] : List Cel)) (by simp)
  refine ⟨o, by unfold shift_Done; rw [h, hs]; exact g1, by simpa using g2, fun r hr => ?_⟩
  rw [g3 r (by simpa using hr), if_pos (Nat.zero_le _)]
/-! ShiftBack -/
end Go.Proofs.YtinkdfnpmoljfaaGreatDoor

