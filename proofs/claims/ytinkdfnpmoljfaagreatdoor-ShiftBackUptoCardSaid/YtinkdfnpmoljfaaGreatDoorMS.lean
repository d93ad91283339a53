import Derived.Test.YtinkdfnpmoljfaaGreatDoorT8
set_option linter.unusedVariables false
set_option linter.unusedSimpArgs false
set_option linter.unnecessarySimpa false
namespace Go.Proofs.YtinkdfnpmoljfaaGreatDoor
open Go Go.Fen
theorem getD_eq {α : Type} {xs : List α} {d : α} {i : Nat} (h : i < xs.length) : xs.getD i d = xs[i] := by simp [List.getD_eq_getElem?_getD, h]
theorem wakes_true : law28_wakes = true := by kernel_rfl
/-! frames -/
theorem frame_l0_true (c : Int) : ∀ (rows : List (List Cel)) (t : Nat), (∀ r ∈ rows, (r.length : Int) = c ∧ row_Check r false = 0) → frame_Check_l0 c rows true t = 0
  | [], t, _ => rfl
  | r :: rows, t, h => by
    have h0 := h r (List.mem_cons_self ..)
    simp only [frame_Check_l0]
    rw [decide_eq_true h0.1, decide_eq_true h0.2]
    exact frame_l0_true c rows (t + 1) (fun x hx => h x (List.mem_cons_of_mem _ hx))
theorem rows_ok {c : Int} {rows : List (List Cel)} {cur : Plc} {v : Bool} {sh : Int} {ti : List UInt8} (h : frame_Check c rows cur v sh ti = 0) : ∀ r ∈ rows, (r.length : Int) = c ∧ row_Check r false = 0 := by
  unfold frame_Check at h
  exact (frame_Check_l0_ok _ _ _ _ h).2
theorem frame_rows {c : Int} {rows rows' : List (List Cel)} {cur : Plc} {v : Bool} {sh : Int} {ti : List UInt8} (h : frame_Check c rows cur v sh ti = 0) (hl : rows'.length = rows.length) (h' : ∀ r ∈ rows', (r.length : Int) = c ∧ row_Check r false = 0) : frame_Check c rows' cur v sh ti = 0 := by
  unfold frame_Check at *
  rw [hl, (frame_Check_l0_ok _ _ _ _ h).1]
  exact frame_l0_true c rows' 0 h'
/-! blank rows -/
theorem blank_cell : row_CheckCell { Cel.zero with base := 32 } = 0 := by kernel_rfl
theorem blank_l0 : ∀ (xs : List Cel) (t : Nat) (last : Cel), (∀ x ∈ xs, x = { Cel.zero with base := 32 }) → last.wide = 0 → row_Check_l0 xs t last = 0
  | [], t, last, _, h => by simp only [row_Check_l0]; rw [h]; rfl
  | x :: xs, t, last, hx, h => by
    have e := hx x (List.mem_cons_self ..)
    simp only [row_Check_l0]
    rw [e, blank_cell, h]
    exact blank_l0 xs (t + 1) _ (fun y hy => hx y (List.mem_cons_of_mem _ hy)) rfl
theorem plain_ok {c : Int} (h : 2 ≤ c ∧ c ≤ 80) : ((shift_plain c).length : Int) = c ∧ row_Check (shift_plain c) false = 0 := by
  have hl := shift_plain_len c
  refine ⟨by omega, ?_⟩
  unfold row_Check
  rw [show ((decide (((shift_plain c).length : Int) < 2)) || (decide ((80 : Int) < ((shift_plain c).length : Int)))) = false by simp only [Bool.or_eq_false_iff, decide_eq_false_iff_not]; omega, cond_false]
  refine blank_l0 _ 0 _ (fun x hx => ?_) rfl
  obtain ⟨i, hi, rfl⟩ := List.getElem_of_mem hx
  rw [← getD_eq (d := Cel.zero) hi]; exact shift_plain_get c i (by omega)
theorem source_range {s : Shf} {n : Nat} (hs : shift_Check s (n : Int) = 0) {r : Nat} (hr : r < n) : shift_source s (r : Int) < n := (shift_source_le s (r : Int)).2 n (by omega) (by omega) (by have := shift_Check_ok hs; omega)
theorem shRow_ok {c : Int} {rows : List (List Cel)} {cur : Plc} {v : Bool} {sh : Int} {ti : List UInt8} {s : Shf} (h : frame_Check c rows cur v sh ti = 0) (hs : shift_Check s (rows.length : Int) = 0) {r : Nat} (hr : r < rows.length) :
    ((shRow c rows s r).length : Int) = c ∧ row_Check (shRow c rows s r) false = 0 := by
  have hf := frame_Check_ok h
  have hsr := source_range hs hr
  unfold shRow
  split
  · have hlt : (shift_source s (r : Int)).toNat < rows.length := by omega
    rw [getD_eq hlt]; exact rows_ok h _ (List.getElem_mem _)
  · exact plain_ok ⟨hf.1, hf.2.1⟩
theorem done_frame {c : Int} {rows o : List (List Cel)} {cur : Plc} {v : Bool} {sh : Int} {ti : List UInt8} {s : Shf} (h : frame_Check c rows cur v sh ti = 0) (hs : shift_Check s (rows.length : Int) = 0) (hl : o.length = rows.length) (ho : ∀ r, r < rows.length → o.getD r [] = shRow c rows s r) : frame_Check c o cur v sh ti = 0 := by
  refine frame_rows h hl fun x hx => ?_
  obtain ⟨i, hi, rfl⟩ := List.getElem_of_mem hx
  rw [← getD_eq (d := []) hi, ho i (by omega)]
  exact shRow_ok h hs (by omega)
theorem done_eq {c : Int} {rows : List (List Cel)} {cur : Plc} {v : Bool} {sh : Int} {ti : List UInt8} {s : Shf} (h : frame_Check c rows cur v sh ti = 0) (hs : shift_Check s (rows.length : Int) = 0) :
    ∃ o, shift_Done c rows cur v sh ti s = (c, o, cur.row, cur.col, v, sh, ti, 0) ∧ o.length = rows.length ∧ ∀ r, r < rows.length → o.getD r [] = shRow c rows s r := by
  obtain ⟨o, g1, g2, g3⟩ := shift_Done_l0_all c rows cur v sh ti s rows 0 (List.replicate rows.length ([] : List Cel)) (by simp)
  refine ⟨o, by unfold shift_Done; rw [h, hs]; exact g1, by simpa using g2, fun r hr => ?_⟩
  rw [g3 r (by simpa using hr), if_pos (Nat.zero_le _)]
theorem done_err {c : Int} {rows : List (List Cel)} {cur : Plc} {v : Bool} {sh : Int} {ti : List UInt8} {s : Shf} (h : (shift_Done c rows cur v sh ti s).2.2.2.2.2.2.2 ≠ 0) : (shift_Done c rows cur v sh ti s).2.1 = [] := by
  by_cases h1 : frame_Check c rows cur v sh ti = 0
  · by_cases h2 : shift_Check s (rows.length : Int) = 0
    · obtain ⟨o, e, _⟩ := done_eq h1 h2
      rw [e] at h; exact absurd rfl h
    · unfold shift_Done; rw [decide_eq_true h1, decide_eq_false h2]; rfl
  · unfold shift_Done; rw [decide_eq_false h1]; rfl
theorem check_neg {s : Shf} {n : Nat} (h : shift_Check s (n : Int) = 0) : shift_Check { Shf.zero with top := s.top, bottom := s.bottom, amt := (-s.amt) } (n : Int) = 0 := by
  have hk := shift_Check_ok h
  unfold shift_Check
  rw [show ((((((((decide ((n : Int) < 1)) || (decide ((40 : Int) < (n : Int)))) || (decide (s.top < 0))) || (decide (s.bottom < s.top))) || (decide ((n : Int) ≤ s.bottom))) || (decide (-s.amt = 0))) || (decide (-s.amt < (s.top - s.bottom)))) || (decide ((s.bottom - s.top) < -s.amt))) = false by
    simp only [Bool.or_eq_false_iff, decide_eq_false_iff_not]; omega]
  rfl
theorem source_if (s : Shf) (r : Int) : shift_source s r = if r < s.top ∨ s.bottom < r then r else if s.top ≤ r + s.amt ∧ r + s.amt ≤ s.bottom then r + s.amt else -1 := by
  unfold shift_source; simp only [Bool.cond_eq_ite, Bool.or_eq_true, Bool.and_eq_true, decide_eq_true_eq]
/-! ShiftBack -/
theorem back_l3 (R : Int × List (List Cel) × Int × Int × Bool × Int × List UInt8 × Int) (t : Nat) (ag : Nat → Bool) (hag : ag (t + 1) = true) : ∀ (cs : List Cel) (k : Nat), cs = (R.2.1.getD t []).drop k → law28_ShiftBack_l3 R t ag cs k = true
  | [], k, _ => by simp only [law28_ShiftBack_l3]; exact hag
  | c :: cs, k, h => by
    have hlt : k < (R.2.1.getD t []).length := by
      by_cases hh : k < (R.2.1.getD t []).length
      · exact hh
      · rw [List.drop_eq_nil_of_le (by omega)] at h; cases h
    have hd := List.drop_eq_getElem_cons hlt
    have hx : (R.2.1.getD t []).getD k Cel.zero = c := by rw [hd] at h; rw [getD_eq hlt]; exact (List.cons.inj h).1.symm
    have hxs : cs = (R.2.1.getD t []).drop (k + 1) := by rw [hd] at h; exact (List.cons.inj h).2
    simp only [law28_ShiftBack_l3]
    rw [decide_eq_true hx]
    exact back_l3 R t ag hag cs (k + 1) hxs
theorem back_l2 (s : Shf) (R : Int × List (List Cel) × Int × Int × Bool × Int × List UInt8 × Int) (rows : List (List Cel)) (hs : shift_Check s (rows.length : Int) = 0) (hR : ∀ t : Nat, t < rows.length → ¬ ((s.top ≤ t ∧ (t : Int) ≤ s.bottom) ∧ ((t : Int) - s.amt < s.top ∨ s.bottom < (t : Int) - s.amt)) → R.2.1.getD t [] = rows.getD t []) :
    ∀ (rs : List (List Cel)) (t : Nat), rs = rows.drop t → law28_ShiftBack_l2 s R rs t = true
  | [], t, _ => by simp only [law28_ShiftBack_l2]
  | x :: rs, t, h => by
    have hk := shift_Check_ok hs
    have hlt : t < rows.length := by
      by_cases hh : t < rows.length
      · exact hh
      · rw [List.drop_eq_nil_of_le (by omega)] at h; cases h
    have hd := List.drop_eq_getElem_cons hlt
    have hx : rows.getD t [] = x := by rw [hd] at h; rw [getD_eq hlt]; exact (List.cons.inj h).1.symm
    have hxs : rs = rows.drop (t + 1) := by rw [hd] at h; exact (List.cons.inj h).2
    have ih := back_l2 s R rows hs hR rs (t + 1) hxs
    simp only [law28_ShiftBack_l2]
    rw [wrap_in (k := .i64) (m := (t : Int) - s.amt) (by simp [IntKind.min, IntKind.signed, IntKind.bits]; omega) (by simp [IntKind.max, IntKind.signed, IntKind.bits]; omega)]
    by_cases c : (s.top ≤ t ∧ (t : Int) ≤ s.bottom) ∧ ((t : Int) - s.amt < s.top ∨ s.bottom < (t : Int) - s.amt)
    · rw [show (((decide (s.top ≤ (t : Int))) && (decide ((t : Int) ≤ s.bottom))) && ((decide ((t : Int) - s.amt < s.top)) || (decide (s.bottom < (t : Int) - s.amt)))) = true by simp only [Bool.and_eq_true, Bool.or_eq_true, decide_eq_true_eq]; exact c]
      exact ih
    · rw [show (((decide (s.top ≤ (t : Int))) && (decide ((t : Int) ≤ s.bottom))) && ((decide ((t : Int) - s.amt < s.top)) || (decide (s.bottom < (t : Int) - s.amt)))) = false by rw [← Bool.not_eq_true]; simp only [Bool.and_eq_true, Bool.or_eq_true, decide_eq_true_eq]; exact c]
      exact back_l3 R t _ ih x 0 (by rw [hR t hlt c, hx]; rfl)
theorem shiftBack_law (c : Int) (rows : List (List Cel)) (cur : Plc) (v : Bool) (sh : Int) (ti : List UInt8) (s : Shf) : law28_ShiftBack c rows cur v sh ti s = true := by
  unfold law28_ShiftBack
  rw [wakes_true]
  simp only [Bool.not_true, cond_false, bindV]
  by_cases h0 : (shift_Done c rows cur v sh ti s).2.2.2.2.2.2.2 = 0
  · obtain ⟨h1, h2, o, e, hol, hor⟩ := shift_Done_ok rfl h0
    obtain ⟨o1, e1, hl1, hr1⟩ := done_eq (done_frame h1 h2 hol hor) (s := { Shf.zero with top := s.top, bottom := s.bottom, amt := (-s.amt) }) (by rw [hol]; exact check_neg h2)
    rw [e]
    simp only [decide_true, Bool.not_true, cond_false]
    rw [e1]
    simp only [decide_true, Bool.not_true, Bool.false_or]
    rw [show decide ((o1.length : Int) = (rows.length : Int)) = true from decide_eq_true (by omega)]
    simp only [Bool.not_true, cond_false]
    refine back_l2 s _ rows h2 (fun t ht hn => ?_) rows 0 (by simp)
    have hk := shift_Check_ok h2
    show o1.getD t [] = _
    rw [hr1 t (by omega)]
    unfold shRow
    have hs1 := source_if { Shf.zero with top := s.top, bottom := s.bottom, amt := (-s.amt) } (t : Int)
    simp only at hs1
    by_cases hin : (t : Int) < s.top ∨ s.bottom < (t : Int)
    · rw [if_pos hin] at hs1
      rw [hs1, if_pos (by omega), Int.toNat_natCast, hor t ht]
      unfold shRow
      rw [source_if, if_pos hin, if_pos (by omega), Int.toNat_natCast]
    · rw [if_neg hin, if_pos (by omega)] at hs1
      rw [hs1, if_pos (by omega), hor _ (by omega)]
      unfold shRow
      have hq : shift_source s (((t : Int) + -s.amt).toNat : Int) = t := by rw [source_if, if_neg (by omega), if_pos (by omega)]; omega
      rw [hq, if_pos (by omega), Int.toNat_natCast]
  · rw [decide_eq_false h0]
    simp only [Bool.not_false, cond_true]
    rw [done_err h0]; rfl
end Go.Proofs.YtinkdfnpmoljfaaGreatDoor

