import Derived.Test.YtlcaphkcfmlljaaGreatDoorT5
set_option linter.unusedVariables false
set_option linter.unusedSimpArgs false
namespace Go.Proofs.YtlcaphkcfmlljaaGreatDoor
open Go Go.Fen
/-! Equality of slices, and the spans of two rows. -/
theorem getD_eq {α : Type} {xs : List α} {d : α} {i : Nat} (h : i < xs.length) : xs.getD i d = xs[i] := by simp [List.getD_eq_getElem?_getD, h]
theorem ext_getD {α : Type} {xs ys : List α} (d : α) (hl : xs.length = ys.length) (h : ∀ i, i < xs.length → xs.getD i d = ys.getD i d) : xs = ys := by
  apply List.ext_getElem hl
  intro i h1 h2
  have := h i h1
  rwa [getD_eq h1, getD_eq h2] at this
theorem equal_spans_l0 (s2 : List Sp3) : ∀ (xs : List Sp3) (t : Nat), slices_Equal_api_Span_api_Span_l0 s2 xs t = true ↔ ∀ i, i < xs.length → xs.getD i Sp3.zero = s2.getD (t + i) Sp3.zero
  | [], t => by simp [slices_Equal_api_Span_api_Span_l0]
  | x :: xs, t => by
    simp only [slices_Equal_api_Span_api_Span_l0]
    by_cases h : x = s2.getD t Sp3.zero
    · have ih := equal_spans_l0 s2 xs (t + 1)
      simp only [decide_eq_true h, Bool.not_true, cond_false]
      rw [ih]
      constructor
      · intro h2 i hi
        cases i with
        | zero => simpa using h
        | succ i => have := h2 i (by simpa using hi); rw [show t + (i + 1) = t + 1 + i by omega]; simpa using this
      · intro h2 i hi
        have := h2 (i + 1) (by simpa using hi)
        rw [show t + 1 + i = t + (i + 1) by omega]; simpa using this
    · simp only [decide_eq_false h, Bool.not_false, cond_true]
      constructor
      · intro h'; cases h'
      · intro h2; exact absurd (by simpa using h2 0 (by simp)) h
theorem equal_spans (s1 s2 : List Sp3) : slices_Equal_api_Span_api_Span s1 s2 = decide (s1 = s2) := by
  unfold slices_Equal_api_Span_api_Span
  by_cases hl : s1.length = s2.length
  · simp only [show decide ((s1.length : Int) = (s2.length : Int)) = true from decide_eq_true (by omega), Bool.not_true, cond_false]
    rw [Bool.eq_iff_iff, equal_spans_l0, decide_eq_true_eq]
    constructor
    · intro h; exact ext_getD Sp3.zero hl (fun i hi => by simpa using h i hi)
    · intro h i hi; rw [h]; simp
  · rw [show decide ((s1.length : Int) = (s2.length : Int)) = false from decide_eq_false (by omega), show decide (s1 = s2) = false by simp; rintro rfl; exact hl rfl]; rfl
/-! a row with itself -/
/-! two rows in either order -/
/-! rows without spans are equal -/
/-! all rows -/
theorem r3_snd (t : Nat) (ag : Nat → List Sp3 → List Sp3 × Int) (h : ∀ l, (ag (t + 1) l).2 = 0) : ∀ (es l : List Sp3), (damage_Spans_r3 t ag es l).2 = 0
  | [], l => by simp only [damage_Spans_r3, h]
  | e :: es, l => by simp only [damage_Spans_r3, bindV, r3_snd t ag h es]
theorem l0_snd (B : List (List Cel)) : ∀ (rows : List (List Cel)) (t : Nat) (l : List Sp3), (damage_Spans_l0 B rows t l).2 = 0
  | [], t, l => rfl
  | r :: rows, t, l => by simp only [damage_Spans_l0, r3_snd t _ (fun l => l0_snd B rows (t + 1) l)]
/-! checks -/
theorem frame_l0_val (c : Int) : ∀ (rows : List (List Cel)) (ok : Bool) (t : Nat), frame_Check_l0 c rows ok t = 0 ∨ frame_Check_l0 c rows ok t = 330
  | [], ok, t => by cases ok <;> simp [frame_Check_l0]
  | r :: rows, ok, t => by
    simp only [frame_Check_l0]
    generalize ((ok && decide ((r.length : Int) = c)) && decide (row_Check r false = 0)) = b
    cases b <;> simp [frame_l0_val c rows]
theorem frame_val (c : Int) (rows : List (List Cel)) (cur : Plc) (v : Bool) (sh : Int) (ti : List UInt8) : frame_Check c rows cur v sh ti = 0 ∨ frame_Check c rows cur v sh ti = 330 := frame_l0_val _ _ _ _
theorem wakes_true : law24_wakes = true := by kernel_rfl
section
variable (ac : Int) (ar : List (List Cel)) (acu : Plc) (av : Bool) (ash : Int) (ati : List UInt8) (bc : Int) (br : List (List Cel)) (bcu : Plc) (bv' : Bool) (bsh : Int) (bti : List UInt8)
theorem spans_of (h : damage_checked ac ar acu av ash ati bc br bcu bv' bsh bti = 0) : damage_Spans ac ar acu av ash ati bc br bcu bv' bsh bti = damage_Spans_l0 br ar 0 [] := by
  unfold damage_Spans; rw [h]; rfl
theorem spans_no (h : damage_checked ac ar acu av ash ati bc br bcu bv' bsh bti ≠ 0) : damage_Spans ac ar acu av ash ati bc br bcu bv' bsh bti = ([], damage_checked ac ar acu av ash ati bc br bcu bv' bsh bti) := by
  unfold damage_Spans; rw [decide_eq_false h]; rfl
end
end Go.Proofs.YtlcaphkcfmlljaaGreatDoor

