import Derived.Test.YtlcaphkcfmlljaaGreatDoorT5
set_option linter.unusedVariables false
set_option linter.unusedSimpArgs false
namespace Go.Proofs.YtlcaphkcfmlljaaGreatDoor
open Go Go.Fen
/-! Equality of slices, and the spans of two rows. -/
theorem getD_eq {α : Type} {xs : List α} {d : α} {i : Nat} (h : i < xs.length) : xs.getD i d = xs[i] := by simp [List.getD_eq_getElem?_getD, h]
theorem ext_getD {α : Type} {xs ys : List α} (d : α) (hl : xs.length = ys.length) (h : ∀ i, i < xs.length → xs.getD i d = ys.getD i d) : xs = ys := by
  apply List.ext_getElem hl
  intro i h1 h2
  have := h i h1
  rwa [getD_eq h1, getD_eq h2] at this
theorem equal_spans_l0 (s2 : List Sp3) : ∀ (xs : List Sp3) (t : Nat), slices_Equal_api_Span_api_Span_l0 s2 xs t = true ↔ ∀ i, i < xs.length → xs.getD i Sp3.zero = s2.getD (t + i) Sp3.zero
  | [], t => by simp [slices_Equal_api_Span_api_Span_l0]
  | x :: xs, t => by
    simp only [slices_Equal_api_Span_api_Span_l0]
    by_cases h : x = s2.getD t Sp3.zero
    · have ih := equal_spans_l0 s2 xs (t + 1)
      simp only [decide_eq_true h, Bool.not_true, cond_false]
      rw [ih]
      constructor
      · intro h2 i hi
        cases i with
        | zero => simpa using h
        | succ i => have := h2 i (by simpa using hi); rw [show t + (i + 1) = t + 1 + i by omega]; simpa using this
      · intro h2 i hi
        have := h2 (i + 1) (by simpa using hi)
        rw [show t + 1 + i = t + (i + 1) by omega]; simpa using this
    · simp only [decide_eq_false h, Bool.not_false, cond_true]
      constructor
      · intro h'; cases h'
      · intro h2; exact absurd (by simpa using h2 0 (by simp)) h
theorem equal_spans (s1 s2 : List Sp3) : slices_Equal_api_Span_api_Span s1 s2 = decide (s1 = s2) := by
  unfold slices_Equal_api_Span_api_Span
  by_cases hl : s1.length = s2.length
  · simp only [show decide ((s1.length : Int) = (s2.length : Int)) = true from decide_eq_true (by omega), Bool.not_true, cond_false]
    rw [Bool.eq_iff_iff, equal_spans_l0, decide_eq_true_eq]
    constructor
    · intro h; exact ext_getD Sp3.zero hl (fun i hi => by simpa using h i hi)
    · intro h i hi; rw [h]; simp
  · rw [show decide ((s1.length : Int) = (s2.length : Int)) = false from decide_eq_false (by omega), show decide (s1 = s2) = false by simp; rintro rfl; exact hl rfl]; rfl
theorem equal_cells_l0 (s2 : List Cel) : ∀ (xs : List Cel) (t : Nat), slices_Equal_api_Cell_api_Cell_l0 s2 xs t = true ↔ ∀ i, i < xs.length → xs.getD i Cel.zero = s2.getD (t + i) Cel.zero
  | [], t => by simp [slices_Equal_api_Cell_api_Cell_l0]
  | x :: xs, t => by
    simp only [slices_Equal_api_Cell_api_Cell_l0]
    by_cases h : x = s2.getD t Cel.zero
    · have ih := equal_cells_l0 s2 xs (t + 1)
      simp only [decide_eq_true h, Bool.not_true, cond_false]
      rw [ih]
      constructor
      · intro h2 i hi
        cases i with
        | zero => simpa using h
        | succ i => have := h2 i (by simpa using hi); rw [show t + (i + 1) = t + 1 + i by omega]; simpa using this
      · intro h2 i hi
        have := h2 (i + 1) (by simpa using hi)
        rw [show t + 1 + i = t + (i + 1) by omega]; simpa using this
    · simp only [decide_eq_false h, Bool.not_false, cond_true]
      constructor
      · intro h'; cases h'
      · intro h2; exact absurd (by simpa using h2 0 (by simp)) h
theorem equal_cells (s1 s2 : List Cel) : slices_Equal_api_Cell_api_Cell s1 s2 = decide (s1 = s2) := by
  unfold slices_Equal_api_Cell_api_Cell
  by_cases hl : s1.length = s2.length
  · simp only [show decide ((s1.length : Int) = (s2.length : Int)) = true from decide_eq_true (by omega), Bool.not_true, cond_false]
    rw [Bool.eq_iff_iff, equal_cells_l0, decide_eq_true_eq]
    constructor
    · intro h; exact ext_getD Cel.zero hl (fun i hi => by simpa using h i hi)
    · intro h i hi; rw [h]; simp
  · rw [show decide ((s1.length : Int) = (s2.length : Int)) = false from decide_eq_false (by omega), show decide (s1 = s2) = false by simp; rintro rfl; exact hl rfl]; rfl
theorem equal_rows_l0 (s2 : List (List Cel)) : ∀ (xs : List (List Cel)) (t : Nat), slices_EqualFunc_api_Cell_api_Cell_api_Cell_api_Cell_l0 s2 xs t = true ↔ ∀ i, i < xs.length → xs.getD i [] = s2.getD (t + i) []
  | [], t => by simp [slices_EqualFunc_api_Cell_api_Cell_api_Cell_api_Cell_l0]
  | x :: xs, t => by
    simp only [slices_EqualFunc_api_Cell_api_Cell_api_Cell_api_Cell_l0, equal_cells]
    by_cases h : x = s2.getD t []
    · have ih := equal_rows_l0 s2 xs (t + 1)
      simp only [decide_eq_true h, Bool.not_true, cond_false]
      rw [ih]
      constructor
      · intro h2 i hi
        cases i with
        | zero => simpa using h
        | succ i => have := h2 i (by simpa using hi); rw [show t + (i + 1) = t + 1 + i by omega]; simpa using this
      · intro h2 i hi
        have := h2 (i + 1) (by simpa using hi)
        rw [show t + 1 + i = t + (i + 1) by omega]; simpa using this
    · simp only [decide_eq_false h, Bool.not_false, cond_true]
      constructor
      · intro h'; cases h'
      · intro h2; exact absurd (by simpa using h2 0 (by simp)) h
theorem equal_rows (s1 s2 : List (List Cel)) : slices_EqualFunc_api_Cell_api_Cell_api_Cell_api_Cell s1 s2 = decide (s1 = s2) := by
  unfold slices_EqualFunc_api_Cell_api_Cell_api_Cell_api_Cell
  by_cases hl : s1.length = s2.length
  · simp only [show decide ((s1.length : Int) = (s2.length : Int)) = true from decide_eq_true (by omega), Bool.not_true, cond_false]
    rw [Bool.eq_iff_iff, equal_rows_l0, decide_eq_true_eq]
    constructor
    · intro h; exact ext_getD [] hl (fun i hi => by simpa using h i hi)
    · intro h i hi; rw [h]; simp
  · rw [show decide ((s1.length : Int) = (s2.length : Int)) = false from decide_eq_false (by omega), show decide (s1 = s2) = false by simp; rintro rfl; exact hl rfl]; rfl
/-! a row with itself -/
theorem spans_l3_self (c : List Cel) (r : Int) (f : Nat) (ag : Nat → List Sp3) (hag : ∀ t, ag t = []) : ∀ (fu to : Nat), damage_spans_1_l3 c c r f ag fu to false = []
  | 0, to => rfl
  | fu + 1, to => by
    simp only [damage_spans_1_l3, decide_true, Bool.not_true, Bool.or_false, cond_false, hag, spans_l3_self c r f ag hag fu]
    cases (decide ((to : Int) < (c.length : Int)) && damage_linked c c ((to : Int) - 1)) <;> rfl
theorem spans_l2_self (c : List Cel) (r : Int) : ∀ (fu f : Nat), damage_spans_1_l2 c c r fu f = []
  | 0, f => rfl
  | fu + 1, f => by
    simp only [damage_spans_1_l2, decide_true, Bool.not_true, spans_l3_self c r f _ (fun t => spans_l2_self c r fu t)]
    cases decide ((f : Int) < (c.length : Int)) <;> rfl
theorem spans_self (c : List Cel) (r : Int) : damage_spans_1 c c r = [] := spans_l2_self c r _ _
/-! two rows in either order -/
theorem dec_comm {α : Type} [DecidableEq α] (a b : α) : decide (a = b) = decide (b = a) := by
  by_cases h : a = b
  · subst h; rfl
  · rw [decide_eq_false h, decide_eq_false (fun e => h e.symm)]
theorem linked_comm (a b : List Cel) (i : Int) : damage_linked a b i = damage_linked b a i := by unfold damage_linked; exact Bool.or_comm _ _
theorem spans_l3_comm (a b : List Cel) (hl : a.length = b.length) (r : Int) (f : Nat) (ag ag' : Nat → List Sp3) (hag : ∀ t, ag t = ag' t) : ∀ (fu to : Nat) (d : Bool), damage_spans_1_l3 a b r f ag fu to d = damage_spans_1_l3 b a r f ag' fu to d
  | 0, to, d => rfl
  | fu + 1, to, d => by
    simp only [damage_spans_1_l3, hl, linked_comm a b, hag, dec_comm (a.getD to Cel.zero) (b.getD to Cel.zero), spans_l3_comm a b hl r f ag ag' hag fu]
theorem spans_l2_comm (a b : List Cel) (hl : a.length = b.length) (r : Int) : ∀ (fu f : Nat), damage_spans_1_l2 a b r fu f = damage_spans_1_l2 b a r fu f
  | 0, f => rfl
  | fu + 1, f => by
    simp only [damage_spans_1_l2, hl, dec_comm (a.getD f Cel.zero) (b.getD f Cel.zero)]
    rw [spans_l3_comm a b hl r f _ _ (fun t => spans_l2_comm a b hl r fu t)]
theorem spans_comm (a b : List Cel) (hl : a.length = b.length) (r : Int) : damage_spans_1 a b r = damage_spans_1 b a r := by
  unfold damage_spans_1; rw [hl]; exact spans_l2_comm a b hl r _ _
/-! rows without spans are equal -/
theorem spans_l3_nil (a b : List Cel) (r : Int) (f : Nat) (ag : Nat → List Sp3) : ∀ (fu to : Nat) (d : Bool), to ≤ a.length → a.length - to < fu → damage_spans_1_l3 a b r f ag fu to d = [] →
    d = false ∧ ∃ to', to ≤ to' ∧ to' ≤ a.length ∧ ag to' = [] ∧ ∀ i, to ≤ i → i < to' → a.getD i Cel.zero = b.getD i Cel.zero
  | 0, to, d, _, h, _ => by omega
  | fu + 1, to, d, hle, hf, h => by
    simp only [damage_spans_1_l3] at h
    cases hc : (decide ((to : Int) < (a.length : Int)) && damage_linked a b ((to : Int) - 1)) with
    | true =>
      rw [hc, cond_true] at h
      simp only [Bool.and_eq_true, decide_eq_true_eq] at hc
      obtain ⟨hd, to', h1, h1', h2, h3⟩ := spans_l3_nil a b r f ag fu (to + 1) _ (by omega) (by omega) h
      simp only [Bool.or_eq_false_iff, Bool.not_eq_false', decide_eq_true_eq] at hd
      refine ⟨hd.1, to', by omega, h1', h2, fun i hi hi' => ?_⟩
      by_cases e : i = to
      · rw [e]; exact hd.2
      · exact h3 i (by omega) hi'
    | false =>
      rw [hc, cond_false] at h
      cases d with
      | true => simp at h
      | false => exact ⟨rfl, to, Nat.le_refl _, hle, by simpa using h, fun i hi hi' => by omega⟩
theorem spans_l2_nil (a b : List Cel) (r : Int) : ∀ (fu f : Nat), f ≤ a.length → a.length - f < fu → damage_spans_1_l2 a b r fu f = [] → ∀ i, f ≤ i → i < a.length → a.getD i Cel.zero = b.getD i Cel.zero
  | 0, f, _, h, _ => by omega
  | fu + 1, f, hle, hf, h => by
    intro i hi hi'
    simp only [damage_spans_1_l2, show decide ((f : Int) < (a.length : Int)) = true by simp; omega, cond_true] at h
    obtain ⟨hd, to', h1, h1', h2, h3⟩ := spans_l3_nil a b r f _ _ _ _ (by omega) (by omega) h
    simp only [Bool.not_eq_false', decide_eq_true_eq] at hd
    by_cases e : i = f
    · rw [e]; exact hd
    · by_cases e2 : i < to'
      · exact h3 i (by omega) e2
      · exact spans_l2_nil a b r fu to' h1' (by omega) h2 i (by omega) hi'
theorem spans_nil (a b : List Cel) (hl : a.length = b.length) (r : Int) (h : damage_spans_1 a b r = []) : a = b :=
  ext_getD Cel.zero hl fun i hi => spans_l2_nil a b r _ 0 (Nat.zero_le _) (by omega) h i (Nat.zero_le _) hi
/-! all rows -/
theorem adda_ne (g : List Sp3) (s : Sp3) : damage_gatherer_adda g s ≠ [] := by
  unfold damage_gatherer_adda
  cases h : (decide ((0 : Int) < (g.length : Int)) && damage_ends (g.getD (g.length - 1) Sp3.zero) s) with
  | false => simp
  | true =>
    simp only [Bool.and_eq_true, decide_eq_true_eq] at h
    simp only [cond_true, ne_eq]
    intro e
    have := congrArg List.length e
    simp at this; subst this; simp at h
theorem r3_ne (t : Nat) (ag : Nat → List Sp3 → List Sp3 × Int) (hag : ∀ l, l ≠ [] → (ag (t + 1) l).1 ≠ []) : ∀ (es l : List Sp3), l ≠ [] → (damage_Spans_r3 t ag es l).1 ≠ []
  | [], l, h => by simpa only [damage_Spans_r3] using hag l h
  | e :: es, l, h => by simpa only [damage_Spans_r3, bindV] using r3_ne t ag hag es _ (adda_ne l e)
theorem l0_ne (B : List (List Cel)) : ∀ (rows : List (List Cel)) (t : Nat) (l : List Sp3), l ≠ [] → (damage_Spans_l0 B rows t l).1 ≠ []
  | [], t, l, h => by simpa only [damage_Spans_l0] using h
  | r :: rows, t, l, h => by simpa only [damage_Spans_l0] using r3_ne t _ (fun l h => l0_ne B rows (t + 1) l h) _ l h
theorem l0_nil (B : List (List Cel)) : ∀ (rows : List (List Cel)) (t : Nat), (damage_Spans_l0 B rows t []).1 = [] → ∀ i, i < rows.length → damage_spans_1 (rows.getD i []) (B.getD (t + i) []) ((t + i : Nat) : Int) = []
  | [], t, _, i, hi => by simp at hi
  | r :: rows, t, h, i, hi => by
    simp only [damage_Spans_l0, damage_spans] at h
    cases hs : damage_spans_1 r (B.getD t []) (t : Int) with
    | cons e es =>
      rw [hs] at h
      simp only [damage_Spans_r3, bindV] at h
      exact absurd h (r3_ne t _ (fun l h => l0_ne B rows (t + 1) l h) es _ (adda_ne [] e))
    | nil =>
      rw [hs] at h
      simp only [damage_Spans_r3] at h
      cases i with
      | zero => simpa using hs
      | succ i =>
        have := l0_nil B rows (t + 1) h i (by simpa using hi)
        rw [show t + (i + 1) = t + 1 + i by omega]; simpa using this
theorem l0_self (B : List (List Cel)) : ∀ (rows : List (List Cel)) (t : Nat), (∀ i, i < rows.length → rows.getD i [] = B.getD (t + i) []) → damage_Spans_l0 B rows t [] = ([], 0)
  | [], t, _ => rfl
  | r :: rows, t, h => by
    have h0 : r = B.getD t [] := by simpa using h 0 (by simp)
    simp only [damage_Spans_l0, damage_spans, ← h0, spans_self, damage_Spans_r3]
    exact l0_self B rows (t + 1) fun i hi => by
      have := h (i + 1) (by simpa using hi)
      rw [show t + 1 + i = t + (i + 1) by omega]; simpa using this
theorem r3_congr (t : Nat) (ag ag' : Nat → List Sp3 → List Sp3 × Int) (h : ∀ l, ag (t + 1) l = ag' (t + 1) l) : ∀ (es l : List Sp3), damage_Spans_r3 t ag es l = damage_Spans_r3 t ag' es l
  | [], l => by simp only [damage_Spans_r3, h]
  | e :: es, l => by simp only [damage_Spans_r3, bindV, r3_congr t ag ag' h es]
theorem l0_comm (A B : List (List Cel)) (hl : A.length = B.length) (hr : ∀ i, i < A.length → (A.getD i []).length = (B.getD i []).length) : ∀ (n t : Nat) (l : List Sp3), A.length - t = n → t ≤ A.length → damage_Spans_l0 B (A.drop t) t l = damage_Spans_l0 A (B.drop t) t l
  | 0, t, l, h, ht => by rw [List.drop_eq_nil_of_le (by omega), List.drop_eq_nil_of_le (by omega)]; rfl
  | n + 1, t, l, h, ht => by
    have h1 : t < A.length := by omega
    have h2 : t < B.length := by omega
    have hrt := hr t h1
    rw [List.drop_eq_getElem_cons h1, List.drop_eq_getElem_cons h2]
    simp only [damage_Spans_l0, damage_spans]
    rw [getD_eq h1, getD_eq h2] at *
    rw [spans_comm _ _ hrt]
    exact r3_congr t _ _ (fun l => l0_comm A B hl hr n (t + 1) l (by omega) (by omega)) _ _
theorem r3_snd (t : Nat) (ag : Nat → List Sp3 → List Sp3 × Int) (h : ∀ l, (ag (t + 1) l).2 = 0) : ∀ (es l : List Sp3), (damage_Spans_r3 t ag es l).2 = 0
  | [], l => by simp only [damage_Spans_r3, h]
  | e :: es, l => by simp only [damage_Spans_r3, bindV, r3_snd t ag h es]
theorem l0_snd (B : List (List Cel)) : ∀ (rows : List (List Cel)) (t : Nat) (l : List Sp3), (damage_Spans_l0 B rows t l).2 = 0
  | [], t, l => rfl
  | r :: rows, t, l => by simp only [damage_Spans_l0, r3_snd t _ (fun l => l0_snd B rows (t + 1) l)]
/-! checks -/
theorem frame_l0_val (c : Int) : ∀ (rows : List (List Cel)) (ok : Bool) (t : Nat), frame_Check_l0 c rows ok t = 0 ∨ frame_Check_l0 c rows ok t = 330
  | [], ok, t => by cases ok <;> simp [frame_Check_l0]
  | r :: rows, ok, t => by
    simp only [frame_Check_l0]
    generalize ((ok && decide ((r.length : Int) = c)) && decide (row_Check r false = 0)) = b
    cases b <;> simp [frame_l0_val c rows]
theorem frame_val (c : Int) (rows : List (List Cel)) (cur : Plc) (v : Bool) (sh : Int) (ti : List UInt8) : frame_Check c rows cur v sh ti = 0 ∨ frame_Check c rows cur v sh ti = 330 := frame_l0_val _ _ _ _
theorem checked_self (c : Int) (rows : List (List Cel)) (cur : Plc) (v : Bool) (sh : Int) (ti : List UInt8) : damage_checked c rows cur v sh ti c rows cur v sh ti = frame_Check c rows cur v sh ti := by
  unfold damage_checked
  rcases frame_val c rows cur v sh ti with h | h <;> rw [h] <;> simp
theorem wakes_true : law24_wakes = true := by kernel_rfl
section
variable (ac : Int) (ar : List (List Cel)) (acu : Plc) (av : Bool) (ash : Int) (ati : List UInt8) (bc : Int) (br : List (List Cel)) (bcu : Plc) (bv' : Bool) (bsh : Int) (bti : List UInt8)
theorem checked_comm : damage_checked ac ar acu av ash ati bc br bcu bv' bsh bti = damage_checked bc br bcu bv' bsh bti ac ar acu av ash ati := by
  unfold damage_checked
  rcases frame_val ac ar acu av ash ati with h | h <;> rcases frame_val bc br bcu bv' bsh bti with h' | h' <;> rw [h, h'] <;> simp [dec_comm ac bc, dec_comm (ar.length : Int) br.length]
theorem spans_of (h : damage_checked ac ar acu av ash ati bc br bcu bv' bsh bti = 0) : damage_Spans ac ar acu av ash ati bc br bcu bv' bsh bti = damage_Spans_l0 br ar 0 [] := by
  unfold damage_Spans; rw [h]; rfl
theorem spans_no (h : damage_checked ac ar acu av ash ati bc br bcu bv' bsh bti ≠ 0) : damage_Spans ac ar acu av ash ati bc br bcu bv' bsh bti = ([], damage_checked ac ar acu av ash ati bc br bcu bv' bsh bti) := by
  unfold damage_Spans; rw [decide_eq_false h]; rfl
theorem damageSame_law : law24_DamageSame ac ar acu av ash ati bc br bcu bv' bsh bti = true := by
  unfold law24_DamageSame
  rw [wakes_true]
  simp only [Bool.not_true, cond_false, bindV]
  -- a frame with itself
  have hself : ∀ c rows cur v sh ti, damage_Spans c rows cur v sh ti c rows cur v sh ti = ([], frame_Check c rows cur v sh ti) := by
    intro c rows cur v sh ti
    by_cases h : frame_Check c rows cur v sh ti = 0
    · rw [spans_of _ _ _ _ _ _ _ _ _ _ _ _ (by rw [checked_self]; exact h), l0_self rows rows 0 (fun i hi => by simp), h]
    · rw [spans_no _ _ _ _ _ _ _ _ _ _ _ _ (by rw [checked_self]; exact h), checked_self]
  rw [hself]
  have e0 : ((decide ((0 : Int) < (([] : List Sp3).length : Int))) || (!((decide (frame_Check ac ar acu av ash ati = 0)) == (decide ((frame_Check ac ar acu av ash ati) = 0))))) = false := by simp
  simp only [e0, cond_false]
  by_cases h : damage_checked ac ar acu av ash ati bc br bcu bv' bsh bti = 0
  · have h' := h
    rw [checked_comm] at h'
    rw [spans_of _ _ _ _ _ _ _ _ _ _ _ _ h, spans_of _ _ _ _ _ _ _ _ _ _ _ _ h', l0_snd, l0_snd]
    have ok := damage_checked_ok h
    have hl := ok.2.2.2
    have hc := ok.2.2.1
    have hr : ∀ i, i < ar.length → (ar.getD i []).length = (br.getD i []).length := fun i hi => by
      have h1 := ok.1.2.2.2.2 i hi
      have h2 := ok.2.1.2.2.2.2 i (by omega)
      omega
    have hcm := l0_comm ar br hl hr ar.length 0 [] (by omega) (Nat.zero_le _)
    rw [List.drop_zero, List.drop_zero] at hcm
    rw [← hcm, equal_spans]
    have hcells : law24_cells ac ar acu av ash ati bc br bcu bv' bsh bti = decide (ar = br) := equal_rows ar br
    rw [hcells]
    simp only [decide_true, Bool.not_true, Bool.or_false, cond_false, Bool.true_and]
    rw [beq_iff_eq]
    by_cases e : ar = br
    · subst e
      rw [l0_self ar ar 0 (fun i hi => by simp)]
      simp
    · rw [decide_eq_false e, decide_eq_false]
      intro h0
      have h0' : (damage_Spans_l0 br ar 0 []).1 = [] := List.eq_nil_of_length_eq_zero (by omega)
      exact e (ext_getD [] hl fun i hi => by
        have := l0_nil br ar 0 h0' i hi
        rw [Nat.zero_add] at this
        exact spans_nil _ _ (hr i hi) _ this)
  · have h' := h
    rw [checked_comm] at h'
    rw [spans_no _ _ _ _ _ _ _ _ _ _ _ _ h, spans_no _ _ _ _ _ _ _ _ _ _ _ _ h', checked_comm ac ar acu av ash ati bc br bcu bv' bsh bti]
    simp [decide_eq_false h']
end
end Go.Proofs.YtlcaphkcfmlljaaGreatDoor
