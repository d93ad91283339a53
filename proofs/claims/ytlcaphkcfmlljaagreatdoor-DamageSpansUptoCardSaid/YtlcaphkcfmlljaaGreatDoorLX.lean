import Derived.Test.YtlcaphkcfmlljaaGreatDoorLS
set_option linter.unusedVariables false
set_option linter.unusedSimpArgs false
set_option linter.unnecessarySimpa false
namespace Go.Proofs.YtlcaphkcfmlljaaGreatDoor
open Go Go.Fen
/-! spans by what they cover -/
def Cv (l : List Sp3) (r i : Int) : Prop := ∃ s ∈ l, s.row = r ∧ s.frm ≤ i ∧ i < s.to
def Lt4 (x y : Sp3) : Prop := x.row < y.row ∨ (x.row = y.row ∧ x.to < y.frm)
theorem Cv.cons {x : Sp3} {l : List Sp3} {r i : Int} : Cv (x :: l) r i ↔ (x.row = r ∧ x.frm ≤ i ∧ i < x.to) ∨ Cv l r i := by
  constructor
  · rintro ⟨s, hs, h⟩
    rcases List.mem_cons.1 hs with rfl | hs
    · exact Or.inl h
    · exact Or.inr ⟨s, hs, h⟩
  · rintro (h | ⟨s, hs, h⟩)
    · exact ⟨x, List.mem_cons_self .., h⟩
    · exact ⟨s, List.mem_cons_of_mem _ hs, h⟩
theorem Cv.nil {r i : Int} : ¬ Cv [] r i := fun ⟨s, hs, _⟩ => absurd hs List.not_mem_nil
theorem Cv.append {l m : List Sp3} {r i : Int} : Cv (l ++ m) r i ↔ Cv l r i ∨ Cv m r i := by
  constructor
  · rintro ⟨s, hs, h⟩
    rcases List.mem_append.1 hs with hs | hs
    · exact Or.inl ⟨s, hs, h⟩
    · exact Or.inr ⟨s, hs, h⟩
  · rintro (⟨s, hs, h⟩ | ⟨s, hs, h⟩)
    · exact ⟨s, List.mem_append_left _ hs, h⟩
    · exact ⟨s, List.mem_append_right _ hs, h⟩
theorem cv_eq : ∀ l m : List Sp3, l.Pairwise Lt4 → m.Pairwise Lt4 → (∀ s ∈ l, s.frm < s.to) → (∀ s ∈ m, s.frm < s.to) → (∀ r i, Cv l r i ↔ Cv m r i) → l = m
  | [], [], _, _, _, _, _ => rfl
  | [], y :: m, _, _, _, hm, h => by
    have := hm y (List.mem_cons_self ..)
    exact absurd ((h y.row y.frm).2 (Cv.cons.2 (Or.inl ⟨rfl, Int.le_refl _, this⟩))) Cv.nil
  | x :: l, [], _, _, hl, _, h => by
    have := hl x (List.mem_cons_self ..)
    exact absurd ((h x.row x.frm).1 (Cv.cons.2 (Or.inl ⟨rfl, Int.le_refl _, this⟩))) Cv.nil
  | x :: l, y :: m, pl, pm, hl, hm, h => by
    have hx := hl x (List.mem_cons_self ..)
    have hy := hm y (List.mem_cons_self ..)
    obtain ⟨px, pl2⟩ := List.pairwise_cons.1 pl
    obtain ⟨py, pm2⟩ := List.pairwise_cons.1 pm
    have first : ∀ {x : Sp3} {l : List Sp3}, (∀ z ∈ l, Lt4 x z) → (x.frm < x.to) → ∀ r i, Cv (x :: l) r i → x.row < r ∨ (x.row = r ∧ x.frm ≤ i) := fun {x l} px hx r i hc => by
      rcases Cv.cons.1 hc with h | ⟨z, hz, h⟩
      · exact Or.inr ⟨h.1, h.2.1⟩
      · have := px z hz; unfold Lt4 at this; omega
    have h1 := first px hx _ _ ((h y.row y.frm).2 (Cv.cons.2 (Or.inl ⟨rfl, Int.le_refl _, hy⟩)))
    have h2 := first py hy _ _ ((h x.row x.frm).1 (Cv.cons.2 (Or.inl ⟨rfl, Int.le_refl _, hx⟩)))
    have e1 : x.row = y.row := by omega
    have e2 : x.frm = y.frm := by omega
    have gap : ∀ {x : Sp3} {l : List Sp3}, (∀ z ∈ l, Lt4 x z) → ∀ i, x.to ≤ i → Cv (x :: l) x.row i → x.to < i := fun {x l} px i hi hc => by
      rcases Cv.cons.1 hc with h | ⟨z, hz, h⟩
      · omega
      · have := px z hz; unfold Lt4 at this; omega
    have e3 : x.to = y.to := by
      rcases Int.lt_trichotomy x.to y.to with hlt | he | hlt
      · have := gap px x.to (Int.le_refl _) ((h x.row x.to).2 (Cv.cons.2 (Or.inl ⟨e1.symm, by omega, hlt⟩))); omega
      · exact he
      · have := gap py y.to (Int.le_refl _) ((h y.row y.to).1 (Cv.cons.2 (Or.inl ⟨e1, by omega, hlt⟩))); omega
    have e : x = y := by cases x; cases y; simp only at e1 e2 e3; subst e1 e2 e3; rfl
    subst e
    have out : ∀ {l : List Sp3}, (∀ z ∈ l, Lt4 x z) → ∀ r i, Cv l r i → ¬ (x.row = r ∧ x.frm ≤ i ∧ i < x.to) := fun {l} px r i ⟨z, hz, hc⟩ hh => by
      have := px z hz; unfold Lt4 at this; have := hl; have : z.frm ≤ i := hc.2.1; omega
    rw [cv_eq l m pl2 pm2 (fun s hs => hl s (List.mem_cons_of_mem _ hs)) (fun s hs => hm s (List.mem_cons_of_mem _ hs)) fun r i => ⟨fun hc => ?_, fun hc => ?_⟩]
    · rcases Cv.cons.1 ((h r i).1 (Cv.cons.2 (Or.inr hc))) with hh | hh
      · exact absurd hh (out px r i hc)
      · exact hh
    · rcases Cv.cons.1 ((h r i).2 (Cv.cons.2 (Or.inr hc))) with hh | hh
      · exact absurd hh (out py r i hc)
      · exact hh
/-! the program's spans -/
def Lk (a b : List Cel) (i : Nat) : Prop := damage_linked a b (i : Int) = true
def Dff (a b : List Cel) (i : Nat) : Prop := a.getD i Cel.zero ≠ b.getD i Cel.zero
def Rch (a b : List Cel) (i : Nat) : Prop := ∃ j, j < a.length ∧ Dff a b j ∧ ∀ k, (i ≤ k ∧ k < j) ∨ (j ≤ k ∧ k < i) → Lk a b k
def SpR (a b : List Cel) (r : Int) (s : Sp3) : Prop := s.row = r ∧ ∀ i : Nat, s.frm ≤ i → (i : Int) < s.to → i < a.length ∧ Rch a b i
theorem l3_rch (a b : List Cel) (r : Int) (f : Nat) (ag : Nat → List Sp3) (hag : ∀ t, t ≤ a.length → ∀ s ∈ ag t, SpR a b r s) :
    ∀ (fu to : Nat) (d : Bool), f < to → to ≤ a.length → (∀ k, f ≤ k → k + 1 < to → Lk a b k) → (d = true → ∃ i, f ≤ i ∧ i < to ∧ Dff a b i) → ∀ s ∈ damage_spans_1_l3 a b r f ag fu to d, SpR a b r s
  | 0, to, d, _, _, _, _, s, hs => by simp [damage_spans_1_l3] at hs
  | fu + 1, to, d, h1, h2, h3, hd, s, hs => by
    simp only [damage_spans_1_l3] at hs
    cases hc : (decide ((to : Int) < (a.length : Int)) && damage_linked a b ((to : Int) - 1)) with
    | true =>
      rw [hc, cond_true] at hs
      simp only [Bool.and_eq_true, decide_eq_true_eq] at hc
      refine l3_rch a b r f ag hag fu (to + 1) _ (by omega) (by omega) (fun k hk hk2 => ?_) (fun hh => ?_) s hs
      · by_cases e : k + 1 = to
        · unfold Lk; rw [show (k : Int) = (to : Int) - 1 by omega]; exact hc.2
        · exact h3 k hk (by omega)
      · rcases Bool.or_eq_true _ _ ▸ hh with hh | hh
        · obtain ⟨i, h⟩ := hd hh; exact ⟨i, h.1, by omega, h.2.2⟩
        · exact ⟨to, by omega, by omega, by simpa [Dff] using hh⟩
    | false =>
      rw [hc, cond_false] at hs
      cases d with
      | false => exact hag to h2 s (by simpa using hs)
      | true =>
        simp only [cond_true, List.mem_cons] at hs
        rcases hs with rfl | hs
        · refine ⟨rfl, fun i hi hi2 => ?_⟩
          simp only at hi hi2
          obtain ⟨j, j1, j2, j3⟩ := hd rfl
          exact ⟨by omega, j, by omega, j3, fun k hk => h3 k (by omega) (by omega)⟩
        · exact hag to h2 s hs
theorem l2_rch (a b : List Cel) (r : Int) : ∀ (fu f : Nat), f ≤ a.length → ∀ s ∈ damage_spans_1_l2 a b r fu f, SpR a b r s
  | 0, f, _, s, hs => by simp [damage_spans_1_l2] at hs
  | fu + 1, f, h, s, hs => by
    simp only [damage_spans_1_l2] at hs
    cases hc : decide ((f : Int) < (a.length : Int)) with
    | false => rw [hc] at hs; simp at hs
    | true =>
      rw [hc, cond_true] at hs
      simp only [decide_eq_true_eq] at hc
      exact l3_rch a b r f _ (fun t ht => l2_rch a b r fu t ht) _ _ _ (by omega) (by omega) (fun k _ _ => by omega) (fun hh => ⟨f, by omega, by omega, by simpa [Dff] using hh⟩) s hs
def SpRG (A B : List (List Cel)) (s : Sp3) : Prop := ∃ r : Nat, s.row = r ∧ r < A.length ∧ ∀ i : Nat, s.frm ≤ i → (i : Int) < s.to → i < (A.getD r []).length ∧ Rch (A.getD r []) (B.getD r []) i
theorem SpRG.glue {A B : List (List Cel)} (x e : Sp3) (hx : SpRG A B x) (he : SpRG A B e) (h : damage_ends x e = true) : SpRG A B { x with to := (if e.to > x.to then e.to else x.to) } := by
  obtain ⟨r, r1, r2, r3⟩ := hx
  obtain ⟨r', r1', r2', r3'⟩ := he
  unfold damage_ends at h
  simp only [Bool.and_eq_true, decide_eq_true_eq] at h
  obtain rfl : r = r' := by omega
  refine ⟨r, r1, r2, fun i hi hi2 => ?_⟩
  simp only at hi hi2
  by_cases c : (i : Int) < x.to
  · exact r3 i hi c
  · refine r3' i (by omega) ?_
    split at hi2 <;> omega
theorem l0_rch (A B : List (List Cel)) : ∀ (rows : List (List Cel)) (t : Nat) (l : List Sp3), t + rows.length = A.length → (∀ i, i < rows.length → rows.getD i [] = A.getD (t + i) []) → (∀ x ∈ l, SpRG A B x) → ∀ x ∈ (damage_Spans_l0 B rows t l).1, SpRG A B x
  | [], t, l, _, _, hl => by simpa only [damage_Spans_l0] using hl
  | r :: rows, t, l, hn, hr, hl => by
    simp only [List.length_cons] at hn
    have h0 : r = A.getD t [] := by have := hr 0 (by simp); simpa using this
    simp only [damage_Spans_l0, damage_spans]
    refine Spans_r3_in (SpRG A B) (fun a b ha hb hab => SpRG.glue a b ha hb hab) t _ (fun l hl => l0_rch A B rows (t + 1) l (by omega) (fun i hi => by
      have := hr (i + 1) (by simp; omega)
      rw [show t + 1 + i = t + (i + 1) by omega, ← this]; rfl) hl) _ l ?_ hl
    intro s hs
    have := l2_rch r (B.getD t []) (t : Int) _ 0 (Nat.zero_le _) s hs
    rw [h0] at this
    exact ⟨t, this.1, by omega, this.2⟩
theorem spans_rch (A B : List (List Cel)) : ∀ x ∈ (damage_Spans_l0 B A 0 []).1, SpRG A B x :=
  l0_rch A B A 0 [] (by omega) (fun i _ => by rw [Nat.zero_add]) (fun x hx => absurd hx List.not_mem_nil)
end Go.Proofs.YtlcaphkcfmlljaaGreatDoor

