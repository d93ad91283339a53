import Derived.Test.YtlcaphkcfmlljaaGreatDoorLS

set_option linter.unusedVariables false
set_option linter.unusedSimpArgs false
namespace Go.Proofs.YtlcaphkcfmlljaaGreatDoor
open Go Go.Fen
/-! The spans of two frames: in order, none touching the next, each with a difference, none cutting a wide cell, and whatever differs within one. -/
def Cov (l : List Sp3) (r i : Int) : Prop := ∃ s ∈ l, s.row = r ∧ s.frm ≤ i ∧ i < s.to
def Bd (a b : List Cel) (f : Nat) : Prop := f = 0 ∨ f = a.length ∨ damage_linked a b ((f : Int) - 1) = false
def Df (a b : List Cel) (i : Nat) : Prop := a.getD i Cel.zero ≠ b.getD i Cel.zero
def SpQ (a b : List Cel) (r : Int) (s : Sp3) : Prop :=
  s.row = r ∧ ∃ f t : Nat, s.frm = f ∧ s.to = t ∧ f < t ∧ t ≤ a.length ∧ (∃ i, f ≤ i ∧ i < t ∧ Df a b i) ∧ Bd a b f ∧ Bd a b t
def Chn (r : Int) : Int → List Sp3 → Prop
  | _, [] => True
  | f, e :: es => e.row = r ∧ f ≤ e.frm ∧ e.frm < e.to ∧ Chn r e.to es
theorem Chn.mono {r f f' : Int} (h : f' ≤ f) : ∀ {es : List Sp3}, Chn r f es → Chn r f' es
  | [], _ => trivial
  | e :: es, ⟨h1, h2, h3, h4⟩ => ⟨h1, by omega, h3, h4⟩
def Good (a b : List Cel) (r : Int) (f : Nat) (es : List Sp3) : Prop :=
  Chn r f es ∧ (∀ s ∈ es, SpQ a b r s) ∧ ∀ i : Nat, f ≤ i → i < a.length → Df a b i → Cov es r i
theorem l3_good (a b : List Cel) (r : Int) (f : Nat) (ag : Nat → List Sp3) (hag : ∀ t, f < t → t ≤ a.length → Bd a b t → Good a b r t (ag t)) (hbf : Bd a b f) :
    ∀ (fu to : Nat) (d : Bool), f < to → to ≤ a.length → a.length - to < fu → (d = true ↔ ∃ i, f ≤ i ∧ i < to ∧ Df a b i) → Good a b r f (damage_spans_1_l3 a b r f ag fu to d)
  | 0, to, d, _, _, h, _ => by omega
  | fu + 1, to, d, h1, h2, h3, hd => by
    simp only [damage_spans_1_l3]
    cases hc : (decide ((to : Int) < (a.length : Int)) && damage_linked a b ((to : Int) - 1)) with
    | true =>
      simp only [Bool.and_eq_true, decide_eq_true_eq] at hc
      rw [cond_true]
      refine l3_good a b r f ag hag hbf fu (to + 1) _ (by omega) (by omega) (by omega) ?_
      simp only [Bool.or_eq_true, Bool.not_eq_true', decide_eq_false_iff_not, hd]
      constructor
      · rintro (⟨i, h, h', h''⟩ | h)
        · exact ⟨i, h, by omega, h''⟩
        · exact ⟨to, by omega, by omega, h⟩
      · rintro ⟨i, h, h', h''⟩
        by_cases e : i = to
        · subst e; exact Or.inr h''
        · exact Or.inl ⟨i, h, by omega, h''⟩
    | false =>
      rw [cond_false]
      have hbt : Bd a b to := by
        by_cases e : to = a.length
        · exact Or.inr (Or.inl e)
        · rw [show decide ((to : Int) < (a.length : Int)) = true from decide_eq_true (by omega), Bool.true_and] at hc
          exact Or.inr (Or.inr hc)
      obtain ⟨g1, g2, g3⟩ := hag to h1 h2 hbt
      cases d with
      | true =>
        rw [cond_true]
        refine ⟨⟨rfl, Int.le_refl _, by simp only; omega, g1⟩, fun s hs => ?_, fun i hi hl hne => ?_⟩
        · rcases List.mem_cons.1 hs with rfl | hs
          · exact ⟨rfl, f, to, rfl, rfl, h1, h2, hd.1 rfl, hbf, hbt⟩
          · exact g2 s hs
        · by_cases e : i < to
          · exact ⟨_, List.mem_cons_self .., rfl, by simp only; omega, by simp only; omega⟩
          · obtain ⟨s, hs, h⟩ := g3 i (by omega) hl hne
            exact ⟨s, List.mem_cons_of_mem _ hs, h⟩
      | false =>
        rw [cond_false]
        refine ⟨g1.mono (by omega), g2, fun i hi hl hne => ?_⟩
        by_cases e : i < to
        · exact absurd (hd.2 ⟨i, hi, e, hne⟩) (by simp)
        · exact g3 i (by omega) hl hne
theorem l2_good (a b : List Cel) (r : Int) : ∀ (fu f : Nat), f ≤ a.length → a.length - f < fu → Bd a b f → Good a b r f (damage_spans_1_l2 a b r fu f)
  | 0, f, _, h, _ => by omega
  | fu + 1, f, hf, h, hb => by
    simp only [damage_spans_1_l2]
    by_cases e : f < a.length
    · rw [show decide ((f : Int) < (a.length : Int)) = true from decide_eq_true (by omega), cond_true]
      refine l3_good a b r f _ (fun t ht ht' hbt => l2_good a b r fu t ht' (by omega) hbt) hb _ _ _ (by omega) (by omega) (by omega) ?_
      simp only [Bool.not_eq_true', decide_eq_false_iff_not]
      constructor
      · intro h; exact ⟨f, Nat.le_refl _, by omega, h⟩
      · rintro ⟨i, h1, h2, h3⟩
        rwa [show i = f by omega] at h3
    · rw [show decide ((f : Int) < (a.length : Int)) = false from decide_eq_false (by omega), cond_false]
      exact ⟨trivial, fun s hs => absurd hs List.not_mem_nil, fun i h1 h2 => by omega⟩
theorem spans_good (a b : List Cel) (r : Int) : Good a b r 0 (damage_spans_1 a b r) := l2_good a b r _ 0 (Nat.zero_le _) (by omega) (Or.inl rfl)
/-! gathered -/
def Lt3 (x y : Sp3) : Prop := x.row < y.row ∨ (x.row = y.row ∧ x.to < y.frm)
def Below (g : List Sp3) (r f : Int) : Prop := ∀ x ∈ g, x.row < r ∨ (x.row = r ∧ x.to ≤ f)
def SpG (A B : List (List Cel)) (s : Sp3) : Prop := ∃ r : Nat, r < A.length ∧ SpQ (A.getD r []) (B.getD r []) r s
theorem SpG.lt {A B : List (List Cel)} {s : Sp3} (h : SpG A B s) : s.frm < s.to := by
  obtain ⟨r, _, _, f, t, h1, h2, h3, _⟩ := h; omega
theorem SpG.glue {A B : List (List Cel)} {x e : Sp3} (hx : SpG A B x) (he : SpG A B e) (hr : x.row = e.row) (ht : x.to = e.frm) : SpG A B { x with to := e.to } := by
  obtain ⟨r, hr1, hr2, f, t, h1, h2, h3, h4, ⟨i, i1, i2, i3⟩, b1, b2⟩ := hx
  obtain ⟨r', hr1', hr2', f', t', h1', h2', h3', h4', _, b1', b2'⟩ := he
  obtain rfl : r = r' := by omega
  exact ⟨r, hr1, hr2, f, t', h1, h2', by omega, h4', ⟨i, i1, by omega, i3⟩, b1, b2'⟩
structure Inv (A B : List (List Cel)) (g : List Sp3) (r f : Int) : Prop where
  below : Below g r f
  ord : g.Pairwise Lt3
  all : ∀ s ∈ g, SpG A B s
theorem adda_nil (e : Sp3) : damage_gatherer_adda [] e = [e] := by simp [damage_gatherer_adda]
theorem adda_snoc (g : List Sp3) (x e : Sp3) (h : x.frm < x.to) (h' : e.frm < e.to) : damage_gatherer_adda (g ++ [x]) e = if x.row = e.row ∧ x.to = e.frm then g ++ [{ x with to := e.to }] else g ++ [x] ++ [e] := by
  unfold damage_gatherer_adda
  have h1 : (g ++ [x]).getD ((g ++ [x]).length - 1) Sp3.zero = x := by simp
  rw [h1, show decide ((0 : Int) < ((g ++ [x]).length : Int)) = true from decide_eq_true (by simp only [List.length_append, List.length_singleton]; omega), Bool.true_and]
  by_cases c : x.row = e.row ∧ x.to = e.frm
  · rw [show damage_ends x e = true by simp [damage_ends, c], cond_true, if_pos c, if_pos (by omega)]
    simp
  · rw [show damage_ends x e = false by simp only [damage_ends, Bool.and_eq_false_iff, decide_eq_false_iff_not]; omega, cond_false, if_neg c]
theorem nil_or_snoc {α : Type} (g : List α) : g = [] ∨ ∃ g' x, g = g' ++ [x] := by
  rcases List.eq_nil_or_concat g with h | ⟨g', x, h⟩
  · exact Or.inl h
  · exact Or.inr ⟨g', x, by simpa using h⟩
theorem adda_inv {A B : List (List Cel)} {g : List Sp3} {r f : Int} {e : Sp3} (h : Inv A B g r f) (hr : e.row = r) (hf : f ≤ e.frm) (he : SpG A B e) : Inv A B (damage_gatherer_adda g e) r e.to := by
  have hlt := he.lt
  rcases nil_or_snoc g with rfl | ⟨g', x, rfl⟩
  · rw [adda_nil]
    exact ⟨fun y hy => by rw [List.mem_singleton.1 hy]; exact Or.inr ⟨hr, Int.le_refl _⟩, List.pairwise_singleton .., fun y hy => by rw [List.mem_singleton.1 hy]; exact he⟩
  · have hx : x ∈ g' ++ [x] := by simp
    have hxo := h.all x hx
    have hxl := hxo.lt
    have hxb := h.below x hx
    rw [adda_snoc _ _ _ hxl hlt]
    obtain ⟨o1, _, o3⟩ := List.pairwise_append.1 h.ord
    split
    · rename_i c
      refine ⟨fun y hy => ?_, List.pairwise_append.2 ⟨o1, List.pairwise_singleton .., fun y hy z hz => ?_⟩, fun y hy => ?_⟩
      · rcases List.mem_append.1 hy with hy | hy
        · rcases h.below y (List.mem_append_left _ hy) with h | h
          · exact Or.inl h
          · exact Or.inr ⟨h.1, by omega⟩
        · rw [List.mem_singleton.1 hy]; exact Or.inr ⟨by simp only; omega, Int.le_refl _⟩
      · rw [List.mem_singleton.1 hz]; exact o3 y hy x (by simp)
      · rcases List.mem_append.1 hy with hy | hy
        · exact h.all y (List.mem_append_left _ hy)
        · rw [List.mem_singleton.1 hy]; exact hxo.glue he c.1 c.2
    · rename_i c
      refine ⟨fun y hy => ?_, List.pairwise_append.2 ⟨h.ord, List.pairwise_singleton .., fun y hy z hz => ?_⟩, fun y hy => ?_⟩
      · rcases List.mem_append.1 hy with hy | hy
        · rcases h.below y hy with h | h
          · exact Or.inl h
          · exact Or.inr ⟨h.1, by omega⟩
        · rw [List.mem_singleton.1 hy]; exact Or.inr ⟨hr, Int.le_refl _⟩
      · rw [List.mem_singleton.1 hz]
        have hxe : Lt3 x e := by unfold Lt3; omega
        rcases List.mem_append.1 hy with hy | hy
        · have := o3 y hy x (by simp)
          unfold Lt3 at *; omega
        · rw [List.mem_singleton.1 hy]; exact hxe
      · rcases List.mem_append.1 hy with hy | hy
        · exact h.all y hy
        · rw [List.mem_singleton.1 hy]; exact he
theorem adda_cov {A B : List (List Cel)} {g : List Sp3} {r f : Int} {e : Sp3} (h : Inv A B g r f) (he : SpG A B e) {q i : Int} (hc : Cov g q i ∨ (e.row = q ∧ e.frm ≤ i ∧ i < e.to)) : Cov (damage_gatherer_adda g e) q i := by
  have hlt := he.lt
  rcases nil_or_snoc g with rfl | ⟨g', x, rfl⟩
  · rw [adda_nil]
    rcases hc with ⟨s, hs, _⟩ | hc
    · exact absurd hs List.not_mem_nil
    · exact ⟨e, by simp, hc⟩
  · have hx : x ∈ g' ++ [x] := by simp
    have hxl := (h.all x hx).lt
    rw [adda_snoc _ _ _ hxl hlt]
    split
    · rename_i c
      rcases hc with ⟨s, hs, hh⟩ | hc
      · rcases List.mem_append.1 hs with hs | hs
        · exact ⟨s, List.mem_append_left _ hs, hh⟩
        · rw [List.mem_singleton.1 hs] at hh
          exact ⟨_, List.mem_append_right _ (List.mem_singleton.2 rfl), hh.1, hh.2.1, by simp only; omega⟩
      · exact ⟨_, List.mem_append_right _ (List.mem_singleton.2 rfl), by simp only; omega, by simp only; omega, hc.2.2⟩
    · rcases hc with ⟨s, hs, hh⟩ | hc
      · exact ⟨s, List.mem_append_left _ hs, hh⟩
      · exact ⟨e, by simp, hc⟩
theorem r3_all {A B : List (List Cel)} (t : Nat) (ag : Nat → List Sp3 → List Sp3 × Int) : ∀ (es g : List Sp3) (f : Int), Inv A B g t f → Chn t f es → (∀ s ∈ es, SpG A B s) →
    ∃ g', damage_Spans_r3 t ag es g = ag (t + 1) g' ∧ Inv A B g' ((t + 1 : Nat) : Int) 0 ∧ ∀ q i, Cov g q i ∨ Cov es q i → Cov g' q i
  | [], g, f, h, _, _ => ⟨g, by simp only [damage_Spans_r3], ⟨fun x hx => by have := h.below x hx; omega, h.ord, h.all⟩, fun q i hh => by
      rcases hh with hh | ⟨s, hs, _⟩
      · exact hh
      · exact absurd hs List.not_mem_nil⟩
  | e :: es, g, f, h, ⟨c1, c2, c3, c4⟩, hs => by
    have he := hs e (List.mem_cons_self ..)
    obtain ⟨g', h1, h2, h3⟩ := r3_all t ag es _ e.to (adda_inv h c1 c2 he) c4 (fun s hs' => hs s (List.mem_cons_of_mem _ hs'))
    refine ⟨g', by simpa only [damage_Spans_r3, bindV] using h1, h2, fun q i hh => h3 q i ?_⟩
    rcases hh with hh | ⟨s, hs', hh⟩
    · exact Or.inl (adda_cov h he (Or.inl hh))
    · rcases List.mem_cons.1 hs' with rfl | hs'
      · exact Or.inl (adda_cov h he (Or.inr hh))
      · exact Or.inr ⟨s, hs', hh⟩
theorem l0_all {A B : List (List Cel)} : ∀ (rows : List (List Cel)) (t : Nat) (g : List Sp3), t + rows.length = A.length → (∀ i, i < rows.length → rows.getD i [] = A.getD (t + i) []) → Inv A B g t 0 →
    (damage_Spans_l0 B rows t g).1.Pairwise Lt3 ∧ (∀ s ∈ (damage_Spans_l0 B rows t g).1, SpG A B s) ∧ (∀ q i, Cov g q i → Cov (damage_Spans_l0 B rows t g).1 q i) ∧
      ∀ r i : Nat, t ≤ r → r < A.length → i < (A.getD r []).length → Df (A.getD r []) (B.getD r []) i → Cov (damage_Spans_l0 B rows t g).1 r i
  | [], t, g, hl, _, h => ⟨h.ord, h.all, fun _ _ hh => hh, fun r i h1 h2 => by simp at hl; omega⟩
  | row :: rows, t, g, hl, hr, h => by
    have h0 : row = A.getD t [] := by simpa using hr 0 (by simp)
    simp only [List.length_cons] at hl
    obtain ⟨s1, s2, s3⟩ := spans_good row (B.getD t []) (t : Int)
    obtain ⟨g', e1, e2, e3⟩ := r3_all (A := A) (B := B) t (damage_Spans_l0 B rows) (damage_spans_1 row (B.getD t []) (t : Int)) g 0 h s1 (fun s hs => ⟨t, by omega, by rw [← h0]; exact s2 s hs⟩)
    have ih := l0_all (A := A) (B := B) rows (t + 1) g' (by omega) (fun i hi => by
      have := hr (i + 1) (by simpa using hi)
      rw [show t + 1 + i = t + (i + 1) by omega]; simpa using this) e2
    simp only [damage_Spans_l0, damage_spans]
    rw [e1]
    refine ⟨ih.1, ih.2.1, fun q i hh => ih.2.2.1 q i (e3 q i (Or.inl hh)), fun r i h1 h2 h3 h4 => ?_⟩
    by_cases e : r = t
    · subst e
      refine ih.2.2.1 _ _ (e3 _ _ (Or.inr ?_))
      rw [← h0] at h3 h4
      exact s3 i (Nat.zero_le _) h3 h4
    · exact ih.2.2.2 r i (by omega) h2 h3 h4
theorem spans_all (A B : List (List Cel)) : (damage_Spans_l0 B A 0 []).1.Pairwise Lt3 ∧ (∀ s ∈ (damage_Spans_l0 B A 0 []).1, SpG A B s) ∧
      ∀ r i : Nat, r < A.length → i < (A.getD r []).length → Df (A.getD r []) (B.getD r []) i → Cov (damage_Spans_l0 B A 0 []).1 r i := by
  have h := l0_all (A := A) (B := B) A 0 [] (by omega) (fun i _ => by rw [Nat.zero_add]) ⟨fun x hx => absurd hx List.not_mem_nil, List.Pairwise.nil, fun x hx => absurd hx List.not_mem_nil⟩
  exact ⟨h.1, h.2.1, fun r i h2 h3 h4 => h.2.2.2 r i (Nat.zero_le _) h2 h3 h4⟩
end Go.Proofs.YtlcaphkcfmlljaaGreatDoor

