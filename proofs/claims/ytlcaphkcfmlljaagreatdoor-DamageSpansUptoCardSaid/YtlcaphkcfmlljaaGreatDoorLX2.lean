import Derived.Test.YtlcaphkcfmlljaaGreatDoorLY4
import Derived.Test.YtlcaphkcfmlljaaGreatDoorLT2
set_option linter.unusedVariables false
set_option linter.unusedSimpArgs false
set_option linter.unnecessarySimpa false
namespace Go.Proofs.YtlcaphkcfmlljaaGreatDoor
open Go Go.Fen
/-! the reference's marks -/
def MOk (a b : List Cel) (l : List Bool) : Prop := l.length = a.length ∧ (∀ i, i < a.length → l.getD i false = true → Rch a b i) ∧ ∀ i, i < a.length → Dff a b i → l.getD i false = true
def MCl (a b : List Cel) (l : List Bool) (n : Nat) : Prop := ∀ k, k < n → k + 1 < a.length → Lk a b k → l.getD k false = l.getD (k + 1) false
theorem getD_set {α : Type} {l : List α} {d x : α} {i j : Nat} (hi : i < l.length) : (l.set i x).getD j d = if j = i then x else l.getD j d := by
  by_cases e : j = i
  · subst e; rw [if_pos rfl, List.getD_eq_getElem?_getD, List.getElem?_set_self hi]; rfl
  · rw [if_neg e, List.getD_eq_getElem?_getD, List.getElem?_set_ne (by omega), List.getD_eq_getElem?_getD]
theorem together_eq (a b : List Cel) (i : Nat) (h : i + 1 < a.length) : ref24_together a b (i : Int) = damage_linked a b (i : Int) := by
  unfold ref24_together damage_linked
  rw [decide_eq_true (show (0 : Int) ≤ (i : Int) by omega), decide_eq_true (show ((i : Int) + 1) < (a.length : Int) by omega)]; rfl
theorem rch_step {a b : List Cel} {i : Nat} (h : Lk a b i) : Rch a b i ↔ Rch a b (i + 1) := by
  constructor
  · rintro ⟨j, h1, h2, h3⟩
    refine ⟨j, h1, h2, fun k hk => ?_⟩
    by_cases e : k = i
    · rw [e]; exact h
    · exact h3 k (by omega)
  · rintro ⟨j, h1, h2, h3⟩
    refine ⟨j, h1, h2, fun k hk => ?_⟩
    by_cases e : k = i
    · rw [e]; exact h
    · exact h3 k (by omega)
theorem l5_ok (a b : List Cel) (ag : List Bool → Bool → List Bool) (P : List Bool → Prop) (B : Nat) (hag : ∀ l m, MOk a b l → (m = false → MCl a b l a.length) → l.count false + m.toNat ≤ B → P (ag l m)) :
    ∀ (fu : Nat) (l : List Bool) (m : Bool) (i : Nat), a.length - (i + 1) < fu → MOk a b l → (m = false → MCl a b l i) → l.count false + m.toNat ≤ B → P (ref24_marked_l5 a b ag fu l m i)
  | 0, l, m, i, h, _, _, _ => by omega
  | fu + 1, l, m, i, h, hl, hm, hB => by
    simp only [ref24_marked_l5]
    by_cases c : ((i : Int) + 1) < (a.length : Int)
    · rw [decide_eq_true c, cond_true, together_eq a b i (by omega)]
      cases hk : damage_linked a b (i : Int) with
      | false =>
        rw [Bool.false_and, cond_false]
        refine l5_ok a b ag P B hag fu l m (i + 1) (by omega) hl (fun e k hk1 hk2 hk3 => ?_) hB
        by_cases e2 : k = i
        · subst e2; unfold Lk at hk3; rw [hk] at hk3; cases hk3
        · exact hm e k (by omega) hk2 hk3
      | true =>
        rw [Bool.true_and]
        cases he : (l.getD i false == l.getD (i + 1) false) with
        | true =>
          rw [Bool.not_true, cond_false]
          refine l5_ok a b ag P B hag fu l m (i + 1) (by omega) hl (fun e k hk1 hk2 hk3 => ?_) hB
          by_cases e2 : k = i
          · subst e2; simpa using he
          · exact hm e k (by omega) hk2 hk3
        | false =>
          rw [Bool.not_false, cond_true]
          have hi1 : i < l.length := by rw [hl.1]; omega
          have hi2 : i + 1 < (l.set i true).length := by rw [List.length_set, hl.1]; omega
          have hg : ∀ j, ((l.set i true).set (i + 1) true).getD j false = if j = i + 1 then true else if j = i then true else l.getD j false := fun j => by rw [getD_set hi2, getD_set hi1]
          have hr : Rch a b i := by
            have : l.getD i false = true ∨ l.getD (i + 1) false = true := by
              cases h1 : l.getD i false <;> cases h2 : l.getD (i + 1) false <;> simp_all
            rcases this with h1 | h1
            · exact hl.2.1 i (by omega) h1
            · exact (rch_step hk).2 (hl.2.1 (i + 1) (by omega) h1)
          have hc := count_set2 (l := l) (i := i) (by rw [hl.1]; omega) he
          refine l5_ok a b ag P B hag fu _ true (i + 1) (by omega) ⟨by rw [List.length_set, List.length_set]; exact hl.1, fun j hj ht => ?_, fun j hj hd => ?_⟩ (fun e => absurd e (by decide)) (by simp only [Bool.toNat_true]; omega)
          · rw [hg] at ht
            by_cases e1 : j = i + 1
            · rw [e1]; exact (rch_step hk).1 hr
            · by_cases e2 : j = i
              · rw [e2]; exact hr
              · rw [if_neg e1, if_neg e2] at ht; exact hl.2.1 j hj ht
          · rw [hg]; split
            · rfl
            · split
              · rfl
              · exact hl.2.2 j hj hd
    · rw [decide_eq_false c, cond_false]
      exact hag l m hl (fun e k hk1 hk2 hk3 => hm e k (by omega) hk2 hk3) hB
theorem l4_ok (a b : List Cel) : ∀ (fu : Nat) (l : List Bool) (m : Bool), MOk a b l → (m = false → MCl a b l a.length) → l.count false + m.toNat < fu → MOk a b (ref24_marked_l4 a b fu l m) ∧ MCl a b (ref24_marked_l4 a b fu l m) a.length
  | 0, l, m, _, _, h => by omega
  | fu + 1, l, false, hl, hm, h => by simp only [ref24_marked_l4, cond_false]; exact ⟨hl, hm rfl⟩
  | fu + 1, l, true, hl, hm, h => by
    simp only [ref24_marked_l4, cond_true]
    simp only [Bool.toNat_true] at h
    exact l5_ok a b (ref24_marked_l4 a b fu) (fun r => MOk a b r ∧ MCl a b r a.length) (l.count false) (fun l' m' h1 h2 h3 => l4_ok a b fu l' m' h1 h2 (by omega)) _ l false 0 (by omega) hl (fun _ k hk => absurd hk (by omega)) (by simp)
theorem ml0_ok (a b : List Cel) : ∀ (xs : List Cel) (l : List Bool) (i : Nat), xs = a.drop i → i ≤ a.length → l.length = a.length → (∀ k, l.getD k false = (decide (k < i) && !decide (a.getD k Cel.zero = b.getD k Cel.zero))) →
    MOk a b (ref24_marked_l0 a b xs l i) ∧ MCl a b (ref24_marked_l0 a b xs l i) a.length
  | [], l, i, h, hi, hl, hk => by
    simp only [ref24_marked_l0]
    have hi' : i = a.length := by have := congrArg List.length h; simp at this; omega
    refine l4_ok a b _ l true ⟨hl, fun k h1 h2 => ?_, fun k h1 h2 => ?_⟩ (fun e => absurd e (by decide)) (by omega)
    · rw [hk] at h2
      simp only [Bool.and_eq_true, Bool.not_eq_true', decide_eq_false_iff_not] at h2
      exact ⟨k, h1, h2.2, fun q hq => by omega⟩
    · rw [hk, decide_eq_true (by omega), Bool.true_and]; simpa [Dff] using h2
  | x :: xs, l, i, h, hi, hl, hk => by
    have hlt : i < a.length := by
      by_cases hh : i < a.length
      · exact hh
      · rw [List.drop_eq_nil_of_le (by omega)] at h; cases h
    have hd := List.drop_eq_getElem_cons hlt
    have hx : x = a.getD i Cel.zero := by rw [hd] at h; rw [getD_eq hlt]; exact (List.cons.inj h).1
    have hxs : xs = a.drop (i + 1) := by rw [hd] at h; exact (List.cons.inj h).2
    simp only [ref24_marked_l0]
    refine ml0_ok a b xs _ (i + 1) hxs (by omega) (by rw [List.length_set]; exact hl) (fun k => ?_)
    rw [getD_set (by omega)]
    by_cases e : k = i
    · rw [if_pos e, e, decide_eq_true (show i < i + 1 by omega), Bool.true_and, hx]
    · rw [if_neg e, hk]; congr 1; rw [Bool.eq_iff_iff]; simp only [decide_eq_true_eq]; omega
theorem marked_ok (a b : List Cel) : MOk a b (ref24_marked a b) ∧ MCl a b (ref24_marked a b) a.length :=
  ml0_ok a b a _ 0 (by simp) (Nat.zero_le _) (by simp) (fun k => by simp [List.getD_eq_getElem?_getD, List.getElem?_replicate]; split <;> rfl)
theorem up_path {a b : List Cel} {l : List Bool} (hc : MCl a b l a.length) : ∀ (n i : Nat), i + n < a.length → (∀ k, i ≤ k → k < i + n → Lk a b k) → l.getD i false = l.getD (i + n) false
  | 0, i, _, _ => rfl
  | n + 1, i, h, hk => by
    rw [hc i (by omega) (by omega) (hk i (by omega) (by omega)), up_path hc n (i + 1) (by omega) (fun k h1 h2 => hk k (by omega) (by omega))]
    congr 1; omega
theorem marked_iff (a b : List Cel) (i : Nat) (hi : i < a.length) : (ref24_marked a b).getD i false = true ↔ Rch a b i := by
  obtain ⟨⟨h1, h2, h3⟩, hc⟩ := marked_ok a b
  refine ⟨h2 i hi, fun ⟨j, j1, j2, j3⟩ => ?_⟩
  have hj := h3 j j1 j2
  rcases Nat.le_total i j with hle | hle
  · have := up_path hc (j - i) i (by omega) (fun k k1 k2 => j3 k (by omega))
    rw [this, show i + (j - i) = j by omega]; exact hj
  · have := up_path hc (i - j) j (by omega) (fun k k1 k2 => j3 k (by omega))
    rw [show j + (i - j) = i by omega] at this; rw [← this]; exact hj
theorem marked_len (a b : List Cel) : (ref24_marked a b).length = a.length := (marked_ok a b).1.1
/-! the reference's spans -/
structure RI (out : List Sp3) (r : Nat) (i : Nat) (m : List Bool) (C : Int → Int → Prop) : Prop where
  pw : out.Pairwise Lt4
  pos : ∀ s ∈ out, s.frm < s.to
  below : ∀ s ∈ out, s.row < r ∨ (s.row = r ∧ s.to ≤ i ∧ (s.to = i → 0 < i ∧ m.getD (i - 1) false = true))
  cov : ∀ q j : Int, Cv out q j ↔ C q j ∨ (q = r ∧ ∃ k : Nat, k < i ∧ j = k ∧ m.getD k false = true)
  last : 0 < i → m.getD (i - 1) false = true → ∃ (g : List Sp3) (x : Sp3), out = g ++ [x] ∧ x.row = (r : Int) ∧ x.to = (i : Int)
theorem snoc_set (g : List Sp3) (x y : Sp3) : (g ++ [x]).set ((g ++ [x]).length - 1) y = g ++ [y] := by
  rw [List.length_append, List.length_singleton, Nat.add_sub_cancel, List.set_append_right _ _ (Nat.le_refl _), Nat.sub_self]; rfl
theorem snoc_last (g : List Sp3) (x : Sp3) : (g ++ [x]).getD ((g ++ [x]).length - 1) Sp3.zero = x := by simp
theorem rl1 (r : Nat) (m : List Bool) (ag : List Sp3 → Nat → List Sp3) (C : Int → Int → Prop) : ∀ (xs : List Bool) (out : List Sp3) (i : Nat), xs = m.drop i → i ≤ m.length → RI out r i m C → ∃ out', ref24_Spans_l1 r m ag xs out i = ag out' (r + 1) ∧ RI out' r m.length m C
  | [], out, i, h, hi, hR => by
    have hi' : i = m.length := by have := congrArg List.length h; simp at this; omega
    subst hi'; exact ⟨out, by simp only [ref24_Spans_l1], hR⟩
  | x :: xs, out, i, h, hi, hR => by
    have hlt : i < m.length := by
      by_cases hh : i < m.length
      · exact hh
      · rw [List.drop_eq_nil_of_le (by omega)] at h; cases h
    have hd := List.drop_eq_getElem_cons hlt
    have hx : m.getD i false = x := by rw [hd] at h; rw [getD_eq hlt]; exact (List.cons.inj h).1.symm
    have hxs : xs = m.drop (i + 1) := by rw [hd] at h; exact (List.cons.inj h).2
    simp only [ref24_Spans_l1]
    cases x with
    | false =>
      rw [Bool.not_false, cond_true]
      refine rl1 r m ag C xs out (i + 1) hxs (by omega) ⟨hR.pw, hR.pos, fun s hs => ?_, fun q j => ?_, fun _ h2 => ?_⟩
      · rcases hR.below s hs with h | ⟨h1, h2, h3⟩
        · exact Or.inl h
        · exact Or.inr ⟨h1, by omega, fun e => by omega⟩
      · rw [hR.cov]
        constructor
        · rintro (h | ⟨h1, k, h2, h3⟩)
          · exact Or.inl h
          · exact Or.inr ⟨h1, k, by omega, h3⟩
        · rintro (h | ⟨h1, k, h2, h3, h4⟩)
          · exact Or.inl h
          · by_cases e : k = i
            · rw [e, hx] at h4; cases h4
            · exact Or.inr ⟨h1, k, by omega, h3, h4⟩
      · rw [Nat.add_sub_cancel, hx] at h2; cases h2
    | true =>
      rw [Bool.not_true, cond_false]
      by_cases c : 0 < i ∧ m.getD (i - 1) false = true
      · rw [show ((decide ((0 : Int) < (i : Int))) && (m.getD (i - 1) false)) = true by rw [c.2, Bool.and_true]; exact decide_eq_true (by omega), cond_true]
        obtain ⟨g, y, rfl, y1, y2⟩ := hR.last c.1 c.2
        rw [snoc_set, snoc_last]
        have hy := hR.pos y (by simp)
        have hpw := List.pairwise_append.1 hR.pw
        refine rl1 r m ag C xs _ (i + 1) hxs (by omega) ⟨?_, fun s hs => ?_, fun s hs => ?_, fun q j => ?_, fun _ _ => ⟨g, _, rfl, y1, by simp⟩⟩
        · refine List.pairwise_append.2 ⟨hpw.1, List.pairwise_singleton _ _, fun z hz w hw => ?_⟩
          have := hpw.2.2 z hz y (by simp)
          rw [List.mem_singleton.1 hw]; exact this
        · rcases List.mem_append.1 hs with hs | hs
          · exact hR.pos s (List.mem_append_left _ hs)
          · rw [List.mem_singleton.1 hs]; simp only; omega
        · rcases List.mem_append.1 hs with hs | hs
          · have hlt4 := hpw.2.2 s hs y (by simp)
            have hsp := hR.pos s (List.mem_append_left _ hs)
            unfold Lt4 at hlt4
            rcases hlt4 with h | ⟨h, h'⟩
            · exact Or.inl (by omega)
            · exact Or.inr ⟨by omega, by omega, fun e => by omega⟩
          · rw [List.mem_singleton.1 hs]
            exact Or.inr ⟨y1, by simp, fun _ => ⟨by omega, by rw [Nat.add_sub_cancel]; exact hx⟩⟩
        · have h0 := hR.cov q j
          rw [Cv.append] at h0 ⊢
          have e1 : Cv [y] q j ↔ (y.row = q ∧ y.frm ≤ j ∧ j < y.to) := ⟨fun ⟨s, hs, h⟩ => by rw [List.mem_singleton.1 hs] at h; exact h, fun h => ⟨y, by simp, h⟩⟩
          have e2 : Cv [{ y with to := ((i : Int) + 1) }] q j ↔ (y.row = q ∧ y.frm ≤ j ∧ j < (i : Int) + 1) := ⟨fun ⟨s, hs, h⟩ => by rw [List.mem_singleton.1 hs] at h; exact h, fun h => ⟨_, List.mem_singleton_self _, h⟩⟩
          rw [e1] at h0; rw [e2]
          constructor
          · rintro (h | ⟨h1, h2, h3⟩)
            · rcases h0.1 (Or.inl h) with h | ⟨a1, k, a2, a3⟩
              · exact Or.inl h
              · exact Or.inr ⟨a1, k, by omega, a3⟩
            · by_cases e : j < y.to
              · rcases h0.1 (Or.inr ⟨h1, h2, e⟩) with h | ⟨a1, k, a2, a3⟩
                · exact Or.inl h
                · exact Or.inr ⟨a1, k, by omega, a3⟩
              · exact Or.inr ⟨by omega, i, by omega, by omega, hx⟩
          · rintro (h | ⟨h1, k, h2, h3, h4⟩)
            · rcases h0.2 (Or.inl h) with h | ⟨a1, a2, a3⟩
              · exact Or.inl h
              · exact Or.inr ⟨a1, a2, by omega⟩
            · by_cases e : k = i
              · exact Or.inr ⟨by omega, by omega, by omega⟩
              · rcases h0.2 (Or.inr ⟨h1, k, by omega, h3, h4⟩) with h | ⟨a1, a2, a3⟩
                · exact Or.inl h
                · exact Or.inr ⟨a1, a2, by omega⟩
      · rw [show ((decide ((0 : Int) < (i : Int))) && (m.getD (i - 1) false)) = false by
          rw [← Bool.not_eq_true]; simp only [Bool.and_eq_true, decide_eq_true_eq]; exact fun h => c ⟨by omega, h.2⟩, cond_false]
        have hto : ∀ s ∈ out, s.row < r ∨ (s.row = r ∧ s.to < i) := fun s hs => by
          rcases hR.below s hs with h | ⟨h1, h2, h3⟩
          · exact Or.inl h
          · by_cases e : s.to = i
            · exact absurd (h3 e) c
            · exact Or.inr ⟨h1, by omega⟩
        refine rl1 r m ag C xs _ (i + 1) hxs (by omega) ⟨?_, fun s hs => ?_, fun s hs => ?_, fun q j => ?_, fun _ _ => ⟨out, _, rfl, rfl, by simp⟩⟩
        · refine List.pairwise_append.2 ⟨hR.pw, List.pairwise_singleton _ _, fun z hz w hw => ?_⟩
          rw [List.mem_singleton.1 hw]; unfold Lt4; simp only; have := hto z hz; omega
        · rcases List.mem_append.1 hs with hs | hs
          · exact hR.pos s hs
          · rw [List.mem_singleton.1 hs]; simp only; omega
        · rcases List.mem_append.1 hs with hs | hs
          · rcases hto s hs with h | ⟨h1, h2⟩
            · exact Or.inl h
            · exact Or.inr ⟨h1, by omega, fun e => by omega⟩
          · rw [List.mem_singleton.1 hs]
            exact Or.inr ⟨rfl, by simp, fun _ => ⟨by omega, by rw [Nat.add_sub_cancel]; exact hx⟩⟩
        · rw [Cv.append, hR.cov]
          have e2 : Cv [{ Sp3.zero with row := (r : Int), frm := (i : Int), to := ((i : Int) + 1) }] q j ↔ ((r : Int) = q ∧ (i : Int) ≤ j ∧ j < (i : Int) + 1) := ⟨fun ⟨s, hs, h⟩ => by rw [List.mem_singleton.1 hs] at h; exact h, fun h => ⟨_, List.mem_singleton_self _, h⟩⟩
          rw [e2]
          constructor
          · rintro ((h | ⟨h1, k, h2, h3⟩) | ⟨h1, h2, h3⟩)
            · exact Or.inl h
            · exact Or.inr ⟨h1, k, by omega, h3⟩
            · exact Or.inr ⟨h1.symm, i, by omega, by omega, hx⟩
          · rintro (h | ⟨h1, k, h2, h3, h4⟩)
            · exact Or.inl (Or.inl h)
            · by_cases e : k = i
              · exact Or.inr ⟨h1.symm, by omega, by omega⟩
              · exact Or.inl (Or.inr ⟨h1, k, by omega, h3, h4⟩)
def CA (A B : List (List Cel)) (t : Nat) (q j : Int) : Prop := ∃ r k : Nat, q = r ∧ j = k ∧ r < t ∧ k < (A.getD r []).length ∧ Rch (A.getD r []) (B.getD r []) k
theorem rl0 (A B : List (List Cel)) : ∀ (rows : List (List Cel)) (out : List Sp3) (r : Nat), rows = A.drop r → r ≤ A.length → RI out r 0 [] (CA A B r) → RI (ref24_Spans_l0 B rows out r) A.length 0 [] (CA A B A.length)
  | [], out, r, h, hr, hR => by
    have hr' : r = A.length := by have := congrArg List.length h; simp at this; omega
    subst hr'; simpa only [ref24_Spans_l0] using hR
  | x :: rows, out, r, h, hr, hR => by
    have hlt : r < A.length := by
      by_cases hh : r < A.length
      · exact hh
      · rw [List.drop_eq_nil_of_le (by omega)] at h; cases h
    have hd := List.drop_eq_getElem_cons hlt
    have hx : x = A.getD r [] := by rw [hd] at h; rw [getD_eq hlt]; exact (List.cons.inj h).1
    have hxs : rows = A.drop (r + 1) := by rw [hd] at h; exact (List.cons.inj h).2
    simp only [ref24_Spans_l0, bindV]
    obtain ⟨out', e, hR'⟩ := rl1 r (ref24_marked x (B.getD r [])) (ref24_Spans_l0 B rows) (CA A B r) (ref24_marked x (B.getD r [])) out 0 (by simp) (Nat.zero_le _) ⟨hR.pw, hR.pos, fun s hs => by
      rcases hR.below s hs with h | ⟨h1, h2, h3⟩
      · exact Or.inl h
      · exact Or.inr ⟨h1, h2, fun e => absurd (h3 e).1 (by omega)⟩, fun q j => by
      rw [hR.cov]
      constructor
      · rintro (h | ⟨_, k, h2, _⟩)
        · exact Or.inl h
        · omega
      · rintro (h | ⟨_, k, h2, _⟩)
        · exact Or.inl h
        · omega, fun h => absurd h (by omega)⟩
    rw [e]
    refine rl0 A B rows out' (r + 1) hxs (by omega) ⟨hR'.pw, hR'.pos, fun s hs => Or.inl ?_, fun q j => ?_, fun h => absurd h (by omega)⟩
    · have := hR'.below s hs; omega
    · rw [hR'.cov]
      have hlen := marked_len x (B.getD r [])
      constructor
      · rintro (⟨r', k, h1, h2, h3, h4⟩ | ⟨h1, k, h2, h3, h4⟩)
        · exact Or.inl ⟨r', k, h1, h2, by omega, h4⟩
        · rw [hlen] at h2
          exact Or.inl ⟨r, k, h1, h3, by omega, by rw [← hx]; exact h2, by rw [← hx]; exact (marked_iff x _ k h2).1 h4⟩
      · rintro (⟨r', k, h1, h2, h3, h4, h5⟩ | ⟨_, k, h2, _⟩)
        · by_cases e : r' = r
          · subst e; rw [← hx] at h4 h5
            exact Or.inr ⟨h1, k, by rw [hlen]; exact h4, h2, (marked_iff x _ k h4).2 h5⟩
          · exact Or.inl ⟨r', k, h1, h2, by omega, h4, h5⟩
        · omega
theorem spans_ref (A B : List (List Cel)) : (damage_Spans_l0 B A 0 []).1 = ref24_Spans_l0 B A [] 0 := by
  have hR := rl0 A B A [] 0 (by simp) (Nat.zero_le _) ⟨List.Pairwise.nil, fun s hs => absurd hs List.not_mem_nil, fun s hs => absurd hs List.not_mem_nil, fun q j => ⟨fun h => absurd h Cv.nil, fun h => by
    rcases h with ⟨r, k, _, _, h, _⟩ | ⟨_, k, h, _⟩
    · omega
    · omega⟩, fun h => absurd h (by omega)⟩
  obtain ⟨p1, p2, p3⟩ := spans_all A B
  refine cv_eq _ _ p1 hR.pw (fun s hs => (p2 s hs).lt) hR.pos fun q j => ?_
  rw [hR.cov]
  constructor
  · rintro ⟨s, hs, h1, h2, h3⟩
    obtain ⟨r, r1, r2, r3⟩ := spans_rch A B s hs
    obtain ⟨r', r1', r2', f, t, f1, t1, _⟩ := p2 s hs
    obtain ⟨k, rfl⟩ : ∃ k : Nat, j = k := ⟨j.toNat, by omega⟩
    exact Or.inl ⟨r, k, by omega, rfl, r2, r3 k h2 h3⟩
  · rintro (⟨r, k, h1, h2, h3, h4, j', j1, j2, j3⟩ | ⟨_, k, h2, _⟩)
    · obtain ⟨s, hs, s1, s2, s3⟩ := p3 r j' h3 j1 j2
      obtain ⟨r', r1', r2', f, t, f1, t1, ft, tl, _, b1, b2⟩ := p2 s hs
      obtain rfl : r' = r := by omega
      refine ⟨s, hs, by omega, ?_, ?_⟩
      · rw [f1, h2]
        by_cases c : f ≤ k
        · omega
        · exfalso
          have := j3 (f - 1) (by omega)
          rcases b1 with b | b | b
          · omega
          · omega
          · unfold Lk at this; rw [show ((f - 1 : Nat) : Int) = (f : Int) - 1 by omega, b] at this; cases this
      · rw [t1, h2]
        by_cases c : k < t
        · omega
        · exfalso
          have := j3 (t - 1) (by omega)
          rcases b2 with b | b | b
          · omega
          · omega
          · unfold Lk at this; rw [show ((t - 1 : Nat) : Int) = (t : Int) - 1 by omega, b] at this; cases this
    · omega
end Go.Proofs.YtlcaphkcfmlljaaGreatDoor

