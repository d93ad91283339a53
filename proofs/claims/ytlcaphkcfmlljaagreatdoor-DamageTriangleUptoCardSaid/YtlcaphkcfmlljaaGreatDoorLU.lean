import Derived.Test.YtlcaphkcfmlljaaGreatDoorLT
set_option linter.unusedVariables false
set_option linter.unusedSimpArgs false
namespace Go.Proofs.YtlcaphkcfmlljaaGreatDoor
open Go Go.Fen
/-! The triangle. -/
theorem has_l0 (r i : Int) : ∀ (l : List Sp3) (t : Nat), Cov l r i → (0 : Int) ≤ slices_IndexFunc_api_Span_api_Span_l0 r i l t
  | [], t, ⟨s, hs, _⟩ => absurd hs List.not_mem_nil
  | x :: l, t, ⟨s, hs, h⟩ => by
    simp only [slices_IndexFunc_api_Span_api_Span_l0]
    cases hc : law24_DamageTriangle_1_1 x r i with
    | true => rw [cond_true]; omega
    | false =>
      rw [cond_false]
      rcases List.mem_cons.1 hs with rfl | hs
      · simp [law24_DamageTriangle_1_1, h] at hc
      · exact has_l0 r i l (t + 1) ⟨s, hs, h⟩
theorem has_cov {l : List Sp3} {r i : Int} (h : Cov l r i) : law24_DamageTriangle_1 l r i = true :=
  decide_eq_true (has_l0 r i l 0 h)
theorem checked_frames {ac : Int} {ar : List (List Cel)} {acu : Plc} {av : Bool} {ash : Int} {ati : List UInt8} {bc : Int} {br : List (List Cel)} {bcu : Plc} {bv' : Bool} {bsh : Int} {bti : List UInt8}
    (h : damage_checked ac ar acu av ash ati bc br bcu bv' bsh bti = 0) : frame_Check ac ar acu av ash ati = 0 ∧ frame_Check bc br bcu bv' bsh bti = 0 ∧ ac = bc ∧ ar.length = br.length := by
  have h2 := damage_checked_ok h
  unfold damage_checked at h
  rcases frame_val ac ar acu av ash ati with e | e <;> rcases frame_val bc br bcu bv' bsh bti with e' | e' <;> rw [e, e'] at h
  · exact ⟨e, e', h2.2.2⟩
  all_goals simp at h
theorem checked_of {ac : Int} {ar : List (List Cel)} {acu : Plc} {av : Bool} {ash : Int} {ati : List UInt8} {bc : Int} {br : List (List Cel)} {bcu : Plc} {bv' : Bool} {bsh : Int} {bti : List UInt8}
    (h1 : frame_Check ac ar acu av ash ati = 0) (h2 : frame_Check bc br bcu bv' bsh bti = 0) (h3 : ac = bc) (h4 : ar.length = br.length) : damage_checked ac ar acu av ash ati bc br bcu bv' bsh bti = 0 := by
  unfold damage_checked; rw [h1, h2]; simp [h3, h4]
theorem tri_l3 (A C : List (List Cel)) (x y z : List Sp3 × Int) (t : Nat) (ag : Nat → Bool) (hag : ag (t + 1) = true) (r : Nat) (hr : (z.1.getD t Sp3.zero).row = r)
    (hc : ∀ i : Nat, (i : Int) < (z.1.getD t Sp3.zero).to → Df (A.getD r []) (C.getD r []) i → Cov x.1 r i ∨ Cov y.1 r i) : ∀ (fu : Nat) (k : Nat), ((z.1.getD t Sp3.zero).to - k).toNat < fu → law24_DamageTriangle_l3 A C x y z t ag fu (k : Int) = true
  | 0, k, h => by omega
  | fu + 1, k, h => by
    simp only [law24_DamageTriangle_l3]
    by_cases e : (k : Int) < (z.1.getD t Sp3.zero).to
    · rw [decide_eq_true e, cond_true, hr, Int.toNat_natCast, Int.toNat_natCast]
      have ih := tri_l3 A C x y z t ag hag r hr hc fu (k + 1) (by omega)
      rw [show ((k : Int) + 1) = ((k + 1 : Nat) : Int) by omega, ih]
      have : (((!(decide ((A.getD r []).getD k Cel.zero = (C.getD r []).getD k Cel.zero))) && (!(law24_DamageTriangle_1 x.1 r k))) && (!(law24_DamageTriangle_1 y.1 r k))) = false := by
        by_cases d : (A.getD r []).getD k Cel.zero = (C.getD r []).getD k Cel.zero
        · rw [decide_eq_true d]; rfl
        · rcases hc k e d with h | h <;> rw [has_cov h] <;> simp
      rw [this]; rfl
    · rw [decide_eq_false e, cond_false, hag]
theorem tri_l2 (A C : List (List Cel)) (x y z : List Sp3 × Int) (hc : ∀ s ∈ z.1, ∃ r f : Nat, s.row = r ∧ s.frm = f ∧ ∀ i : Nat, (i : Int) < s.to → Df (A.getD r []) (C.getD r []) i → Cov x.1 r i ∨ Cov y.1 r i) : ∀ (l : List Sp3) (t : Nat), l = z.1.drop t → law24_DamageTriangle_l2 A C x y z l t = true
  | [], t, _ => rfl
  | s :: l, t, h => by
    have hi : t < z.1.length := by
      rcases Nat.lt_or_ge t z.1.length with h' | h'
      · exact h'
      · rw [List.drop_eq_nil_of_le h'] at h; cases h
    rw [List.drop_eq_getElem_cons hi] at h
    obtain ⟨h1, h2⟩ := List.cons.inj h
    have hd : z.1.getD t Sp3.zero = s := by rw [getD_eq hi, h1]
    obtain ⟨r, f, e1, e2, e3⟩ := hc s (by rw [h1]; exact List.getElem_mem hi)
    simp only [law24_DamageTriangle_l2]
    rw [e2]
    exact tri_l3 A C x y z t _ (tri_l2 A C x y z hc l (t + 1) h2) r (by rw [hd, e1]) (by rw [hd]; exact e3) _ f (by rw [hd]; omega)
section
variable (ac : Int) (ar : List (List Cel)) (acu : Plc) (av : Bool) (ash : Int) (ati : List UInt8) (bc : Int) (br : List (List Cel)) (bcu : Plc) (bv' : Bool) (bsh : Int) (bti : List UInt8) (cc : Int) (cr : List (List Cel)) (ccu : Plc) (cv : Bool) (csh : Int) (cti : List UInt8)
theorem spans_snd : (damage_Spans ac ar acu av ash ati bc br bcu bv' bsh bti).2 = damage_checked ac ar acu av ash ati bc br bcu bv' bsh bti := by
  by_cases h : damage_checked ac ar acu av ash ati bc br bcu bv' bsh bti = 0
  · rw [spans_of _ _ _ _ _ _ _ _ _ _ _ _ h, l0_snd, h]
  · rw [spans_no _ _ _ _ _ _ _ _ _ _ _ _ h]
theorem damageTriangle_law : law24_DamageTriangle ac ar acu av ash ati bc br bcu bv' bsh bti cc cr ccu cv csh cti = true := by
  unfold law24_DamageTriangle
  rw [wakes_true]
  simp only [Bool.not_true, cond_false, bindV, spans_snd]
  by_cases h1 : damage_checked ac ar acu av ash ati bc br bcu bv' bsh bti = 0
  · by_cases h2 : damage_checked bc br bcu bv' bsh bti cc cr ccu cv csh cti = 0
    · have f1 := checked_frames h1
      have f2 := checked_frames h2
      have h3 : damage_checked ac ar acu av ash ati cc cr ccu cv csh cti = 0 := checked_of f1.1 f2.2.1 (by omega) (by omega)
      rw [h1, h2, h3]
      simp only [decide_true, Bool.not_true, Bool.or_false, cond_false]
      rw [spans_of _ _ _ _ _ _ _ _ _ _ _ _ h1, spans_of _ _ _ _ _ _ _ _ _ _ _ _ h2, spans_of _ _ _ _ _ _ _ _ _ _ _ _ h3]
      have o1 := damage_checked_ok h1
      refine tri_l2 ar cr _ _ _ (fun s hs => ?_) _ 0 (by rw [List.drop_zero])
      obtain ⟨r, hr, e1, f, t, e2, e3, e4, e5, _⟩ := (spans_all ar cr).2.1 s hs
      refine ⟨r, f, e1, e2, fun i hi hd => ?_⟩
      have hi' : i < (ar.getD r []).length := by omega
      by_cases d : Df (ar.getD r []) (br.getD r []) i
      · exact Or.inl ((spans_all ar br).2.2 r i hr hi' d)
      · refine Or.inr ((spans_all br cr).2.2 r i (by omega) ?_ ?_)
        · have := o1.1.2.2.2.2 r hr
          have := o1.2.1.2.2.2.2 r (by omega)
          omega
        · unfold Df at *
          intro e
          apply hd
          rw [← e]
          exact Classical.not_not.1 d
    · rw [decide_eq_false h2]; simp
  · rw [decide_eq_false h1]; simp
/-! Rises. -/
theorem rises_l3 (c : Int) (A B : List (List Cel)) (x : List Sp3 × Int) (t : Nat) (ag : Nat → Bool) (hag : ag (t + 1) = true) (r : Nat) (hr : (x.1.getD t Sp3.zero).row = r)
    (h0 : (0 : Int) < (x.1.getD t Sp3.zero).frm → ¬ Df (A.getD r []) (B.getD r []) ((x.1.getD t Sp3.zero).frm.toNat - 1)) (h1 : (x.1.getD t Sp3.zero).to < c → ¬ Df (A.getD r []) (B.getD r []) (x.1.getD t Sp3.zero).to.toNat) :
    ∀ (fu : Nat) (d : Bool) (k : Nat), ((x.1.getD t Sp3.zero).to - k).toNat < fu → (d = true ∨ ∃ i : Nat, k ≤ i ∧ (i : Int) < (x.1.getD t Sp3.zero).to ∧ Df (A.getD r []) (B.getD r []) i) → law24_DamageRises_l3 c A B x t ag fu d (k : Int) = true
  | 0, d, k, h, _ => by omega
  | fu + 1, d, k, h, hd => by
    simp only [law24_DamageRises_l3]
    by_cases e : (k : Int) < (x.1.getD t Sp3.zero).to
    · rw [decide_eq_true e, cond_true, hr, Int.toNat_natCast, Int.toNat_natCast, show ((k : Int) + 1) = ((k + 1 : Nat) : Int) by omega]
      refine rises_l3 c A B x t ag hag r hr h0 h1 fu _ (k + 1) (by omega) ?_
      rcases hd with hd | ⟨i, i1, i2, i3⟩
      · exact Or.inl (by rw [hd]; rfl)
      · by_cases ek : i = k
        · subst ek; exact Or.inl (by rw [decide_eq_false i3]; simp)
        · exact Or.inr ⟨i, by omega, i2, i3⟩
    · rw [decide_eq_false e, cond_false, hr, Int.toNat_natCast, hag]
      have hd' : d = true := by
        rcases hd with hd | ⟨i, i1, i2, i3⟩
        · exact hd
        · omega
      rw [hd']
      have a1 : (decide ((0 : Int) < (x.1.getD t Sp3.zero).frm) && !(decide ((A.getD r []).getD ((x.1.getD t Sp3.zero).frm.toNat - 1) Cel.zero = (B.getD r []).getD ((x.1.getD t Sp3.zero).frm.toNat - 1) Cel.zero))) = false := by
        by_cases c1 : (0 : Int) < (x.1.getD t Sp3.zero).frm
        · rw [decide_eq_true (Classical.not_not.1 (h0 c1))]; simp
        · rw [decide_eq_false c1]; rfl
      have a2 : (decide ((x.1.getD t Sp3.zero).to < c) && !(decide ((A.getD r []).getD ((x.1.getD t Sp3.zero).to.toNat) Cel.zero = (B.getD r []).getD ((x.1.getD t Sp3.zero).to.toNat) Cel.zero))) = false := by
        by_cases c1 : (x.1.getD t Sp3.zero).to < c
        · rw [decide_eq_true (Classical.not_not.1 (h1 c1))]; simp
        · rw [decide_eq_false c1]; rfl
      rw [a1, a2]; rfl
theorem pw_at {l : List Sp3} (h : l.Pairwise Lt3) {i j : Nat} (hij : i < j) (hj : j < l.length) : Lt3 (l.getD i Sp3.zero) (l.getD j Sp3.zero) := by
  rw [getD_eq (by omega), getD_eq hj]
  exact List.pairwise_iff_getElem.1 h i j (by omega) hj hij
theorem cov_idx {l : List Sp3} {r i : Int} (h : Cov l r i) : ∃ j, j < l.length ∧ (l.getD j Sp3.zero).row = r ∧ (l.getD j Sp3.zero).frm ≤ i ∧ i < (l.getD j Sp3.zero).to := by
  obtain ⟨s, hs, h⟩ := h
  obtain ⟨j, hj, rfl⟩ := List.getElem_of_mem hs
  exact ⟨j, hj, by rw [getD_eq hj]; exact h⟩
theorem rises_l2 (c : Int) (A B : List (List Cel)) (x : List Sp3 × Int) (hc : ∀ r, r < A.length → ((A.getD r []).length : Int) = c) (p1 : x.1.Pairwise Lt3) (p2 : ∀ s ∈ x.1, SpG A B s)
    (p3 : ∀ r i : Nat, r < A.length → i < (A.getD r []).length → Df (A.getD r []) (B.getD r []) i → Cov x.1 r i) : ∀ (l : List Sp3) (t : Nat), l = x.1.drop t → law24_DamageRises_l2 c A B x l t = true
  | [], t, _ => rfl
  | s :: l, t, h => by
    have hi : t < x.1.length := by
      rcases Nat.lt_or_ge t x.1.length with h' | h'
      · exact h'
      · rw [List.drop_eq_nil_of_le h'] at h; cases h
    rw [List.drop_eq_getElem_cons hi] at h
    obtain ⟨h1, h2⟩ := List.cons.inj h
    have hd : x.1.getD t Sp3.zero = s := by rw [getD_eq hi, h1]
    obtain ⟨r, hr, e1, f, t', e2, e3, e4, e5, ⟨i, i1, i2, i3⟩, _⟩ := p2 s (by rw [h1]; exact List.getElem_mem hi)
    have hcr := hc r hr
    simp only [law24_DamageRises_l2]
    rw [show (((((decide (s.row < 0)) || (decide ((A.length : Int) ≤ s.row))) || (decide (s.frm < 0))) || (decide (c < s.to))) || (decide (s.to ≤ s.frm))) = false by
      simp only [Bool.or_eq_false_iff, decide_eq_false_iff_not]; omega, cond_false]
    rw [show ((decide ((0 : Int) < (t : Int))) && ((decide (s.row < (x.1.getD (t - 1) Sp3.zero).row)) || ((decide ((x.1.getD (t - 1) Sp3.zero).row = s.row)) && (decide (s.frm ≤ (x.1.getD (t - 1) Sp3.zero).to))))) = false by
      by_cases e : t = 0
      · rw [decide_eq_false (by omega)]; rfl
      · have := pw_at p1 (i := t - 1) (j := t) (by omega) hi
        rw [hd] at this
        unfold Lt3 at this
        simp only [Bool.and_eq_false_iff, Bool.or_eq_false_iff, decide_eq_false_iff_not]; omega, cond_false]
    rw [e2]
    have hout : ∀ k : Nat, k < (A.getD r []).length → (k < f → k + 1 = f → ¬ Df (A.getD r []) (B.getD r []) k) ∧ (k = t' → ¬ Df (A.getD r []) (B.getD r []) k) := fun k hk => by
      have key : Df (A.getD r []) (B.getD r []) k → (k + 1 = f ∨ k = t') → False := fun hdf hk' => by
        obtain ⟨j, hj, j1, j2, j3⟩ := cov_idx (p3 r k hr hk hdf)
        rcases Nat.lt_trichotomy j t with hjt | rfl | hjt
        · have := pw_at p1 hjt hi
          rw [hd] at this
          unfold Lt3 at this; omega
        · rw [hd] at j1 j2 j3; omega
        · have := pw_at p1 hjt hj
          rw [hd] at this
          unfold Lt3 at this; omega
      exact ⟨fun _ h2 h3 => key h3 (Or.inl h2), fun h2 h3 => key h3 (Or.inr h2)⟩
    refine rises_l3 c A B x t _ (rises_l2 c A B x hc p1 p2 p3 l (t + 1) h2) r (by rw [hd, e1]) (fun hh => ?_) (fun hh => ?_) _ _ f (by rw [hd]; omega) (Or.inr ⟨i, i1, by rw [hd, e3]; omega, i3⟩)
    · rw [hd, e2] at *
      rw [Int.toNat_natCast]
      exact (hout (f - 1) (by omega)).1 (by omega) (by omega)
    · rw [hd, e3] at *
      rw [Int.toNat_natCast]
      exact (hout t' (by omega)).2 rfl
theorem damageRises_law : law24_DamageRises ac ar acu av ash ati bc br bcu bv' bsh bti = true := by
  unfold law24_DamageRises
  rw [wakes_true]
  simp only [Bool.not_true, cond_false, bindV, spans_snd]
  by_cases h1 : damage_checked ac ar acu av ash ati bc br bcu bv' bsh bti = 0
  · rw [h1]
    simp only [decide_true, Bool.not_true, cond_false]
    rw [spans_of _ _ _ _ _ _ _ _ _ _ _ _ h1]
    obtain ⟨p1, p2, p3⟩ := spans_all ar br
    exact rises_l2 ac ar br _ (damage_checked_ok h1).1.2.2.2.2 p1 p2 p3 _ 0 (by rw [List.drop_zero])
  · rw [decide_eq_false h1, spans_no _ _ _ _ _ _ _ _ _ _ _ _ h1]; rfl
end
end Go.Proofs.YtlcaphkcfmlljaaGreatDoor
