import Derived.Test.YtlcaphkcfmlljaaGreatDoorLX2
import Derived.Test.YtlcaphkcfmlljaaGreatDoorT11
set_option linter.unusedVariables false
set_option linter.unusedSimpArgs false
set_option linter.unnecessarySimpa false
namespace Go.Proofs.YtlcaphkcfmlljaaGreatDoor
open Go Go.Fen
section
variable (ac : Int) (ar : List (List Cel)) (acu : Plc) (av : Bool) (ash : Int) (ati : List UInt8) (bc : Int) (br : List (List Cel)) (bcu : Plc) (bv' : Bool) (bsh : Int) (bti : List UInt8)
/-- what the two frames' check comes to, by the reference -/
theorem checked_ref (ha : ∀ r ∈ ar, ∀ x ∈ r, aIn x) (hb : ∀ r ∈ br, ∀ x ∈ r, aIn x) :
    (((!(ref23_Right ac ar acu av ash ati)) || (!(ref23_Right bc br bcu bv' bsh bti))) = true ∧ damage_checked ac ar acu av ash ati bc br bcu bv' bsh bti = 330) ∨
    (((!(ref23_Right ac ar acu av ash ati)) || (!(ref23_Right bc br bcu bv' bsh bti))) = false ∧
      ((ref24_Sizes ac ar acu av ash ati bc br bcu bv' bsh bti = false ∧ damage_checked ac ar acu av ash ati bc br bcu bv' bsh bti = 2) ∨ (ref24_Sizes ac ar acu av ash ati bc br bcu bv' bsh bti = true ∧ damage_checked ac ar acu av ash ati bc br bcu bv' bsh bti = 0))) := by
  have h1 := frame_right (c := ac) (cu := acu) (v := av) (sh := ash) (ti := ati) ha
  have h2 := frame_right (c := bc) (cu := bcu) (v := bv') (sh := bsh) (ti := bti) hb
  unfold damage_checked
  cases ra : ref23_Right ac ar acu av ash ati with
  | false =>
    have : ¬ frame_Check ac ar acu av ash ati = 0 := fun h => by rw [h1.1 h] at ra; cases ra
    refine Or.inl ⟨rfl, ?_⟩
    rw [decide_eq_false this]
    exact (frame_val ac ar acu av ash ati).resolve_left this
  | true =>
    rw [decide_eq_true (h1.2 ra)]
    cases rb : ref23_Right bc br bcu bv' bsh bti with
    | false =>
      have : ¬ frame_Check bc br bcu bv' bsh bti = 0 := fun h => by rw [h2.1 h] at rb; cases rb
      refine Or.inl ⟨rfl, ?_⟩
      rw [decide_eq_false this]
      exact (frame_val bc br bcu bv' bsh bti).resolve_left this
    | true =>
      rw [decide_eq_true (h2.2 rb)]
      refine Or.inr ⟨rfl, ?_⟩
      unfold ref24_Sizes
      cases decide (ac = bc) <;> cases decide ((ar.length : Int) = (br.length : Int)) <;> simp
theorem damageSpans_law (ha : ∀ r ∈ ar, ∀ x ∈ r, aIn x) (hb : ∀ r ∈ br, ∀ x ∈ r, aIn x) : law24_DamageSpans ac ar acu av ash ati bc br bcu bv' bsh bti = true := by
  unfold law24_DamageSpans
  rw [wakes_true]
  simp only [Bool.not_true, cond_false, bindV]
  rcases checked_ref ac ar acu av ash ati bc br bcu bv' bsh bti ha hb with ⟨h, hc⟩ | ⟨h, ⟨h', hc⟩ | ⟨h', hc⟩⟩
  · rw [h, cond_true, spans_no _ _ _ _ _ _ _ _ _ _ _ _ (by rw [hc]; decide), hc]; rfl
  · rw [h, h', spans_no _ _ _ _ _ _ _ _ _ _ _ _ (by rw [hc]; decide), hc]; rfl
  · rw [h, h', spans_of _ _ _ _ _ _ _ _ _ _ _ _ hc, l0_snd, equal_spans]
    simp only [cond_false, Bool.not_true, decide_true, Bool.true_and]
    exact decide_eq_true (spans_ref ar br)
/-! Over -/
end
end Go.Proofs.YtlcaphkcfmlljaaGreatDoor

