import Derived.Test.YtinkdfnpmoljfaaGreatDoorMP5
import Derived.Test.YtinkdfnpmoljfaaGreatDoorP8
set_option linter.unusedVariables false
set_option linter.unusedSimpArgs false
set_option maxRecDepth 10000
namespace Go.Proofs.YtinkdfnpmoljfaaGreatDoor
open Go Go.Fen
/-! The laws on pens. -/
theorem wake1 : pen_Steps Sty.zero ({ Sty.zero with attr := 5 }) = ([{ Act.zero with kind := 39, n := 1, m := 1 }, { Act.zero with kind := 39, n := 1, m := 4 }], 0) := by
 rw [Steps_eq _ _ (by decide +kernel) (by decide +kernel), stp_zero _ (by decide +kernel), if_neg (by decide +kernel)]
 have e : chg Sty.zero ({ Sty.zero with attr := 5 }) = [{ Act.zero with kind := 39, n := 1, m := 1 }, { Act.zero with kind := 39, n := 1, m := 4 }] := by decide +kernel
 rw [e]
theorem wake2 : pen_Steps ({ Sty.zero with attr := 255 }) Sty.zero = ([{ Act.zero with kind := 39, n := 0 }], 0) := by
 rw [Steps_eq _ _ (by decide +kernel) (by decide +kernel)]
 unfold stp
 have e1 : chg ({ Sty.zero with attr := 255 }) Sty.zero = [pA 2 3, pA 2 4, pA 2 8, pA 2 16, pA 2 32, pA 2 64, pA 2 128] := by decide +kernel
 have e2 : anw Sty.zero = [pA 0 0] := by decide +kernel
 have t1 : [pA 2 3, pA 2 4, pA 2 8, pA 2 16, pA 2 32, pA 2 64, pA 2 128].map sgr_told = [[22], [23], [25], [27], [28], [29], [55]] := by decide +kernel
 have t2 : [pA 0 0].map sgr_told = [[0]] := by decide +kernel
 have p0 : psub 0 = [48] := by
  have : Lib.itoa 0 = [48] := by rw [show (0 : Int) = ((0 : Nat) : Int) from rfl, Lib.itoa_nonneg, Lib.decDigits_one (by omega)]; rfl
  unfold psub; rw [this]; rfl
 rw [if_neg (by decide +kernel), e1, e2, if_neg]
 ·rfl
 ·show ¬ (outP [pA 2 3, pA 2 4, pA 2 8, pA 2 16, pA 2 32, pA 2 64, pA 2 128]).length ≤ (outP [pA 0 0]).length
  unfold outP
  rw [t1, t2]
  simp only [pr2, pr3, p0, List.length_append, List.length_cons, List.length_nil]
  omega
theorem wakes26 : law26_wakes = true := by
 unfold law26_wakes
 rw [wake1, wake2]
 simp only [bindV]
 rw [Same_refl, Same_refl]
 have h3 := (Steps_bad ({ Sty.zero with under := 6 }) Sty.zero (by decide +kernel))
 rw [h3.1]
 have := h3.2
 simp [this]
def aR (s : Sty) : Prop := -9223372036854775808 ≤ s.attr ∧ s.attr ≤ 9223372036854775807
theorem right_eq (s : Sty) (h : aR s) : ref04_Right s = decide (style_Check s = 0) := by
 unfold ref04_Right; rw [style_eq s h.1 h.2]
theorem Anew26 (t : Sty) : ref26_Anew t = anw t := by rw [ref26_Anew_eq, rchg_eq]; rfl
theorem Changes26 (f t : Sty) : ref26_Changes f t = chg f t := by rw [ref26_Changes_eq, rchg_eq]
theorem Steps26 (f t : Sty) (h : style_Check t = 0) : ref26_Steps f t = stp f t := by
 have h16 := chg_len16 f t
 have c1 := rcost_eq (l := chg f t) (by omega) (chg_pen f t) (chg_told f t h)
 have a16 := anw_len t
 have c2 := rcost_eq (l := anw t) (by omega) (anw_pen t) (anw_told t h)
 unfold ref26_Steps stp
 rw [Changes26, Anew26]
 simp only [bindV]
 rw [c1, c2]
 by_cases e : f = t
 ·rw [if_pos e, decide_eq_true e]; rfl
 ·rw [if_neg e, decide_eq_false e]
  by_cases hc : (outB (chg f t)).length ≤ (outB (anw t)).length
  ·rw [if_pos hc, decide_eq_true (by omega)]; rfl
  ·rw [if_neg hc, decide_eq_false (by omega)]; rfl
theorem stp_told (f t : Sty) (h : style_Check t = 0) : (∀ a ∈ stp f t, Told a) ∧ (∀ a ∈ stp f t, penA a) ∧ (stp f t).length ≤ 16 := by
 have h16 := chg_len16 f t
 have a16 := anw_len t
 unfold stp
 split
 ·exact ⟨fun a ha => (by cases ha), fun a ha => (by cases ha), by simp⟩
 split
 ·exact ⟨chg_told f t h, chg_pen f t, by omega⟩
 ·exact ⟨anw_told t h, anw_pen t, by omega⟩
theorem penSteps_law (f t : Sty) (hf : aR f) (ht : aR t) : law26_PenSteps f t = true := by
 unfold law26_PenSteps
 rw [wakes26, right_eq f hf, right_eq t ht]
 by_cases h : style_Check f = 0 ∧ style_Check t = 0
 ·have h3 := stp_told f t h.2
  rw [Steps_eq f t h.1 h.2, Steps26 f t h.2]
  simp only [bindV]
  rw [cost_eq h3.2.2 h3.2.1 h3.1, rcost_eq h3.2.2 h3.2.1 h3.1]
  simp [h.1, h.2, Same_refl]
 ·have hb := Steps_bad f t h
  rw [hb.1]
  have h2 := hb.2
  simp only [bindV]
  have e : (!(decide (style_Check f = 0)) || !(decide (style_Check t = 0))) = true := by
   rw [← Bool.not_and, Bool.not_eq_true', Bool.and_eq_false_iff, decide_eq_false_iff_not, decide_eq_false_iff_not]
   by_cases h1 : style_Check f = 0
   ·exact .inr fun h2 => h ⟨h1, h2⟩
   ·exact .inl h1
  rw [e]
  simp [h2]
end Go.Proofs.YtinkdfnpmoljfaaGreatDoor

