import Derived.Test.YtinkdfnpmoljfaaGreatDoorMP5
import Derived.Test.YtinkdfnpmoljfaaGreatDoorP8
set_option linter.unusedVariables false
set_option linter.unusedSimpArgs false
set_option maxRecDepth 10000
namespace Go.Proofs.YtinkdfnpmoljfaaGreatDoor
open Go Go.Fen
/-! The laws on pens. -/
theorem wake1 : pen_Steps Sty.zero ({ Sty.zero with attr := 5 }) = ([{ Act.zero with kind := 39, n := 1, m := 1 }, { Act.zero with kind := 39, n := 1, m := 4 }], 0) := by
 rw [Steps_eq _ _ (by decide +kernel) (by decide +kernel), stp_zero _ (by decide +kernel), if_neg (by decide +kernel)]
 have e : chg Sty.zero ({ Sty.zero with attr := 5 }) = [{ Act.zero with kind := 39, n := 1, m := 1 }, { Act.zero with kind := 39, n := 1, m := 4 }] := by decide +kernel
 rw [e]
theorem wake2 : pen_Steps ({ Sty.zero with attr := 255 }) Sty.zero = ([{ Act.zero with kind := 39, n := 0 }], 0) := by
 rw [Steps_eq _ _ (by decide +kernel) (by decide +kernel)]
 unfold stp
 have e1 : chg ({ Sty.zero with attr := 255 }) Sty.zero = [pA 2 3, pA 2 4, pA 2 8, pA 2 16, pA 2 32, pA 2 64, pA 2 128] := by decide +kernel
 have e2 : anw Sty.zero = [pA 0 0] := by decide +kernel
 have t1 : [pA 2 3, pA 2 4, pA 2 8, pA 2 16, pA 2 32, pA 2 64, pA 2 128].map sgr_told = [[22], [23], [25], [27], [28], [29], [55]] := by decide +kernel
 have t2 : [pA 0 0].map sgr_told = [[0]] := by decide +kernel
 have p0 : psub 0 = [48] := by
  have : Lib.itoa 0 = [48] := by rw [show (0 : Int) = ((0 : Nat) : Int) from rfl, Lib.itoa_nonneg, Lib.decDigits_one (by omega)]; rfl
  unfold psub; rw [this]; rfl
 rw [if_neg (by decide +kernel), e1, e2, if_neg]
 ·rfl
 ·show ¬ (outP [pA 2 3, pA 2 4, pA 2 8, pA 2 16, pA 2 32, pA 2 64, pA 2 128]).length ≤ (outP [pA 0 0]).length
  unfold outP
  rw [t1, t2]
  simp only [pr2, pr3, p0, List.length_append, List.length_cons, List.length_nil]
  omega
theorem wakes26 : law26_wakes = true := by
 unfold law26_wakes
 rw [wake1, wake2]
 simp only [bindV]
 rw [Same_refl, Same_refl]
 have h3 := (Steps_bad ({ Sty.zero with under := 6 }) Sty.zero (by decide +kernel))
 rw [h3.1]
 have := h3.2
 simp [this]
def aR (s : Sty) : Prop := -9223372036854775808 ≤ s.attr ∧ s.attr ≤ 9223372036854775807
theorem right_eq (s : Sty) (h : aR s) : ref04_Right s = decide (style_Check s = 0) := by
 unfold ref04_Right; rw [style_eq s h.1 h.2]
theorem Anew26 (t : Sty) : ref26_Anew t = anw t := by rw [ref26_Anew_eq, rchg_eq]; rfl
theorem Changes26 (f t : Sty) : ref26_Changes f t = chg f t := by rw [ref26_Changes_eq, rchg_eq]
theorem penChanges_law (f t : Sty) (hf : aR f) (ht : aR t) : law26_PenChanges f t = true := by
 unfold law26_PenChanges
 rw [wakes26, right_eq f hf, right_eq t ht, Changes_eq, Anew_eq, Anew26, Changes26]
 simp only [bindV]
 by_cases h1 : style_Check f = 0
 ·by_cases h2 : style_Check t = 0
  ·simp [h1, h2, Same_refl]
  ·simp [h1, h2]
 ·by_cases h2 : style_Check t = 0
  ·simp [h1, h2, Same_refl]
  ·simp [h1, h2]
end Go.Proofs.YtinkdfnpmoljfaaGreatDoor

