import Derived.Test.YtinkdfnpmoljfaaGreatDoorMP5
import Derived.Test.YtinkdfnpmoljfaaGreatDoorP8
set_option linter.unusedVariables false
set_option linter.unusedSimpArgs false
set_option maxRecDepth 10000
namespace Go.Proofs.YtinkdfnpmoljfaaGreatDoor
open Go Go.Fen
/-! The laws on pens. -/
theorem wake1 : pen_Steps Sty.zero ({ Sty.zero with attr := 5 }) = ([{ Act.zero with kind := 39, n := 1, m := 1 }, { Act.zero with kind := 39, n := 1, m := 4 }], 0) := by
 rw [Steps_eq _ _ (by decide +kernel) (by decide +kernel), stp_zero _ (by decide +kernel), if_neg (by decide +kernel)]
 have e : chg Sty.zero ({ Sty.zero with attr := 5 }) = [{ Act.zero with kind := 39, n := 1, m := 1 }, { Act.zero with kind := 39, n := 1, m := 4 }] := by decide +kernel
 rw [e]
theorem wake2 : pen_Steps ({ Sty.zero with attr := 255 }) Sty.zero = ([{ Act.zero with kind := 39, n := 0 }], 0) := by
 rw [Steps_eq _ _ (by decide +kernel) (by decide +kernel)]
 unfold stp
 have e1 : chg ({ Sty.zero with attr := 255 }) Sty.zero = [pA 2 3, pA 2 4, pA 2 8, pA 2 16, pA 2 32, pA 2 64, pA 2 128] := by decide +kernel
 have e2 : anw Sty.zero = [pA 0 0] := by decide +kernel
 have t1 : [pA 2 3, pA 2 4, pA 2 8, pA 2 16, pA 2 32, pA 2 64, pA 2 128].map sgr_told = [[22], [23], [25], [27], [28], [29], [55]] := by decide +kernel
 have t2 : [pA 0 0].map sgr_told = [[0]] := by decide +kernel
 have p0 : psub 0 = [48] := by
  have : Lib.itoa 0 = [48] := by rw [show (0 : Int) = ((0 : Nat) : Int) from rfl, Lib.itoa_nonneg, Lib.decDigits_one (by omega)]; rfl
  unfold psub; rw [this]; rfl
 rw [if_neg (by decide +kernel), e1, e2, if_neg]
 ·rfl
 ·show ¬ (outP [pA 2 3, pA 2 4, pA 2 8, pA 2 16, pA 2 32, pA 2 64, pA 2 128]).length ≤ (outP [pA 0 0]).length
  unfold outP
  rw [t1, t2]
  simp only [pr2, pr3, p0, List.length_append, List.length_cons, List.length_nil]
  omega
theorem wakes26 : law26_wakes = true := by
 unfold law26_wakes
 rw [wake1, wake2]
 simp only [bindV]
 rw [Same_refl, Same_refl]
 have h3 := (Steps_bad ({ Sty.zero with under := 6 }) Sty.zero (by decide +kernel))
 rw [h3.1]
 have := h3.2
 simp [this]
def aR (s : Sty) : Prop := -9223372036854775808 ≤ s.attr ∧ s.attr ≤ 9223372036854775807
theorem bq_big {a : Int} (h0 : 0 ≤ a) (h1 : a ≤ 255) (j : Nat) (hj : 8 ≤ j) : bq a j = false := by
 obtain ⟨n, rfl⟩ : ∃ n : Nat, a = n := ⟨a.toNat, by omega⟩
 unfold bq
 have hn : n < 2 ^ 64 := by omega
 rw [BitVec.ofInt_natCast, BitVec.getLsbD_ofNat, Nat.testBit_lt_two_pow (Nat.lt_of_lt_of_le (by omega : n < 2 ^ 8) (Nat.pow_le_pow_right (by omega) hj)), Bool.and_false]
theorem bq_ext {a b : Int} (ha0 : 0 ≤ a) (ha : a ≤ 255) (hb0 : 0 ≤ b) (hb : b ≤ 255) (h : ∀ j < 8, bq a j = bq b j) : a = b := by
 have e : BitVec.ofInt 64 a = BitVec.ofInt 64 b := by
  apply BitVec.eq_of_getLsbD_eq
  intro i hi
  by_cases h8 : i < 8
  ·exact h i h8
  ·exact (bq_big ha0 ha i (by omega)).trans (bq_big hb0 hb i (by omega)).symm
 have e2 := congrArg BitVec.toNat e
 rw [BitVec.toNat_ofInt, BitVec.toNat_ofInt] at e2
 omega
theorem attr_ok {s : Sty} (hs : aR s) (h : style_Check s = 0) : 0 ≤ s.attr ∧ s.attr ≤ 255 := by
 rw [style_eq s hs.1 hs.2] at h
 unfold ref04_Check at h
 generalize hc : ((((decide (s.attr < 0)) || (decide ((255 : Int) < s.attr))) || (decide (s.under < 0))) || (decide ((5 : Int) < s.under))) = c at h
 cases c with
 | true => rw [cond_true] at h; omega
 | false => simp only [Bool.or_eq_false_iff, decide_eq_false_iff_not] at hc; omega
end Go.Proofs.YtinkdfnpmoljfaaGreatDoor

