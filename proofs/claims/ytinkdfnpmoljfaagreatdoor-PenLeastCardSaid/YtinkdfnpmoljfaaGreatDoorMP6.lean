import Derived.Test.YtinkdfnpmoljfaaGreatDoorMP5
import Derived.Test.YtinkdfnpmoljfaaGreatDoorP8
set_option linter.unusedVariables false
set_option linter.unusedSimpArgs false
set_option maxRecDepth 10000
namespace Go.Proofs.YtinkdfnpmoljfaaGreatDoor
open Go Go.Fen
/-! The laws on pens. -/
theorem wake1 : pen_Steps Sty.zero ({ Sty.zero with attr := 5 }) = ([{ Act.zero with kind := 39, n := 1, m := 1 }, { Act.zero with kind := 39, n := 1, m := 4 }], 0) := by
 rw [Steps_eq _ _ (by decide +kernel) (by decide +kernel), stp_zero _ (by decide +kernel), if_neg (by decide +kernel)]
 have e : chg Sty.zero ({ Sty.zero with attr := 5 }) = [{ Act.zero with kind := 39, n := 1, m := 1 }, { Act.zero with kind := 39, n := 1, m := 4 }] := by decide +kernel
 rw [e]
theorem wake2 : pen_Steps ({ Sty.zero with attr := 255 }) Sty.zero = ([{ Act.zero with kind := 39, n := 0 }], 0) := by
 rw [Steps_eq _ _ (by decide +kernel) (by decide +kernel)]
 unfold stp
 have e1 : chg ({ Sty.zero with attr := 255 }) Sty.zero = [pA 2 3, pA 2 4, pA 2 8, pA 2 16, pA 2 32, pA 2 64, pA 2 128] := by decide +kernel
 have e2 : anw Sty.zero = [pA 0 0] := by decide +kernel
 have t1 : [pA 2 3, pA 2 4, pA 2 8, pA 2 16, pA 2 32, pA 2 64, pA 2 128].map sgr_told = [[22], [23], [25], [27], [28], [29], [55]] := by decide +kernel
 have t2 : [pA 0 0].map sgr_told = [[0]] := by decide +kernel
 have p0 : psub 0 = [48] := by
  have : Lib.itoa 0 = [48] := by rw [show (0 : Int) = ((0 : Nat) : Int) from rfl, Lib.itoa_nonneg, Lib.decDigits_one (by omega)]; rfl
  unfold psub; rw [this]; rfl
 rw [if_neg (by decide +kernel), e1, e2, if_neg]
 ·rfl
 ·show ¬ (outP [pA 2 3, pA 2 4, pA 2 8, pA 2 16, pA 2 32, pA 2 64, pA 2 128]).length ≤ (outP [pA 0 0]).length
  unfold outP
  rw [t1, t2]
  simp only [pr2, pr3, p0, List.length_append, List.length_cons, List.length_nil]
  omega
theorem wakes26 : law26_wakes = true := by
 unfold law26_wakes
 rw [wake1, wake2]
 simp only [bindV]
 rw [Same_refl, Same_refl]
 have h3 := (Steps_bad ({ Sty.zero with under := 6 }) Sty.zero (by decide +kernel))
 rw [h3.1]
 have := h3.2
 simp [this]
def aR (s : Sty) : Prop := -9223372036854775808 ≤ s.attr ∧ s.attr ≤ 9223372036854775807
theorem stp_told (f t : Sty) (h : style_Check t = 0) : (∀ a ∈ stp f t, Told a) ∧ (∀ a ∈ stp f t, penA a) ∧ (stp f t).length ≤ 16 := by
 have h16 := chg_len16 f t
 have a16 := anw_len t
 unfold stp
 split
 ·exact ⟨fun a ha => (by cases ha), fun a ha => (by cases ha), by simp⟩
 split
 ·exact ⟨chg_told f t h, chg_pen f t, by omega⟩
 ·exact ⟨anw_told t h, anw_pen t, by omega⟩
theorem stp_min (f t : Sty) : (outB (stp f t)).length ≤ (outB (chg f t)).length ∧ (outB (stp f t)).length ≤ (outB (anw t)).length := by
 unfold stp
 split
 ·simp [outB]
 split
 ·exact ⟨Nat.le_refl _, by assumption⟩
 ·exact ⟨by omega, Nat.le_refl _⟩
theorem bq_big {a : Int} (h0 : 0 ≤ a) (h1 : a ≤ 255) (j : Nat) (hj : 8 ≤ j) : bq a j = false := by
 obtain ⟨n, rfl⟩ : ∃ n : Nat, a = n := ⟨a.toNat, by omega⟩
 unfold bq
 have hn : n < 2 ^ 64 := by omega
 rw [BitVec.ofInt_natCast, BitVec.getLsbD_ofNat, Nat.testBit_lt_two_pow (Nat.lt_of_lt_of_le (by omega : n < 2 ^ 8) (Nat.pow_le_pow_right (by omega) hj)), Bool.and_false]
theorem bq_ext {a b : Int} (ha0 : 0 ≤ a) (ha : a ≤ 255) (hb0 : 0 ≤ b) (hb : b ≤ 255) (h : ∀ j < 8, bq a j = bq b j) : a = b := by
 have e : BitVec.ofInt 64 a = BitVec.ofInt 64 b := by
  apply BitVec.eq_of_getLsbD_eq
  intro i hi
  by_cases h8 : i < 8
  ·exact h i h8
  ·exact (bq_big ha0 ha i (by omega)).trans (bq_big hb0 hb i (by omega)).symm
 have e2 := congrArg BitVec.toNat e
 rw [BitVec.toNat_ofInt, BitVec.toNat_ofInt] at e2
 omega
theorem oneIf_nil {c : Bool} {a : Act} (h : oneIf c a = []) : c = false := by cases c <;> simp [oneIf] at h ⊢
theorem attr_ok {s : Sty} (hs : aR s) (h : style_Check s = 0) : 0 ≤ s.attr ∧ s.attr ≤ 255 := by
 rw [style_eq s hs.1 hs.2] at h
 unfold ref04_Check at h
 generalize hc : ((((decide (s.attr < 0)) || (decide ((255 : Int) < s.attr))) || (decide (s.under < 0))) || (decide ((5 : Int) < s.under))) = c at h
 cases c with
 | true => rw [cond_true] at h; omega
 | false => simp only [Bool.or_eq_false_iff, decide_eq_false_iff_not] at hc; omega
/-- No changes, no difference. -/
theorem chg_nil (f t : Sty) (hf : aR f) (ht : aR t) (hcf : style_Check f = 0) (hct : style_Check t = 0) (h : chg f t = []) : f = t := by
 unfold chg clrs sets tails at h
 simp only [List.append_eq_nil_iff] at h
 obtain ⟨h0, h1, h2, h3, h4, h5, h6⟩ := h
 rw [bits8_eq] at h1 h2
 rw [List.flatMap_eq_nil_iff] at h1 h2
 have hg : gq f t = false := by rw [← goneC_eq]; exact oneIf_nil h0
 have hb : ∀ j < 8, bq f.attr j = bq t.attr j := by
  intro j hj
  have c1 := oneIf_nil (h1 (pw8 j) (List.mem_map_of_mem (List.mem_range.2 hj)))
  have c2 := oneIf_nil (h2 (pw8 j) (List.mem_map_of_mem (List.mem_range.2 hj)))
  rw [clrC_eq f t j hj, hasA_bq f t j hj, hg] at c1
  rw [setC_eq f t j hj, hasA_bq f t j hj, hg] at c2
  cases h1 : bq f.attr j <;> cases h2 : bq t.attr j <;> simp_all
 have a1 := attr_ok hf hcf; have a2 := attr_ok ht hct
 have e1 := bq_ext a1.1 a1.2 a2.1 a2.2 hb
 have e2 : f.under = t.under := by simpa using oneIf_nil h3
 have e3 : f.fore = t.fore := by simpa using oneIf_nil h4
 have e4 : f.back = t.back := by simpa using oneIf_nil h5
 have e5 : f.line = t.line := by simpa using oneIf_nil h6
 cases f; cases t; simp_all
theorem least_l0 (f t : Sty) (s c : List Act × Int) (p q r : Int × Int) : ∀ (l : List Act) (i : Nat), l = c.1.drop i → law26_PenLeast_l0 f t s c p q r l i = law26_PenLeast_l0 f t s c p q r [] 0
 | [], i, h => rfl
 | x :: l, i, h => by
  obtain ⟨hlt, hx, hl⟩ := drop_head Act.zero h
  simp only [law26_PenLeast_l0]
  rw [hx, decide_eq_true rfl]
  exact least_l0 f t s c p q r l (i + 1) hl
theorem penLeast_law (f t : Sty) (hf : aR f) (ht : aR t) : law26_PenLeast f t = true := by
 unfold law26_PenLeast
 rw [wakes26]
 have hz : style_Check Sty.zero = 0 := by decide +kernel
 by_cases h : style_Check f = 0 ∧ style_Check t = 0
 ·have h3 := stp_told f t h.2
  have h16 := chg_len16 f t; have a16 := anw_len t
  have hm := stp_min f t
  have e4 : pen_Steps Sty.zero t = ((pen_Changes Sty.zero t).1, 0) := by
   rw [Steps_eq _ _ hz h.2, stp_zero t h.2, Changes_eq, if_pos hz, if_pos h.2]
   by_cases e : Sty.zero = t
   ·rw [if_pos e, ← e]; rw [show chg Sty.zero Sty.zero = [] by decide +kernel]
   ·rw [if_neg e]
  have eC1 : pen_Changes f t = (chg f t, 0) := by rw [Changes_eq, if_pos h.1, if_pos h.2]
  have eC2 : pen_Changes Sty.zero t = (chg Sty.zero t, 0) := by rw [Changes_eq, if_pos hz, if_pos h.2]
  have eA : pen_Anew t = (anw t, 0) := by rw [Anew_eq, if_pos h.2]
  rw [e4, Steps_eq f t h.1 h.2, eC1, eC2, eA]
  simp only [bindV]
  rw [cost_eq h3.2.2 h3.2.1 h3.1, cost_eq (by omega) (chg_pen f t) (chg_told f t h.2), cost_eq (by omega) (anw_pen t) (anw_told t h.2)]
  rw [least_l0 f t _ (chg Sty.zero t, 0) _ _ _ (chg Sty.zero t) 0 rfl]
  simp only [law26_PenLeast_l0]
  have e1 : (((outB (stp f t)).length : Nat) : Int) ≤ (((outB (chg f t)).length : Nat) : Int) := by omega
  have e2 : (((outB (stp f t)).length : Nat) : Int) ≤ (((outB (anw t)).length : Nat) : Int) := by omega
  have e3 : decide ((((stp f t).length : Nat) : Int) = 0) = decide (f = t) := by
   by_cases e : f = t
   ·rw [decide_eq_true e]; unfold stp; rw [if_pos e]; rfl
   ·rw [decide_eq_false e, decide_eq_false_iff_not]
    unfold stp; rw [if_neg e]
    split
    ·intro h0
     exact e (chg_nil f t hf ht h.1 h.2 (List.length_eq_zero_iff.1 (by omega)))
    ·unfold anw; simp; omega
  rw [decide_eq_true e1, decide_eq_true e2, e3]
  simp
 ·have hb := Steps_bad f t h
  rw [hb.1]
  have h2 := hb.2
  have hl : (pen_Changes f t).1 = [] := by
   rw [Changes_eq]
   by_cases h1 : style_Check f = 0
   ·rw [if_pos h1]
    by_cases h2 : style_Check t = 0
    ·exact absurd ⟨h1, h2⟩ h
    ·rw [if_neg h2]
   ·rw [if_neg h1]
  simp only [bindV]
  rw [decide_eq_false h2, hl]
  simp
end Go.Proofs.YtinkdfnpmoljfaaGreatDoor

