import Derived.Test.YtinkdfnpmoljfaaGreatDoorMP1
import Derived.Test.YtinkdfnpmoljfaaGreatDoorP9
set_option linter.unusedVariables false
set_option linter.unusedSimpArgs false
set_option maxRecDepth 10000
namespace Go.Proofs.YtinkdfnpmoljfaaGreatDoor
open Go Go.Fen
/-! The reference's changes are the program's. -/
theorem clr_low (f t : Sty) (j : Nat) (hj : j < 2) : clrC (hasA f t) t (pw8 j) = false := by
 rw [clrC_eq f t j (by omega), hasA_bq f t j (by omega), show decide (j < 2) = true by simp [hj], Bool.and_true]
 unfold gq
 rcases j with _ | _ | j
 ·cases bq f.attr 0 <;> cases bq t.attr 0 <;> simp
 ·cases bq f.attr 1 <;> cases bq t.attr 1 <;> simp
 ·omega
theorem oneIf_ex (a b : Bool) (x y : Act) (h : (a && b) = false) : (oneIf a x).length + (oneIf b y).length ≤ 1 := by
 cases a <;> cases b <;> simp [oneIf] at h ⊢
theorem chg_len16 (f t : Sty) : (chg f t).length ≤ 13 := by
 have hx : ∀ j < 8, (clrC (hasA f t) t (pw8 j) && setC (hasA f t) t (pw8 j)) = false := by
  intro j hj; rw [clrC_eq f t j hj, setC_eq f t j hj]
  cases bq (hasA f t) j <;> cases bq t.attr j <;> rfl
 have h := oneIf_len
 unfold chg clrs sets tails
 rw [bits8_eq, show List.range 8 = [0, 1, 2, 3, 4, 5, 6, 7] from rfl]
 simp only [List.map_cons, List.map_nil, List.flatMap_cons, List.flatMap_nil, List.length_append, List.length_nil]
 have h0 := h (goneC f t) (pA 2 3)
 have hc := fun j (hj : j < 8) => oneIf_ex _ _ (pA 2 (pw8 j)) (pA 1 (pw8 j)) (hx j hj)
 have c0 := hc 0 (by omega); have c1 := hc 1 (by omega); have c2 := hc 2 (by omega); have c3 := hc 3 (by omega); have c4 := hc 4 (by omega); have c5 := hc 5 (by omega); have c6 := hc 6 (by omega); have c7 := hc 7 (by omega)
 have u := h (!decide (f.under = t.under)) (pA 3 t.under); have v := h (!decide (f.fore = t.fore)) (pC 4 t.fore); have w := h (!decide (f.back = t.back)) (pC 5 t.back); have x := h (!decide (f.line = t.line)) (pC 6 t.line)
 omega
theorem Same_l0 (b : List Act) : ∀ (a : List Act) (i : Nat), a = b.drop i → ref26_Same_l0 b a i = true
 | [], i, h => rfl
 | x :: a, i, h => by
  have hlt : i < b.length := by
   by_cases hh : i < b.length
   ·exact hh
   ·rw [List.drop_eq_nil_of_le (by omega)] at h; cases h
  have hd := List.drop_eq_getElem_cons hlt
  rw [hd] at h
  have h1 := (List.cons.inj h).1; have h2 := (List.cons.inj h).2
  simp only [ref26_Same_l0]
  rw [gdE hlt, ← h1, decide_eq_true rfl]
  exact Same_l0 b a (i + 1) h2
theorem Same_refl (a : List Act) : ref26_Same a a = true := by
 unfold ref26_Same
 rw [decide_eq_true rfl]
 exact Same_l0 a a 0 rfl
theorem color_eq (c : Col) : color_Check c = ref03_Check c := by
 unfold color_Check ref03_Check
 by_cases h0 : c.kind = 0
 ·rw [h0]
  show (bif (((decide ((0 : Int) < 0) || decide ((3 : Int) ≤ 0)) || decide (c.n < 0)) || decide ((0 : Int) < c.n)) then (130 : Int) else 0) = (bif decide (c.n = 0) then (0 : Int) else 130)
  by_cases h : c.n = 0
  ·rw [h]; rfl
  ·rw [decide_eq_false h, show (((decide ((0 : Int) < 0) || decide ((3 : Int) ≤ 0)) || decide (c.n < 0)) || decide ((0 : Int) < c.n)) = true by simp only [Bool.or_eq_true, decide_eq_true_eq]; omega]; rfl
 ·rw [decide_eq_false h0, cond_false]
  by_cases h1 : c.kind = 1
  ·rw [h1]
   show (bif (((decide ((1 : Int) < 0) || decide ((3 : Int) ≤ 1)) || decide (c.n < 0)) || decide ((255 : Int) < c.n)) then (130 : Int) else 0) = (bif (decide (0 ≤ c.n) && decide (c.n ≤ 255)) then (0 : Int) else 130)
   by_cases h : 0 ≤ c.n ∧ c.n ≤ 255
   ·rw [show (decide (0 ≤ c.n) && decide (c.n ≤ 255)) = true by simp only [Bool.and_eq_true, decide_eq_true_eq]; exact h, show (((decide ((1 : Int) < 0) || decide ((3 : Int) ≤ 1)) || decide (c.n < 0)) || decide ((255 : Int) < c.n)) = false by simp only [Bool.or_eq_false_iff, decide_eq_false_iff_not]; omega]; rfl
   ·rw [show (decide (0 ≤ c.n) && decide (c.n ≤ 255)) = false by simp only [Bool.and_eq_false_iff, decide_eq_false_iff_not]; omega, show (((decide ((1 : Int) < 0) || decide ((3 : Int) ≤ 1)) || decide (c.n < 0)) || decide ((255 : Int) < c.n)) = true by simp only [Bool.or_eq_true, decide_eq_true_eq]; omega]; rfl
  ·rw [decide_eq_false h1, cond_false]
   by_cases h2 : c.kind = 2
   ·rw [h2]
    show (bif (((decide ((2 : Int) < 0) || decide ((3 : Int) ≤ 2)) || decide (c.n < 0)) || decide ((16777215 : Int) < c.n)) then (130 : Int) else 0) = (bif (decide (0 ≤ c.n) && decide (c.n ≤ 16777215)) then (0 : Int) else 130)
    by_cases h : 0 ≤ c.n ∧ c.n ≤ 16777215
    ·rw [show (decide (0 ≤ c.n) && decide (c.n ≤ 16777215)) = true by simp only [Bool.and_eq_true, decide_eq_true_eq]; exact h, show (((decide ((2 : Int) < 0) || decide ((3 : Int) ≤ 2)) || decide (c.n < 0)) || decide ((16777215 : Int) < c.n)) = false by simp only [Bool.or_eq_false_iff, decide_eq_false_iff_not]; omega]; rfl
    ·rw [show (decide (0 ≤ c.n) && decide (c.n ≤ 16777215)) = false by simp only [Bool.and_eq_false_iff, decide_eq_false_iff_not]; omega, show (((decide ((2 : Int) < 0) || decide ((3 : Int) ≤ 2)) || decide (c.n < 0)) || decide ((16777215 : Int) < c.n)) = true by simp only [Bool.or_eq_true, decide_eq_true_eq]; omega]; rfl
   ·rw [decide_eq_false h2, cond_false]
    rw [show (decide (c.kind < 0) || decide ((3 : Int) ≤ c.kind)) = true by simp only [Bool.or_eq_true, decide_eq_true_eq]; omega]; rfl
theorem andNot255 {a : Int} (h0 : -9223372036854775808 ≤ a) (h1 : a ≤ 9223372036854775807) : bOp .andNot .i64 a 255 = 0 ↔ 0 ≤ a ∧ a ≤ 255 := by
 show IntKind.i64.wrap (((BitVec.ofInt 64 a &&& ~~~ BitVec.ofInt 64 255).toNat : Nat) : Int) = 0 ↔ _
 have hw : ∀ v : BitVec 64, IntKind.i64.wrap ((v.toNat : Nat) : Int) = 0 ↔ v = 0#64 := fun v => by
  have := v.isLt
  constructor
  ·intro h
   apply BitVec.eq_of_toNat_eq
   simp [IntKind.wrap, IntKind.signed, IntKind.bits] at h ⊢
   omega
  ·intro h; subst h; decide
 rw [hw]
 have ht : (BitVec.ofInt 64 a).toNat = (a % 18446744073709551616).toNat := by rw [BitVec.toNat_ofInt]; rfl
 constructor
 ·intro h
  have hlt : (BitVec.ofInt 64 a).toNat < 2 ^ 8 := by
   apply Nat.lt_pow_two_of_testBit
   intro i hi
   have hb : (BitVec.ofInt 64 a &&& ~~~ BitVec.ofInt 64 255).getLsbD i = false := by rw [h]; simp
   rw [BitVec.getLsbD_and, BitVec.getLsbD_not] at hb
   by_cases hi64 : i < 64
   ·have h255 : (BitVec.ofInt 64 255).getLsbD i = false := by
     show (255 : Nat).testBit i = false
     exact Nat.testBit_lt_two_pow (Nat.lt_of_lt_of_le (by decide : 255 < 2 ^ 8) (Nat.pow_le_pow_right (by decide) hi))
    rw [h255] at hb
    simpa [hi64, BitVec.getLsbD] using hb
   ·exact Nat.testBit_lt_two_pow (Nat.lt_of_lt_of_le (BitVec.isLt _) (Nat.pow_le_pow_right (by decide) (by omega)))
  rw [ht] at hlt; omega
 ·intro h
  obtain ⟨n, rfl⟩ : ∃ n : Nat, a = n := ⟨a.toNat, by omega⟩
  have hn : n < 256 := by omega
  clear h h0 h1 ht hw
  revert hn; revert n; decide +kernel
theorem style_eq (s : Sty) (h0 : -9223372036854775808 ≤ s.attr) (h1 : s.attr ≤ 9223372036854775807) : style_Check s = ref04_Check s := by
 unfold style_Check ref04_Check
 rw [color_eq, color_eq, color_eq]
 have e : ((!decide ((bOp .andNot .i64 s.attr 255) = 0)) || (decide (s.under < 0))) = (((decide (s.attr < 0)) || (decide ((255 : Int) < s.attr))) || (decide (s.under < 0))) := by
  congr 1
  rw [Bool.eq_iff_iff]; simp only [Bool.not_eq_true', decide_eq_false_iff_not, Bool.or_eq_true, decide_eq_true_eq, andNot255 h0 h1]; omega
 rw [e]
end Go.Proofs.YtinkdfnpmoljfaaGreatDoor

