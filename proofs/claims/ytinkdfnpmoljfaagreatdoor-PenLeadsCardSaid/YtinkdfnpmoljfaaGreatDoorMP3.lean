import Derived.Test.YtinkdfnpmoljfaaGreatDoorMP2
import Derived.Test.YtinkdfnpmoljfaaGreatDoorP10
set_option linter.unusedVariables false
set_option linter.unusedSimpArgs false
set_option maxRecDepth 10000
namespace Go.Proofs.YtinkdfnpmoljfaaGreatDoor
open Go Go.Fen
/-! What pens say: the program's and the reference's parameters, and their print. -/
theorem wrap_sm {x : Int} (h : -1000000000 ≤ x ∧ x ≤ 1000000000) : IntKind.i64.wrap x = x := wrap_in (by show (-9223372036854775808 : Int) ≤ _; omega) (by show _ ≤ (9223372036854775807 : Int); omega)
theorem and255 {x : Int} (h0 : 0 ≤ x) (h1 : x ≤ 9223372036854775807) : bOp .and .i64 x 255 = x % 256 := by
 obtain ⟨n, rfl⟩ : ∃ n : Nat, x = n := ⟨x.toNat, by omega⟩
 show IntKind.i64.wrap (((BitVec.ofInt 64 (n : Int)) &&& (BitVec.ofInt 64 255)).toNat : Int) = _
 have hn : n < 2 ^ 64 := by omega
 have e : ((BitVec.ofInt 64 (n : Int)) &&& (BitVec.ofInt 64 255)).toNat = n % 256 := by
  rw [BitVec.toNat_and, BitVec.ofInt_natCast, BitVec.toNat_ofNat, Nat.mod_eq_of_lt hn]
  show n &&& 255 = _
  exact Nat.and_two_pow_sub_one_eq_mod n 8
 rw [e, wrap_sm (by omega)]; omega
def colB (p : Int) : Int := 38 + 10 * (p - 4)
def colRow (p : Int) (c : Col) : List Int :=
 if c.kind = 0 then [colB p + 1] else if c.kind = 2 then [colB p, 2, -1, c.n / 65536, c.n / 256 % 256, c.n % 256] else if c.n < 8 ∧ p ≠ 6 then [colB p - 8 + c.n] else if c.n < 16 ∧ p ≠ 6 then [colB p + 44 + c.n] else [colB p, 5, c.n]
theorem col_ok {c : Col} (h : color_Check c = 0) : (c.kind = 0 ∧ c.n = 0) ∨ (c.kind = 1 ∧ 0 ≤ c.n ∧ c.n ≤ 255) ∨ (c.kind = 2 ∧ 0 ≤ c.n ∧ c.n ≤ 16777215) := by
 rw [color_eq] at h
 unfold ref03_Check at h
 by_cases h0 : c.kind = 0
 ·rw [decide_eq_true h0, cond_true] at h
  by_cases h1 : c.n = 0
  ·exact .inl ⟨h0, h1⟩
  ·rw [decide_eq_false h1, cond_false] at h; omega
 ·rw [decide_eq_false h0, cond_false] at h
  by_cases h1 : c.kind = 1
  ·rw [decide_eq_true h1, cond_true] at h
   by_cases h2 : 0 ≤ c.n ∧ c.n ≤ 255
   ·exact .inr (.inl ⟨h1, h2⟩)
   ·rw [show (decide ((0 : Int) ≤ c.n) && decide (c.n ≤ 255)) = false by simp only [Bool.and_eq_false_iff, decide_eq_false_iff_not]; omega, cond_false] at h; omega
  ·rw [decide_eq_false h1, cond_false] at h
   by_cases h2 : c.kind = 2
   ·rw [decide_eq_true h2, cond_true] at h
    by_cases h3 : 0 ≤ c.n ∧ c.n ≤ 16777215
    ·exact .inr (.inr ⟨h2, h3⟩)
    ·rw [show (decide ((0 : Int) ≤ c.n) && decide (c.n ≤ 16777215)) = false by simp only [Bool.and_eq_false_iff, decide_eq_false_iff_not]; omega, cond_false] at h; omega
   ·rw [decide_eq_false h2, cond_false] at h; omega
theorem told_col (p : Int) (hp : p = 4 ∨ p = 5 ∨ p = 6) (c : Col) (h : color_Check c = 0) : sgr_told (pC p c) = colRow p c := by
 have e : sgr_told (pC p c) = sgr_colour (pC p c) := by rcases hp with rfl | rfl | rfl <;> rfl
 rw [e]
 have hc := col_ok h
 have hB : IntKind.i64.wrap ((38 : Int) + (IntKind.i64.wrap ((10 : Int) * (IntKind.i64.wrap (p - (4 : Int)))))) = colB p := by rcases hp with rfl | rfl | rfl <;> rfl
 have hB2 : 38 ≤ colB p ∧ colB p ≤ 58 := by unfold colB; omega
 unfold sgr_colour
 show (bif decide (c.kind = 0) then _ else _) = _
 simp only [bindV, sgr_row]
 show (bif decide (c.kind = 0) then [IntKind.i64.wrap (IntKind.i64.wrap ((38 : Int) + (IntKind.i64.wrap ((10 : Int) * (IntKind.i64.wrap (p - (4 : Int)))))) + 1)] else (bif decide (c.kind = 2) then [IntKind.i64.wrap ((38 : Int) + (IntKind.i64.wrap ((10 : Int) * (IntKind.i64.wrap (p - (4 : Int)))))), 2, (-1), (c.n / 65536), (bOp .and .i64 (c.n / 256) 255), (bOp .and .i64 c.n 255)] else (bif (decide (c.n < 8) && !decide (p = 6)) then [IntKind.i64.wrap (IntKind.i64.wrap (IntKind.i64.wrap ((38 : Int) + (IntKind.i64.wrap ((10 : Int) * (IntKind.i64.wrap (p - (4 : Int)))))) - 8) + c.n)] else (bif (decide (c.n < 16) && !decide (p = 6)) then [IntKind.i64.wrap (IntKind.i64.wrap (IntKind.i64.wrap (IntKind.i64.wrap ((38 : Int) + (IntKind.i64.wrap ((10 : Int) * (IntKind.i64.wrap (p - (4 : Int)))))) + 52) + c.n) - 8)] else [IntKind.i64.wrap ((38 : Int) + (IntKind.i64.wrap ((10 : Int) * (IntKind.i64.wrap (p - (4 : Int)))))), 5, c.n])))) = _
 rw [hB]
 unfold colRow
 have hn : 0 ≤ c.n ∧ c.n ≤ 16777215 := by omega
 rw [and255 (by omega) (by omega), and255 (by omega) (by omega)]
 by_cases h0 : c.kind = 0
 ·rw [decide_eq_true h0, cond_true, if_pos h0, wrap_sm (by omega)]
 ·rw [decide_eq_false h0, cond_false, if_neg h0]
  by_cases h2 : c.kind = 2
  ·rw [decide_eq_true h2, cond_true, if_pos h2]
  ·rw [decide_eq_false h2, cond_false, if_neg h2]
   have hn : 0 ≤ c.n ∧ c.n ≤ 255 := by omega
   by_cases h8 : c.n < 8 ∧ p ≠ 6
   ·rw [if_pos h8, decide_eq_true h8.1, decide_eq_false h8.2]
    show [_] = _
    rw [wrap_sm (x := colB p - 8) (by omega), wrap_sm (by omega)]
   ·rw [if_neg h8, show (decide (c.n < 8) && !decide (p = 6)) = false by simp only [Bool.and_eq_false_iff, decide_eq_false_iff_not, Bool.not_eq_false', decide_eq_true_eq]; omega, cond_false]
    by_cases h16 : c.n < 16 ∧ p ≠ 6
    ·rw [if_pos h16, decide_eq_true h16.1, decide_eq_false h16.2]
     show [_] = _
     rw [wrap_sm (x := colB p + 52) (by omega), wrap_sm (x := colB p + 52 + c.n) (by omega), wrap_sm (by omega)]
     congr 1; omega
    ·rw [if_neg h16, show (decide (c.n < 16) && !decide (p = 6)) = false by simp only [Bool.and_eq_false_iff, decide_eq_false_iff_not, Bool.not_eq_false', decide_eq_true_eq]; omega, cond_false]
theorem rtold_col (p : Int) (hp : p = 4 ∨ p = 5 ∨ p = 6) (c : Col) (h : color_Check c = 0) : ref09_Param (pC p c) = colRow p c := by
 have hc := col_ok h
 have hB : IntKind.i64.wrap ((38 : Int) + (IntKind.i64.wrap ((10 : Int) * (IntKind.i64.wrap (p - (4 : Int)))))) = colB p := by rcases hp with rfl | rfl | rfl <;> rfl
 have hB2 : 38 ≤ colB p ∧ colB p ≤ 58 := by unfold colB; omega
 have e : ref09_Param (pC p c) = (bif decide (c.kind = 0) then [IntKind.i64.wrap (IntKind.i64.wrap ((38 : Int) + (IntKind.i64.wrap ((10 : Int) * (IntKind.i64.wrap (p - (4 : Int)))))) + 1)] else (bif decide (c.kind = 2) then [IntKind.i64.wrap ((38 : Int) + (IntKind.i64.wrap ((10 : Int) * (IntKind.i64.wrap (p - (4 : Int)))))), 2, (-1), IntKind.i64.wrap (Int.tdiv c.n 65536), Int.tmod (IntKind.i64.wrap (Int.tdiv c.n 256)) 256, Int.tmod c.n 256] else (bif (!decide (p = 6) && decide (c.n < 8)) then [IntKind.i64.wrap (IntKind.i64.wrap (IntKind.i64.wrap ((38 : Int) + (IntKind.i64.wrap ((10 : Int) * (IntKind.i64.wrap (p - (4 : Int)))))) - 8) + c.n)] else (bif (!decide (p = 6) && decide (c.n < 16)) then [IntKind.i64.wrap (IntKind.i64.wrap (IntKind.i64.wrap ((38 : Int) + (IntKind.i64.wrap ((10 : Int) * (IntKind.i64.wrap (p - (4 : Int)))))) + 44) + c.n)] else [IntKind.i64.wrap ((38 : Int) + (IntKind.i64.wrap ((10 : Int) * (IntKind.i64.wrap (p - (4 : Int)))))), 5, c.n])))) := by
  rcases hp with rfl | rfl | rfl <;> rfl
 rw [e, hB]
 unfold colRow
 have hn : 0 ≤ c.n ∧ c.n ≤ 16777215 := by omega
 rw [Int.tdiv_eq_ediv_of_nonneg hn.1, Int.tdiv_eq_ediv_of_nonneg hn.1, Int.tmod_eq_emod_of_nonneg hn.1, wrap_sm (x := c.n / 65536) (by omega), wrap_sm (x := c.n / 256) (by omega), Int.tmod_eq_emod_of_nonneg (by omega : 0 ≤ c.n / 256)]
 by_cases h0 : c.kind = 0
 ·rw [decide_eq_true h0, cond_true, if_pos h0, wrap_sm (by omega)]
 ·rw [decide_eq_false h0, cond_false, if_neg h0]
  by_cases h2 : c.kind = 2
  ·rw [decide_eq_true h2, cond_true, if_pos h2]
  ·rw [decide_eq_false h2, cond_false, if_neg h2]
   have hn : 0 ≤ c.n ∧ c.n ≤ 255 := by omega
   by_cases h8 : c.n < 8 ∧ p ≠ 6
   ·rw [if_pos h8, decide_eq_true h8.1, decide_eq_false h8.2]
    show [_] = _
    rw [wrap_sm (x := colB p - 8) (by omega), wrap_sm (by omega)]
   ·rw [if_neg h8, show (!decide (p = 6) && decide (c.n < 8)) = false by simp only [Bool.and_eq_false_iff, decide_eq_false_iff_not, Bool.not_eq_false', decide_eq_true_eq]; omega, cond_false]
    by_cases h16 : c.n < 16 ∧ p ≠ 6
    ·rw [if_pos h16, decide_eq_true h16.1, decide_eq_false h16.2]
     show [_] = _
     rw [wrap_sm (x := colB p + 44) (by omega), wrap_sm (by omega)]
    ·rw [if_neg h16, show (!decide (p = 6) && decide (c.n < 16)) = false by simp only [Bool.and_eq_false_iff, decide_eq_false_iff_not, Bool.not_eq_false', decide_eq_true_eq]; omega, cond_false]
/-- What a parameter may be. -/
def rowOk (r : List Int) : Prop := 1 ≤ r.length ∧ r.length ≤ 6 ∧ r ≠ [-1] ∧ ∀ n ∈ r, -1 ≤ n ∧ n ≤ 9999
theorem colRow_ok (p : Int) (hp : p = 4 ∨ p = 5 ∨ p = 6) (c : Col) (h : color_Check c = 0) : rowOk (colRow p c) := by
 have hc := col_ok h
 have hB2 : 38 ≤ colB p ∧ colB p ≤ 58 := by unfold colB; omega
 have hn : 0 ≤ c.n ∧ c.n ≤ 16777215 := by omega
 unfold colRow rowOk
 split
 ·refine ⟨by simp, by simp, by simp; omega, ?_⟩; simp; omega
 split
 ·refine ⟨by simp, by simp, by simp, ?_⟩; simp; omega
 have hn : 0 ≤ c.n ∧ c.n ≤ 255 := by omega
 split
 ·refine ⟨by simp, by simp, by simp; omega, ?_⟩; simp; omega
 split
 ·refine ⟨by simp, by simp, by simp; omega, ?_⟩; simp; omega
 ·refine ⟨by simp, by simp, by simp, ?_⟩; simp; omega
/-- A pen as both read it. -/
structure Told (a : Act) : Prop where
 chk : style_CheckPen a = 0
 rchk : ref04_CheckPen a = 0
 same : sgr_told a = ref09_Param a
 row : rowOk (sgr_told a)
theorem told_reset : Told (pA 0 0) := ⟨by decide +kernel, by decide +kernel, by decide +kernel, ⟨by decide +kernel, by decide +kernel, by decide +kernel, by decide +kernel⟩⟩
theorem told_both : Told (pA 2 3) := ⟨by decide +kernel, by decide +kernel, by decide +kernel, ⟨by decide +kernel, by decide +kernel, by decide +kernel, by decide +kernel⟩⟩
theorem told_set : ∀ j < 8, Told (pA 1 (pw8 j)) := by
 intro j hj
 have h : ∀ j < 8, style_CheckPen (pA 1 (pw8 j)) = 0 ∧ ref04_CheckPen (pA 1 (pw8 j)) = 0 ∧ sgr_told (pA 1 (pw8 j)) = ref09_Param (pA 1 (pw8 j)) ∧ (1 ≤ (sgr_told (pA 1 (pw8 j))).length ∧ (sgr_told (pA 1 (pw8 j))).length ≤ 6 ∧ sgr_told (pA 1 (pw8 j)) ≠ [-1] ∧ ∀ n ∈ sgr_told (pA 1 (pw8 j)), -1 ≤ n ∧ n ≤ 9999) := by decide +kernel
 exact ⟨(h j hj).1, (h j hj).2.1, (h j hj).2.2.1, (h j hj).2.2.2⟩
theorem told_clr : ∀ j < 8, 2 ≤ j → Told (pA 2 (pw8 j)) := by
 intro j hj h2
 have h : ∀ j < 8, 2 ≤ j → style_CheckPen (pA 2 (pw8 j)) = 0 ∧ ref04_CheckPen (pA 2 (pw8 j)) = 0 ∧ sgr_told (pA 2 (pw8 j)) = ref09_Param (pA 2 (pw8 j)) ∧ (1 ≤ (sgr_told (pA 2 (pw8 j))).length ∧ (sgr_told (pA 2 (pw8 j))).length ≤ 6 ∧ sgr_told (pA 2 (pw8 j)) ≠ [-1] ∧ ∀ n ∈ sgr_told (pA 2 (pw8 j)), -1 ≤ n ∧ n ≤ 9999) := by decide +kernel
 exact ⟨(h j hj h2).1, (h j hj h2).2.1, (h j hj h2).2.2.1, (h j hj h2).2.2.2⟩
theorem told_under (m : Int) (h0 : 0 ≤ m) (h5 : m ≤ 5) : Told (pA 3 m) := by
 obtain ⟨n, rfl⟩ : ∃ n : Nat, m = n := ⟨m.toNat, by omega⟩
 have hn : n < 6 := by omega
 have h : ∀ n < 6, style_CheckPen (pA 3 (n : Nat)) = 0 ∧ ref04_CheckPen (pA 3 (n : Nat)) = 0 ∧ sgr_told (pA 3 (n : Nat)) = ref09_Param (pA 3 (n : Nat)) ∧ (1 ≤ (sgr_told (pA 3 (n : Nat))).length ∧ (sgr_told (pA 3 (n : Nat))).length ≤ 6 ∧ sgr_told (pA 3 (n : Nat)) ≠ [-1] ∧ ∀ x ∈ sgr_told (pA 3 (n : Nat)), -1 ≤ x ∧ x ≤ 9999) := by decide +kernel
 exact ⟨(h n hn).1, (h n hn).2.1, (h n hn).2.2.1, (h n hn).2.2.2⟩
theorem told_pC (p : Int) (hp : p = 4 ∨ p = 5 ∨ p = 6) (c : Col) (h : color_Check c = 0) : Told (pC p c) := by
 refine ⟨?_, ?_, by rw [told_col p hp c h, rtold_col p hp c h], by rw [told_col p hp c h]; exact colRow_ok p hp c h⟩
 ·have e : style_CheckPen (pC p c) = (bif !decide (color_Check c = 0) then 141 else 0) := by rcases hp with rfl | rfl | rfl <;> rfl
  rw [e, h]; rfl
 ·have e : ref04_CheckPen (pC p c) = (bif !decide (ref03_Check c = 0) then 141 else 0) := by
   rcases hp with rfl | rfl | rfl
   ·show (bif (((!decide ((39 : Int) = 39)) || (!(decide (([] : List UInt8) = ([] : List UInt8))))) || (!((decide ((0 : Int) = 0)) && (decide (ref03_Check c = 0))))) then (141 : Int) else 0) = _
    simp
   ·show (bif (((!decide ((39 : Int) = 39)) || (!(decide (([] : List UInt8) = ([] : List UInt8))))) || (!((decide ((0 : Int) = 0)) && (decide (ref03_Check c = 0))))) then (141 : Int) else 0) = _
    simp
   ·show (bif (((!decide ((39 : Int) = 39)) || (!(decide (([] : List UInt8) = ([] : List UInt8))))) || (!((decide ((0 : Int) = 0)) && (decide (ref03_Check c = 0))))) then (141 : Int) else 0) = _
    simp
  rw [e, ← color_eq, h]; rfl
end Go.Proofs.YtinkdfnpmoljfaaGreatDoor

