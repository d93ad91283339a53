import Derived.Test.YtinkdfnpmoljfaaGreatDoorT8
import Derived.Test.YtinkdfnpmoljfaaGreatDoorMS
set_option linter.unusedVariables false
set_option linter.unusedSimpArgs false
namespace Go.Proofs.YtinkdfnpmoljfaaGreatDoor
open Go Go.Fen
/-! ShiftBest in plain Lean: the shifts drawn, the marks of like rows, the greatest gain. -/
def shOk (n : Int) (s : Shf) : Prop := 0 ≤ s.top ∧ s.top ≤ s.bottom ∧ s.bottom < n ∧ s.amt ≠ 0 ∧ s.top - s.bottom ≤ s.amt ∧ s.amt ≤ s.bottom - s.top
theorem check_of_ok {n : Int} {s : Shf} (h1 : 1 ≤ n) (h2 : n ≤ 40) (h : shOk n s) : shift_Check s n = 0 := by
 unfold shOk at h
 unfold shift_Check
 rw [decide_eq_false (by omega : ¬ n < 1), decide_eq_false (by omega : ¬ (40 : Int) < n), decide_eq_false (by omega : ¬ s.top < 0), decide_eq_false (by omega : ¬ s.bottom < s.top), decide_eq_false (by omega : ¬ n ≤ s.bottom), decide_eq_false (by omega : ¬ s.amt = 0), decide_eq_false (by omega : ¬ s.amt < s.top - s.bottom), decide_eq_false (by omega : ¬ s.bottom - s.top < s.amt)]
 rfl
theorem best_l12_in (c0 : Int) (t b : Nat) (hb : (b : Int) < c0) (htb : t ≤ b) (ag : Nat → List Shf) (hag : ∀ x ∈ ag (b + 1), shOk c0 x) : ∀ (fu k : Nat), 1 ≤ k → ∀ x ∈ shift_shifts_1_l12 t b ag fu k, shOk c0 x
 | 0, k, _, x, hx => by simp [shift_shifts_1_l12] at hx
 | fu + 1, k, hk, x, hx => by
  simp only [shift_shifts_1_l12] at hx
  by_cases c : (b : Int) - (t : Int) < (k : Int)
  ·rw [decide_eq_true c] at hx; exact hag x hx
  ·rw [decide_eq_false c, cond_false] at hx
   rcases List.mem_cons.1 hx with rfl | hx
   ·unfold shOk; dsimp only; omega
   ·rcases List.mem_cons.1 hx with rfl | hx
    ·unfold shOk; dsimp only; omega
    ·exact best_l12_in c0 t b hb htb ag hag fu (k + 1) (by omega) x hx
theorem best_l11_in (c0 : Int) (t : Nat) (ag : Nat → List Shf) (hag : ∀ x ∈ ag (t + 1), shOk c0 x) : ∀ (fu b : Nat), t ≤ b → ∀ x ∈ shift_shifts_1_l11 c0 t ag fu b, shOk c0 x
 | 0, b, _, x, hx => by simp [shift_shifts_1_l11] at hx
 | fu + 1, b, hb, x, hx => by
  simp only [shift_shifts_1_l11] at hx
  by_cases c : (b : Int) < c0
  ·rw [decide_eq_true c, cond_true] at hx
   exact best_l12_in c0 t b c hb _ (fun x hx => best_l11_in c0 t ag hag fu (b + 1) (by omega) x hx) _ 1 (Nat.le_refl _) x hx
  ·rw [decide_eq_false c, cond_false] at hx; exact hag x hx
theorem best_l8_in (c0 : Int) : ∀ (fu t : Nat), ∀ x ∈ shift_shifts_1_l8 c0 fu t, shOk c0 x
 | 0, t, x, hx => by simp [shift_shifts_1_l8] at hx
 | fu + 1, t, x, hx => by
  simp only [shift_shifts_1_l8] at hx
  by_cases c : (t : Int) < c0
  ·rw [decide_eq_true c, cond_true] at hx
   exact best_l11_in c0 t _ (fun x hx => best_l8_in c0 fu (t + 1) x hx) _ (t + 1) (by omega) x hx
  ·rw [decide_eq_false c] at hx; simp at hx
theorem best_in (c0 : Int) : ∀ x ∈ shift_shifts_1 (shift_shifts c0), shOk c0 x := best_l8_in c0 _ _
/-! and every one of them is drawn -/
/-! the marks -/
def isB (x : Int) (j : Nat) : Prop := ∃ v : BitVec 64, x = (v.toNat : Int) ∧ v.getLsbD j = true
theorem or_bv (x y : Int) : bOp .or .u64 x y = (((BitVec.ofInt 64 x) ||| (BitVec.ofInt 64 y)).toNat : Int) := by
 unfold bOp
 exact wrap_in (by simp [IntKind.min, IntKind.signed]) (by have := ((BitVec.ofInt 64 x) ||| (BitVec.ofInt 64 y)).isLt; simp only [IntKind.max, IntKind.signed, IntKind.bits]; show (_ : Int) ≤ _; simp; omega)
def Has (J : Nat → Prop) (out : Lks) : Prop := ∀ r, J r → isB (out.f r) r
/-! the greatest -/
theorem spans_r3_snd (t : Nat) (ag : Nat → List Sp3 → List Sp3 × Int) (hag : ∀ l, (ag (t + 1) l).2 = 0) : ∀ (es bl : List Sp3), (damage_Spans_r3 t ag es bl).2 = 0
 | [], bl => by simp only [damage_Spans_r3]; exact hag bl
 | x :: es, bl => by simp only [damage_Spans_r3, bindV]; exact spans_r3_snd t ag hag es _
theorem spans_l0_snd (br : List (List Cel)) : ∀ (ar : List (List Cel)) (t : Nat) (l : List Sp3), (damage_Spans_l0 br ar t l).2 = 0
 | [], t, l => by simp only [damage_Spans_l0]
 | x :: ar, t, l => by simp only [damage_Spans_l0]; exact spans_r3_snd t _ (fun l => spans_l0_snd br ar (t + 1) l) _ _
theorem sized_eq (ac : Int) (ar : List (List Cel)) (acu : Plc) (av : Bool) (ash : Int) (at_ : List UInt8) (bc : Int) (br : List (List Cel)) (bcu : Plc) (bv_ : Bool) (bsh : Int) (bt_ : List UInt8) : shift_sized ac ar acu av ash at_ bc br bcu bv_ bsh bt_ = damage_checked ac ar acu av ash at_ bc br bcu bv_ bsh bt_ := by
 unfold shift_sized bindV damage_Spans
 by_cases h : damage_checked ac ar acu av ash at_ bc br bcu bv_ bsh bt_ = 0
 ·rw [decide_eq_true h]; simp only [Bool.not_true, cond_false]; rw [spans_l0_snd, h]
 ·rw [decide_eq_false h]; rfl
end Go.Proofs.YtinkdfnpmoljfaaGreatDoor

