import Derived.Test.YtinkdfnpmoljfaaGreatDoorT8
import Derived.Test.YtinkdfnpmoljfaaGreatDoorMS
set_option linter.unusedVariables false
set_option linter.unusedSimpArgs false
namespace Go.Proofs.YtinkdfnpmoljfaaGreatDoor
open Go Go.Fen
/-! ShiftBest in plain Lean: the shifts drawn, the marks of like rows, the greatest gain. -/
def shOk (n : Int) (s : Shf) : Prop := 0 ≤ s.top ∧ s.top ≤ s.bottom ∧ s.bottom < n ∧ s.amt ≠ 0 ∧ s.top - s.bottom ≤ s.amt ∧ s.amt ≤ s.bottom - s.top
theorem check_of_ok {n : Int} {s : Shf} (h1 : 1 ≤ n) (h2 : n ≤ 40) (h : shOk n s) : shift_Check s n = 0 := by
  unfold shOk at h
  unfold shift_Check
  rw [decide_eq_false (by omega : ¬ n < 1), decide_eq_false (by omega : ¬ (40 : Int) < n), decide_eq_false (by omega : ¬ s.top < 0), decide_eq_false (by omega : ¬ s.bottom < s.top), decide_eq_false (by omega : ¬ n ≤ s.bottom), decide_eq_false (by omega : ¬ s.amt = 0), decide_eq_false (by omega : ¬ s.amt < s.top - s.bottom), decide_eq_false (by omega : ¬ s.bottom - s.top < s.amt)]
  rfl
/-! and every one of them is drawn -/
/-! the marks -/
def isB (x : Int) (j : Nat) : Prop := ∃ v : BitVec 64, x = (v.toNat : Int) ∧ v.getLsbD j = true
def Has (J : Nat → Prop) (out : Lks) : Prop := ∀ r, J r → isB (out.f r) r
/-! the greatest -/
end Go.Proofs.YtinkdfnpmoljfaaGreatDoor

