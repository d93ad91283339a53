import Derived.Test.YtinkdfnpmoljfaaGreatDoorP6
set_option linter.unusedVariables false
set_option linter.unusedSimpArgs false
namespace Go.Proofs.YtinkdfnpmoljfaaGreatDoor
open Go Go.Fen
/-! Bits of attributes; the changes are the reference's. -/
theorem i64_toInt (v : BitVec 64) : IntKind.i64.wrap (v.toNat : Int) = v.toInt := by
 rw [BitVec.toInt_eq_toNat_bmod]
 have h := v.isLt
 rw [Int.bmod_def]
 unfold IntKind.wrap
 simp only [IntKind.bits, IntKind.signed]
 have e : ((2 : Int) ^ 64) = 18446744073709551616 := by decide
 have e2 : (((2 ^ 64 : Nat) : Int)) = 18446744073709551616 := by decide
 have e3 : ((2 : Int) ^ 63) = 9223372036854775808 := by decide
 simp
 omega
theorem ofInt_wrap (v : BitVec 64) : BitVec.ofInt 64 (IntKind.i64.wrap (v.toNat : Int)) = v := by rw [i64_toInt, BitVec.ofInt_toInt]
def bq (x : Int) (j : Nat) : Bool := (BitVec.ofInt 64 x).getLsbD j
theorem bq_or (x y : Int) (j : Nat) : bq (bOp .or .i64 x y) j = (bq x j || bq y j) := by
 unfold bq bOp
 show (BitVec.ofInt 64 (IntKind.i64.wrap ((BitVec.ofInt 64 x ||| BitVec.ofInt 64 y).toNat : Int))).getLsbD j = _
 rw [ofInt_wrap, BitVec.getLsbD_or]
theorem bq_andNot (x y : Int) (j : Nat) (hj : j < 64) : bq (bOp .andNot .i64 x y) j = (bq x j && !bq y j) := by
 unfold bq bOp
 show (BitVec.ofInt 64 (IntKind.i64.wrap ((BitVec.ofInt 64 x &&& ~~~BitVec.ofInt 64 y).toNat : Int))).getLsbD j = _
 rw [ofInt_wrap, BitVec.getLsbD_and, BitVec.getLsbD_not, decide_eq_true hj, Bool.true_and]
theorem and_val (x : Int) (b : Int) (j : Nat) (hb : BitVec.ofInt 64 b = BitVec.twoPow 64 j) (hv : (BitVec.twoPow 64 j).toInt = b) : bOp .and .i64 x b = bif bq x j then b else 0 := by
 unfold bq bOp
 show IntKind.i64.wrap ((BitVec.ofInt 64 x &&& BitVec.ofInt 64 b).toNat : Int) = _
 rw [i64_toInt, hb, BitVec.and_twoPow]
 cases (BitVec.ofInt 64 x).getLsbD j with
 | true => simpa using hv
 | false => simp
theorem and1 (x : Int) : bOp .and .i64 x 1 = bif bq x 0 then 1 else 0 := and_val x 1 0 (by decide) (by decide)
theorem and2 (x : Int) : bOp .and .i64 x 2 = bif bq x 1 then 2 else 0 := and_val x 2 1 (by decide) (by decide)
theorem and4 (x : Int) : bOp .and .i64 x 4 = bif bq x 2 then 4 else 0 := and_val x 4 2 (by decide) (by decide)
theorem and8 (x : Int) : bOp .and .i64 x 8 = bif bq x 3 then 8 else 0 := and_val x 8 3 (by decide) (by decide)
theorem and16 (x : Int) : bOp .and .i64 x 16 = bif bq x 4 then 16 else 0 := and_val x 16 4 (by decide) (by decide)
theorem and32 (x : Int) : bOp .and .i64 x 32 = bif bq x 5 then 32 else 0 := and_val x 32 5 (by decide) (by decide)
theorem and64 (x : Int) : bOp .and .i64 x 64 = bif bq x 6 then 64 else 0 := and_val x 64 6 (by decide) (by decide)
theorem and128 (x : Int) : bOp .and .i64 x 128 = bif bq x 7 then 128 else 0 := and_val x 128 7 (by decide) (by decide)
theorem and3 (x : Int) : decide (bOp .and .i64 x 3 = 0) = (!(bq x 0 || bq x 1)) := by
 have e : BitVec.ofInt 64 3 = BitVec.twoPow 64 0 ||| BitVec.twoPow 64 1 := by decide
 unfold bq bOp
 show decide (IntKind.i64.wrap ((BitVec.ofInt 64 x &&& BitVec.ofInt 64 3).toNat : Int) = 0) = _
 rw [i64_toInt, e, BitVec.and_or_distrib_left, BitVec.and_twoPow, BitVec.and_twoPow]
 cases (BitVec.ofInt 64 x).getLsbD 0 <;> cases (BitVec.ofInt 64 x).getLsbD 1 <;> decide
theorem nz (c : Bool) (b : Int) (hb : b ≠ 0) : decide ((bif c then b else 0) = 0) = !c := by cases c <;> simp [hb]
theorem bq3 : ∀ j < 8, bq 3 j = (decide (j = 0) || decide (j = 1)) := by decide
/-- Which bits there are, once those that go together are cleared. -/
def gq (f t : Sty) : Bool := (bq f.attr 0 && !bq t.attr 0) || (bq f.attr 1 && !bq t.attr 1)
theorem goneC_eq (f t : Sty) : goneC f t = gq f t := by
 unfold goneC gq; rw [and3, Bool.not_not, bq_andNot _ _ _ (by omega), bq_andNot _ _ _ (by omega)]
theorem hasA_bq (f t : Sty) (j : Nat) (hj : j < 8) : bq (hasA f t) j = (bq f.attr j && !(gq f t && decide (j < 2))) := by
 unfold hasA; rw [goneC_eq]
 cases gq f t with
 | false => simp
 | true =>
  rw [cond_true, bq_andNot _ _ _ (by omega), bq3 j hj]
  congr 1
  rcases j with _ | _ | j <;> simp
def pw8 (j : Nat) : Int := (2 : Int) ^ j
theorem and_pw (x : Int) : ∀ j < 8, bOp .and .i64 x (pw8 j) = bif bq x j then pw8 j else 0 := by
 intro j hj
 rcases j with _ | _ | _ | _ | _ | _ | _ | _ | j
 ·exact and1 x
 ·exact and2 x
 ·exact and4 x
 ·exact and8 x
 ·exact and16 x
 ·exact and32 x
 ·exact and64 x
 ·exact and128 x
 ·omega
theorem pw_ne : ∀ j < 8, pw8 j ≠ 0 := by decide
theorem bits8_eq : bits8 = (List.range 8).map pw8 := by decide
theorem clrC_eq (f t : Sty) (j : Nat) (hj : j < 8) : clrC (hasA f t) t (pw8 j) = (bq (hasA f t) j && !bq t.attr j) := by
 unfold clrC; rw [and_pw _ j hj, and_pw _ j hj, nz _ _ (pw_ne j hj), nz _ _ (pw_ne j hj), Bool.not_not]
theorem setC_eq (f t : Sty) (j : Nat) (hj : j < 8) : setC (hasA f t) t (pw8 j) = (bq t.attr j && !bq (hasA f t) j) := by
 unfold setC; rw [and_pw _ j hj, and_pw _ j hj, nz _ _ (pw_ne j hj), nz _ _ (pw_ne j hj), Bool.not_not]
end Go.Proofs.YtinkdfnpmoljfaaGreatDoor

