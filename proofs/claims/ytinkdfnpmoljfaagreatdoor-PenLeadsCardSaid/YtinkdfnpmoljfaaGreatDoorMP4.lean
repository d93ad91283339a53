import Derived.Test.YtinkdfnpmoljfaaGreatDoorMP3
set_option linter.unusedVariables false
set_option linter.unusedSimpArgs false
set_option maxRecDepth 10000
namespace Go.Proofs.YtinkdfnpmoljfaaGreatDoor
open Go Go.Fen
/-! How parameters are printed: the program's way and the reference's. -/
theorem idx1_neg : ∀ (r : List Int) (t : Nat), (∀ n ∈ r, -1 ≤ n ∧ n ≤ 9999) → slices_IndexFunc_int_int_l0 r t = -1
 | [], t, h => rfl
 | n :: r, t, h => by
  have h1 := h n (List.mem_cons_self ..)
  simp only [slices_IndexFunc_int_int_l0]
  rw [show param_Check_1_1 n = false by unfold param_Check_1_1; simp only [Bool.or_eq_false_iff, decide_eq_false_iff_not]; omega, cond_false]
  exact idx1_neg r (t + 1) (fun n hn => h n (List.mem_cons_of_mem _ hn))
theorem pchk1 {r : List Int} (h : rowOk r) : param_Check_1 r = false := by
 obtain ⟨h1, h2, h3, h4⟩ := h
 unfold param_Check_1 slices_ContainsFunc_int_int slices_IndexFunc_int_int
 rw [idx1_neg r 0 h4]
 simp only [Bool.or_eq_false_iff, decide_eq_false_iff_not]; omega
theorem idx2_neg : ∀ (l : List (List Int)) (t : Nat), (∀ r ∈ l, rowOk r) → slices_IndexFunc_api_Param_api_Param_l0 l t = -1
 | [], t, h => rfl
 | r :: l, t, h => by
  simp only [slices_IndexFunc_api_Param_api_Param_l0]
  rw [pchk1 (h r (List.mem_cons_self ..)), cond_false]
  exact idx2_neg l (t + 1) (fun n hn => h n (List.mem_cons_of_mem _ hn))
theorem not_empty {l : List (List Int)} (h : ∀ r ∈ l, rowOk r) : (((decide ((l.length : Int) = 1)) && (decide (((l.getD 0 []).length : Int) = 1))) && (decide (((l.getD 0 []).getD 0 0) = (-1)))) = false := by
 match l, h with
 | [], _ => rfl
 | [r], h =>
  have hr := h r (List.mem_cons_self ..)
  show (((decide (((1 : Nat) : Int) = 1)) && (decide ((r.length : Int) = 1))) && (decide ((r.getD 0 0) = (-1)))) = false
  match r, hr with
  | [], hr => rfl
  | [n], hr =>
   have : n ≠ -1 := fun e => hr.2.2.1 (by rw [e])
   show (((decide (((1 : Nat) : Int) = 1)) && (decide (((1 : Nat) : Int) = 1))) && (decide (n = (-1)))) = false
   simp [this]
  | n :: m :: r, hr =>
   have e : ¬ ((((n :: m :: r).length : Nat) : Int) = 1) := by simp; omega
   rw [decide_eq_false e]; simp
 | r :: q :: l, _ =>
  have e : ¬ ((((r :: q :: l).length : Nat) : Int) = 1) := by simp; omega
  rw [decide_eq_false e]; simp
theorem pcheck {l : List (List Int)} (h16 : l.length ≤ 16) (h : ∀ r ∈ l, rowOk r) : param_Check l = 0 := by
 unfold param_Check param_empty slices_ContainsFunc_api_Param_api_Param slices_IndexFunc_api_Param_api_Param
 rw [not_empty h, idx2_neg l 0 h, decide_eq_false (by omega : ¬ (16 : Int) < (l.length : Int))]
 rfl
/-! the print -/
def psub (n : Int) : List UInt8 := bif (!decide (n = -1)) then Lib.itoa n else []
def pr3 : List UInt8 → List Int → List UInt8
 | _, [] => []
 | ah, n :: r => ah ++ (psub n ++ pr3 [58] r)
def pr2 : List UInt8 → List (List Int) → List UInt8
 | _, [] => []
 | ah, r :: s => pr3 ah r ++ pr2 [59] s
def flatP (es : List (List UInt8 × List UInt8)) : List UInt8 := es.flatMap fun e => e.1 ++ e.2
theorem print_r0 : ∀ (es : List (List UInt8 × List UInt8)) (b : List UInt8), param_Print_r0 es b = (b ++ flatP es, 0)
 | [], b => by simp [param_Print_r0, flatP]
 | e :: es, b => by
  simp only [param_Print_r0, bindV, strings_Builder_WriteStringa]
  rw [print_r0 es]; simp [flatP]
def ahd (t11 t19 : Nat) : List UInt8 := if t19 = 0 then (if t11 = 0 then [] else [59]) else [58]
theorem drop_head {α : Type} {x : α} {s l : List α} {t : Nat} (d : α) (h : x :: s = l.drop t) : t < l.length ∧ l.getD t d = x ∧ s = l.drop (t + 1) := by
 have hlt : t < l.length := by
  by_cases hh : t < l.length
  ·exact hh
  ·rw [List.drop_eq_nil_of_le (by omega)] at h; cases h
 have hd := List.drop_eq_getElem_cons hlt
 rw [hd] at h
 exact ⟨hlt, by rw [gdE hlt]; exact (List.cons.inj h).1.symm, (List.cons.inj h).2⟩
theorem parts3 (c0 : List (List Int)) (t11 : Nat) (ag : Nat → List (List UInt8 × List UInt8)) : ∀ (s : List Int) (t19 : Nat), s = (c0.getD t11 []).drop t19 → flatP (param_parts_1_l3 c0 t11 ag s t19) = pr3 (ahd t11 t19) s ++ flatP (ag (t11 + 1))
 | [], t19, h => by simp [param_parts_1_l3, pr3]
 | n :: s, t19, h => by
  obtain ⟨hlt, hn, hs⟩ := drop_head (0 : Int) h
  have ih := parts3 c0 t11 ag s (t19 + 1) hs
  have e58 : ahd t11 (t19 + 1) = [58] := by unfold ahd; rw [if_neg (by omega)]
  rw [e58] at ih
  have e17 : ∀ ah p, flatP (param_parts_1_j17 t19 ah (param_parts_1_l3 c0 t11 ag s) p) = ah ++ (p ++ (pr3 [58] s ++ flatP (ag (t11 + 1)))) := by
   intro ah p; unfold param_parts_1_j17; rw [show ∀ es, flatP ((ah, p) :: es) = ah ++ p ++ flatP es from fun es => by simp [flatP], ih]; simp
  have e16 : ∀ ah, flatP (param_parts_1_j16 c0 t11 t19 (param_parts_1_l3 c0 t11 ag s) ah) = ah ++ (psub n ++ (pr3 [58] s ++ flatP (ag (t11 + 1)))) := by
   intro ah; unfold param_parts_1_j16 psub; rw [hn]
   cases (!decide (n = -1)) with
   | true => rw [cond_true, cond_true, e17]
   | false => rw [cond_false, cond_false, e17]
  simp only [param_parts_1_l3]
  show flatP (bif (decide ((t19 : Int) = 0) && decide ((t11 : Int) = 0)) then _ else (bif decide ((t19 : Int) = 0) then _ else _)) = _
  unfold pr3 ahd
  by_cases h19 : t19 = 0
  ·rw [decide_eq_true (by omega : (t19 : Int) = 0), if_pos h19]
   by_cases h11 : t11 = 0
   ·rw [decide_eq_true (by omega : (t11 : Int) = 0), if_pos h11]
    rw [Bool.and_true, cond_true, e16]; simp
   ·rw [decide_eq_false (by omega : ¬ (t11 : Int) = 0), if_neg h11]
    rw [Bool.and_false, cond_false, cond_true, e16]; simp
  ·rw [decide_eq_false (by omega : ¬ (t19 : Int) = 0), if_neg h19]
   rw [Bool.false_and, cond_false, cond_false, e16]; simp
theorem parts2 (c0 : List (List Int)) : ∀ (s : List (List Int)) (t11 : Nat), s = c0.drop t11 → flatP (param_parts_1_l2 c0 s t11) = pr2 (if t11 = 0 then [] else [59]) s
 | [], t11, h => by simp [param_parts_1_l2, pr2, flatP]
 | r :: s, t11, h => by
  obtain ⟨hlt, hr, hs⟩ := drop_head ([] : List Int) h
  have ih := parts2 c0 s (t11 + 1) hs
  rw [if_neg (by omega)] at ih
  simp only [param_parts_1_l2, pr2]
  rw [parts3 c0 t11 _ r 0 (by rw [hr]; rfl), ih]
  unfold ahd; rw [if_pos rfl]
theorem print_eq {l : List (List Int)} (h16 : l.length ≤ 16) (h : ∀ r ∈ l, rowOk r) : param_Print l = (pr2 [] l, 0) := by
 unfold param_Print
 rw [pcheck h16 h]
 show param_Print_r0 (param_parts_1 (param_parts l)) [] = _
 rw [print_r0]
 show ([] ++ flatP (param_parts_1_l2 l l 0), (0 : Int)) = _
 rw [parts2 l l 0 rfl, if_pos rfl, List.nil_append]
/-! the reference's -/
end Go.Proofs.YtinkdfnpmoljfaaGreatDoor

