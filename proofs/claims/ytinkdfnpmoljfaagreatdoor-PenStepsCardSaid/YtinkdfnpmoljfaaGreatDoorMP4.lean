import Derived.Test.YtinkdfnpmoljfaaGreatDoorMP3
set_option linter.unusedVariables false
set_option linter.unusedSimpArgs false
set_option maxRecDepth 10000
namespace Go.Proofs.YtinkdfnpmoljfaaGreatDoor
open Go Go.Fen
/-! How parameters are printed: the program's way and the reference's. -/
theorem idx1_neg : ∀ (r : List Int) (t : Nat), (∀ n ∈ r, -1 ≤ n ∧ n ≤ 9999) → slices_IndexFunc_int_int_l0 r t = -1
 | [], t, h => rfl
 | n :: r, t, h => by
  have h1 := h n (List.mem_cons_self ..)
  simp only [slices_IndexFunc_int_int_l0]
  rw [show param_Check_1_1 n = false by unfold param_Check_1_1; simp only [Bool.or_eq_false_iff, decide_eq_false_iff_not]; omega, cond_false]
  exact idx1_neg r (t + 1) (fun n hn => h n (List.mem_cons_of_mem _ hn))
theorem pchk1 {r : List Int} (h : rowOk r) : param_Check_1 r = false := by
 obtain ⟨h1, h2, h3, h4⟩ := h
 unfold param_Check_1 slices_ContainsFunc_int_int slices_IndexFunc_int_int
 rw [idx1_neg r 0 h4]
 simp only [Bool.or_eq_false_iff, decide_eq_false_iff_not]; omega
theorem idx2_neg : ∀ (l : List (List Int)) (t : Nat), (∀ r ∈ l, rowOk r) → slices_IndexFunc_api_Param_api_Param_l0 l t = -1
 | [], t, h => rfl
 | r :: l, t, h => by
  simp only [slices_IndexFunc_api_Param_api_Param_l0]
  rw [pchk1 (h r (List.mem_cons_self ..)), cond_false]
  exact idx2_neg l (t + 1) (fun n hn => h n (List.mem_cons_of_mem _ hn))
theorem not_empty {l : List (List Int)} (h : ∀ r ∈ l, rowOk r) : (((decide ((l.length : Int) = 1)) && (decide (((l.getD 0 []).length : Int) = 1))) && (decide (((l.getD 0 []).getD 0 0) = (-1)))) = false := by
 match l, h with
 | [], _ => rfl
 | [r], h =>
  have hr := h r (List.mem_cons_self ..)
  show (((decide (((1 : Nat) : Int) = 1)) && (decide ((r.length : Int) = 1))) && (decide ((r.getD 0 0) = (-1)))) = false
  match r, hr with
  | [], hr => rfl
  | [n], hr =>
   have : n ≠ -1 := fun e => hr.2.2.1 (by rw [e])
   show (((decide (((1 : Nat) : Int) = 1)) && (decide (((1 : Nat) : Int) = 1))) && (decide (n = (-1)))) = false
   simp [this]
  | n :: m :: r, hr =>
   have e : ¬ ((((n :: m :: r).length : Nat) : Int) = 1) := by simp; omega
   rw [decide_eq_false e]; simp
 | r :: q :: l, _ =>
  have e : ¬ ((((r :: q :: l).length : Nat) : Int) = 1) := by simp; omega
  rw [decide_eq_false e]; simp
theorem pcheck {l : List (List Int)} (h16 : l.length ≤ 16) (h : ∀ r ∈ l, rowOk r) : param_Check l = 0 := by
 unfold param_Check param_empty slices_ContainsFunc_api_Param_api_Param slices_IndexFunc_api_Param_api_Param
 rw [not_empty h, idx2_neg l 0 h, decide_eq_false (by omega : ¬ (16 : Int) < (l.length : Int))]
 rfl
theorem rcheck3 (i : Nat) (ag : Nat → Int) : ∀ (r : List Int) (k : Nat), (∀ n ∈ r, -1 ≤ n ∧ n ≤ 9999) → ref05_Check_l3 i ag r k = ag (i + 1)
 | [], k, h => rfl
 | n :: r, k, h => by
  have h1 := h n (List.mem_cons_self ..)
  simp only [ref05_Check_l3]
  rw [show ((decide (n < (-1))) || (decide ((9999 : Int) < n))) = false by simp only [Bool.or_eq_false_iff, decide_eq_false_iff_not]; omega, cond_false]
  exact rcheck3 i ag r (k + 1) (fun n hn => h n (List.mem_cons_of_mem _ hn))
theorem rcheck2 (l : List (List Int)) (hl : ∀ r ∈ l, rowOk r) : ∀ (s : List (List Int)) (i : Nat), (∀ r ∈ s, rowOk r) → ref05_Check_l2 l s i = 0
 | [], i, h => by simp only [ref05_Check_l2]; rw [not_empty hl]; rfl
 | r :: s, i, h => by
  have hr := h r (List.mem_cons_self ..)
  have h1 := hr.1; have h2 := hr.2.1
  simp only [ref05_Check_l2]
  rw [show ((decide ((r.length : Int) < 1)) || (decide ((6 : Int) < (r.length : Int)))) = false by simp only [Bool.or_eq_false_iff, decide_eq_false_iff_not]; omega, cond_false, rcheck3 i _ r 0 hr.2.2.2]
  exact rcheck2 l hl s (i + 1) (fun n hn => h n (List.mem_cons_of_mem _ hn))
theorem rcheck {l : List (List Int)} (h16 : l.length ≤ 16) (h : ∀ r ∈ l, rowOk r) : ref05_Check l = 0 := by
 unfold ref05_Check
 rw [decide_eq_false (by omega : ¬ (16 : Int) < (l.length : Int)), cond_false]
 exact rcheck2 l h l 0 h
/-! the print -/
def psub (n : Int) : List UInt8 := bif (!decide (n = -1)) then Lib.itoa n else []
def pr3 : List UInt8 → List Int → List UInt8
 | _, [] => []
 | ah, n :: r => ah ++ (psub n ++ pr3 [58] r)
def pr2 : List UInt8 → List (List Int) → List UInt8
 | _, [] => []
 | ah, r :: s => pr3 ah r ++ pr2 [59] s
def flatP (es : List (List UInt8 × List UInt8)) : List UInt8 := es.flatMap fun e => e.1 ++ e.2
theorem print_r0 : ∀ (es : List (List UInt8 × List UInt8)) (b : List UInt8), param_Print_r0 es b = (b ++ flatP es, 0)
 | [], b => by simp [param_Print_r0, flatP]
 | e :: es, b => by
  simp only [param_Print_r0, bindV, strings_Builder_WriteStringa]
  rw [print_r0 es]; simp [flatP]
def ahd (t11 t19 : Nat) : List UInt8 := if t19 = 0 then (if t11 = 0 then [] else [59]) else [58]
theorem drop_head {α : Type} {x : α} {s l : List α} {t : Nat} (d : α) (h : x :: s = l.drop t) : t < l.length ∧ l.getD t d = x ∧ s = l.drop (t + 1) := by
 have hlt : t < l.length := by
  by_cases hh : t < l.length
  ·exact hh
  ·rw [List.drop_eq_nil_of_le (by omega)] at h; cases h
 have hd := List.drop_eq_getElem_cons hlt
 rw [hd] at h
 exact ⟨hlt, by rw [gdE hlt]; exact (List.cons.inj h).1.symm, (List.cons.inj h).2⟩
theorem parts3 (c0 : List (List Int)) (t11 : Nat) (ag : Nat → List (List UInt8 × List UInt8)) : ∀ (s : List Int) (t19 : Nat), s = (c0.getD t11 []).drop t19 → flatP (param_parts_1_l3 c0 t11 ag s t19) = pr3 (ahd t11 t19) s ++ flatP (ag (t11 + 1))
 | [], t19, h => by simp [param_parts_1_l3, pr3]
 | n :: s, t19, h => by
  obtain ⟨hlt, hn, hs⟩ := drop_head (0 : Int) h
  have ih := parts3 c0 t11 ag s (t19 + 1) hs
  have e58 : ahd t11 (t19 + 1) = [58] := by unfold ahd; rw [if_neg (by omega)]
  rw [e58] at ih
  have e17 : ∀ ah p, flatP (param_parts_1_j17 t19 ah (param_parts_1_l3 c0 t11 ag s) p) = ah ++ (p ++ (pr3 [58] s ++ flatP (ag (t11 + 1)))) := by
   intro ah p; unfold param_parts_1_j17; rw [show ∀ es, flatP ((ah, p) :: es) = ah ++ p ++ flatP es from fun es => by simp [flatP], ih]; simp
  have e16 : ∀ ah, flatP (param_parts_1_j16 c0 t11 t19 (param_parts_1_l3 c0 t11 ag s) ah) = ah ++ (psub n ++ (pr3 [58] s ++ flatP (ag (t11 + 1)))) := by
   intro ah; unfold param_parts_1_j16 psub; rw [hn]
   cases (!decide (n = -1)) with
   | true => rw [cond_true, cond_true, e17]
   | false => rw [cond_false, cond_false, e17]
  simp only [param_parts_1_l3]
  show flatP (bif (decide ((t19 : Int) = 0) && decide ((t11 : Int) = 0)) then _ else (bif decide ((t19 : Int) = 0) then _ else _)) = _
  unfold pr3 ahd
  by_cases h19 : t19 = 0
  ·rw [decide_eq_true (by omega : (t19 : Int) = 0), if_pos h19]
   by_cases h11 : t11 = 0
   ·rw [decide_eq_true (by omega : (t11 : Int) = 0), if_pos h11]
    rw [Bool.and_true, cond_true, e16]; simp
   ·rw [decide_eq_false (by omega : ¬ (t11 : Int) = 0), if_neg h11]
    rw [Bool.and_false, cond_false, cond_true, e16]; simp
  ·rw [decide_eq_false (by omega : ¬ (t19 : Int) = 0), if_neg h19]
   rw [Bool.false_and, cond_false, cond_false, e16]; simp
theorem parts2 (c0 : List (List Int)) : ∀ (s : List (List Int)) (t11 : Nat), s = c0.drop t11 → flatP (param_parts_1_l2 c0 s t11) = pr2 (if t11 = 0 then [] else [59]) s
 | [], t11, h => by simp [param_parts_1_l2, pr2, flatP]
 | r :: s, t11, h => by
  obtain ⟨hlt, hr, hs⟩ := drop_head ([] : List Int) h
  have ih := parts2 c0 s (t11 + 1) hs
  rw [if_neg (by omega)] at ih
  simp only [param_parts_1_l2, pr2]
  rw [parts3 c0 t11 _ r 0 (by rw [hr]; rfl), ih]
  unfold ahd; rw [if_pos rfl]
theorem print_eq {l : List (List Int)} (h16 : l.length ≤ 16) (h : ∀ r ∈ l, rowOk r) : param_Print l = (pr2 [] l, 0) := by
 unfold param_Print
 rw [pcheck h16 h]
 show param_Print_r0 (param_parts_1 (param_parts l)) [] = _
 rw [print_r0]
 show ([] ++ flatP (param_parts_1_l2 l l 0), (0 : Int)) = _
 rw [parts2 l l 0 rfl, if_pos rfl, List.nil_append]
/-! the reference's -/
theorem dig1 : ∀ n < 10, by8 (IntKind.u8.wrap (IntKind.i64.wrap ((48 : Int) + (n : Nat)))) = UInt8.ofNat (48 + n) := by decide +kernel
theorem digits_eq : ∀ (fu n : Nat), n < fu → ref05_Digits fu (n : Int) = Lib.decDigits n
 | 0, n, h => by omega
 | fu + 1, n, h => by
  simp only [ref05_Digits]
  rw [Lib.decDigits]
  by_cases hn : n < 10
  ·rw [decide_eq_true (by omega : (n : Int) < 10), cond_true, dif_pos hn, dig1 n hn]
  ·rw [decide_eq_false (by omega : ¬ (n : Int) < 10), cond_false, dif_neg hn]
   have e1 : (n : Int) / 10 = ((n / 10 : Nat) : Int) := by omega
   have e2 : (n : Int) % 10 = ((n % 10 : Nat) : Int) := by omega
   rw [e1, e2, digits_eq fu (n / 10) (by omega), digits_eq fu (n % 10) (by omega), Lib.decDigits_one (by omega : n % 10 < 10)]
theorem psub_eq {n : Int} (h : -1 ≤ n) (s : List UInt8) : (bif decide ((0 : Int) ≤ n) then s ++ ref05_Digits (n.toNat + 1) n else s) = s ++ psub n := by
 unfold psub
 by_cases h0 : 0 ≤ n
 ·rw [decide_eq_true h0, cond_true, decide_eq_false (by omega : ¬ n = -1)]
  show s ++ _ = s ++ Lib.itoa n
  obtain ⟨m, rfl⟩ : ∃ m : Nat, n = m := ⟨n.toNat, by omega⟩
  rw [Lib.itoa_nonneg, show ((m : Int).toNat + 1) = m + 1 by omega, digits_eq (m + 1) m (by omega)]
 ·rw [decide_eq_false h0, cond_false, decide_eq_true (by omega : n = -1)]
  show s = s ++ []
  simp
theorem rprint3 (l : List (List Int)) (i : Nat) (ag : List UInt8 → Nat → List UInt8 × Int) : ∀ (r : List Int) (fu k : Nat) (s : List UInt8), r = (l.getD i []).drop k → r.length < fu → (∀ n ∈ r, -1 ≤ n ∧ n ≤ 9999) → ref05_Print_l3 l i ag fu s k = ag (s ++ pr3 (if k = 0 then [] else [58]) r) (i + 1)
 | r, 0, k, s, h, hf, hr => by omega
 | [], fu + 1, k, s, h, hf, hr => by
  have : ¬ k < (l.getD i []).length := by
   intro hlt
   have := congrArg List.length h
   rw [List.length_drop, List.length_nil] at this; omega
  rw [ref05_Print_l3, decide_eq_false (by omega : ¬ (k : Int) < ((l.getD i []).length : Int)), cond_false]
  simp [pr3]
 | n :: r, fu + 1, k, s, h, hf, hr => by
  obtain ⟨hlt, hn, hs⟩ := drop_head (0 : Int) h
  have h1 := hr n (List.mem_cons_self ..)
  have ih := fun s' => rprint3 l i ag r fu (k + 1) s' hs (by simp only [List.length_cons] at hf; omega) (fun n hn => hr n (List.mem_cons_of_mem _ hn))
  have ej : ∀ s3, ref05_Print_j11 l i k (ref05_Print_l3 l i ag fu) s3 = ag (s3 ++ (psub n ++ pr3 [58] r)) (i + 1) := by
   intro s3
   unfold ref05_Print_j11; rw [hn]
   have hp := psub_eq h1.1 s3
   cases hb : decide ((0 : Int) ≤ n) with
   | true => rw [hb, cond_true] at hp; rw [cond_true, hp, ih, if_neg (by omega)]; simp
   | false => rw [hb, cond_false] at hp; rw [cond_false, ih, if_neg (by omega)]; rw [← List.append_assoc, ← hp]
  rw [ref05_Print_l3, decide_eq_true (by omega : (k : Int) < ((l.getD i []).length : Int)), cond_true]
  by_cases hk : k = 0
  ·rw [decide_eq_false (by omega : ¬ (0 : Int) < (k : Int)), cond_false, ej, if_pos hk]; simp [pr3]
  ·rw [decide_eq_true (by omega : (0 : Int) < (k : Int)), cond_true, ej, if_neg hk]; simp [pr3]
theorem pr3_59 {r : List Int} (h : 1 ≤ r.length) : pr3 [59] r = [59] ++ pr3 [] r := by
 cases r with
 | nil => simp at h
 | cons n r => simp [pr3]
theorem rprint2 (l : List (List Int)) : ∀ (x : List (List Int)) (s : List UInt8) (i : Nat), x = l.drop i → (∀ r ∈ x, rowOk r) → ref05_Print_l2 l x s i = (s ++ pr2 (if i = 0 then [] else [59]) x, 0)
 | [], s, i, h, hr => by simp [ref05_Print_l2, pr2]
 | r :: x, s, i, h, hr => by
  obtain ⟨hlt, hn, hs⟩ := drop_head ([] : List Int) h
  have h1 := hr r (List.mem_cons_self ..)
  have ih := fun s' => rprint2 l x s' (i + 1) hs (fun r h => hr r (List.mem_cons_of_mem _ h))
  have ej : ∀ s1, ref05_Print_j8 l i (ref05_Print_l2 l x) s1 = (s1 ++ (pr3 [] r ++ pr2 [59] x), 0) := by
   intro s1
   unfold ref05_Print_j8
   rw [rprint3 l i _ r _ 0 s1 (by rw [hn]; rfl) (by rw [hn]; omega) h1.2.2.2, if_pos rfl, ih, if_neg (by omega)]; simp
  rw [ref05_Print_l2]
  by_cases hi : i = 0
  ·rw [decide_eq_false (by omega : ¬ (0 : Int) < (i : Int)), cond_false, ej, if_pos hi]; simp [pr2]
  ·rw [decide_eq_true (by omega : (0 : Int) < (i : Int)), cond_true, ej, if_neg hi]; simp [pr2, pr3_59 h1.1]
theorem rprint_eq {l : List (List Int)} (h16 : l.length ≤ 16) (h : ∀ r ∈ l, rowOk r) : ref05_Print l = (pr2 [] l, 0) := by
 unfold ref05_Print
 rw [rcheck h16 h]
 show ref05_Print_l2 l l [] 0 = _
 rw [rprint2 l l [] 0 rfl h, if_pos rfl, List.nil_append]
end Go.Proofs.YtinkdfnpmoljfaaGreatDoor

