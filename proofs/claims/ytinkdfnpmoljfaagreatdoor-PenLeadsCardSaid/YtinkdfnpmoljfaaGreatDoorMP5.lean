import Derived.Test.YtinkdfnpmoljfaaGreatDoorMP4
import Derived.Test.YtinkdfnpmoljfaaGreatDoorP11
set_option linter.unusedVariables false
set_option linter.unusedSimpArgs false
set_option maxRecDepth 10000
namespace Go.Proofs.YtinkdfnpmoljfaaGreatDoor
open Go Go.Fen
/-! What pens cost. -/
def outP (l : List Act) : List UInt8 := ([27, 91] ++ pr2 [] (l.map sgr_told)) ++ [109]
def outB (l : List Act) : List UInt8 := match l with | [] => [] | a :: l => outP (a :: l)
theorem params_l1 : ∀ (l : List Act) (out : List (List Int)) (t : Nat), sgr_Params_l1 l out t = (out ++ l.map sgr_told, 0)
 | [], out, t => by simp [sgr_Params_l1]
 | a :: l, out, t => by simp only [sgr_Params_l1, bindV]; rw [params_l1 l]; simp
theorem params_l0 (L : List Act) (h16 : L.length ≤ 16) : ∀ (l : List Act) (t : Nat), (∀ a ∈ l, Told a) → sgr_Params_l0 L l t = (L.map sgr_told, 0)
 | [], t, h => by
  simp only [sgr_Params_l0]
  rw [decide_eq_false (by omega : ¬ (16 : Int) < (L.length : Int)), cond_false, params_l1, List.nil_append]
 | a :: l, t, h => by
  simp only [sgr_Params_l0]
  rw [(h a (List.mem_cons_self ..)).chk]
  exact params_l0 L h16 l (t + 1) (fun a ha => h a (List.mem_cons_of_mem _ ha))
theorem rows_ok {l : List Act} (h : ∀ a ∈ l, Told a) : ∀ r ∈ l.map sgr_told, rowOk r := by
 intro r hr
 obtain ⟨a, ha, rfl⟩ := List.mem_map.1 hr
 exact (h a ha).row
theorem pens_eq {l : List Act} (h16 : l.length ≤ 16) (h : ∀ a ∈ l, Told a) : emit_pens l = outP l := by
 unfold emit_pens sgr_Params
 rw [params_l0 l h16 l 0 h]
 show ([27, 91] ++ (param_Print (l.map sgr_told)).1) ++ [109] = _
 rw [print_eq (by rw [List.length_map]; exact h16) (rows_ok h)]; rfl
/-! emit.Bytes at a row of at most sixteen pens -/
theorem acheck {a : Act} (hp : penA a) (h : Told a) : action_Check a.n a.m a.color ([] : List UInt8) = 0 := by
 unfold action_Check
 rw [← penA_eq hp, h.chk]; rfl
theorem bytes_l0 (L : List Act) : ∀ (l : List Act) (t : Nat), (∀ a ∈ l, penA a) → (∀ a ∈ l, Told a) → emit_Bytes_l0 L l t = emit_Bytes_l4 L (((L.length : Int) - 0).toNat + 1) ([] : List UInt8) 0
 | [], t, _, _ => rfl
 | a :: l, t, hp, h => by
  simp only [emit_Bytes_l0]
  rw [acheck (hp a (List.mem_cons_self ..)) (h a (List.mem_cons_self ..))]
  exact bytes_l0 L l (t + 1) (fun a ha => hp a (List.mem_cons_of_mem _ ha)) (fun a ha => h a (List.mem_cons_of_mem _ ha))
theorem bytes_l5 (L : List Act) (h16 : L.length ≤ 16) (ag : List UInt8 → Int → List UInt8 × Int) (b : List UInt8) : ∀ (fu : Nat) (n : Int), 0 ≤ n → n ≤ (L.length : Int) → ((L.length : Int) - n).toNat < fu → emit_Bytes_l5 L ag fu b 0 n = ag (b ++ emit_pens L) (((L.length : Int) - 1) + 1)
 | 0, n, h0, h1, h => by omega
 | fu + 1, n, h0, h1, h => by
  rw [emit_Bytes_l5]
  by_cases hn : n < (L.length : Int)
  ·rw [decide_eq_true hn, decide_eq_true (by omega : n < (0 : Int) + 16)]
   show emit_Bytes_l5 L ag fu b 0 (n + 1) = _
   exact bytes_l5 L h16 ag b fu (n + 1) (by omega) (by omega) (by omega)
  ·have e : n = (L.length : Int) := by omega
   subst e
   rw [decide_eq_false hn, Bool.false_and, Bool.false_and, cond_false]
   have e2 : (L.drop ((0 : Int)).toNat).take ((((L.length : Int)).toNat) - ((0 : Int)).toNat) = L := by
    show (L.drop 0).take (L.length - 0) = L
    simp
   rw [e2]; rfl
theorem bytes_eq {l : List Act} (h16 : l.length ≤ 16) (hp : ∀ a ∈ l, penA a) (h : ∀ a ∈ l, Told a) : emit_Bytes l = (outB l, 0) := by
 unfold emit_Bytes
 rw [decide_eq_false (by omega : ¬ (131072 : Int) < (l.length : Int)), cond_false, bytes_l0 l l 0 hp h]
 obtain ⟨F, hF⟩ : ∃ F, ((l.length : Int) - 0).toNat = F := ⟨_, rfl⟩
 rw [hF, emit_Bytes_l4]
 cases l with
 | nil => rfl
 | cons a r =>
  rw [decide_eq_true (by simp <;> omega : (0 : Int) < (((a :: r).length : Nat) : Int)), cond_true, bytes_l5 (a :: r) h16 _ [] _ 0 (by omega) (by omega) (by omega), pens_eq h16 h]
  have hF1 : F = r.length + 1 := by rw [← hF]; simp <;> omega
  subst hF1
  rw [emit_Bytes_l4, decide_eq_false (by omega), cond_false]
  rfl
theorem cost_eq {l : List Act} (h16 : l.length ≤ 16) (hp : ∀ a ∈ l, penA a) (h : ∀ a ∈ l, Told a) : pen_Cost l = (((outB l).length : Int), 0) := by
 unfold pen_Cost; rw [bytes_eq h16 hp h]; rfl
/-! the changes of valid styles -/
theorem style_ok {s : Sty} (h : style_Check s = 0) : 0 ≤ s.under ∧ s.under ≤ 5 ∧ color_Check s.fore = 0 ∧ color_Check s.back = 0 ∧ color_Check s.line = 0 := by
 unfold style_Check at h
 generalize hc : (((!decide ((bOp .andNot .i64 s.attr 255) = 0)) || (decide (s.under < 0))) || (decide ((5 : Int) < s.under))) = c at h
 cases c with
 | true => rw [cond_true] at h; omega
 | false =>
  simp only [Bool.or_eq_false_iff, decide_eq_false_iff_not] at hc
  rw [cond_false] at h
  by_cases h1 : color_Check s.fore = 0
  ·rw [decide_eq_true h1] at h
   by_cases h2 : color_Check s.back = 0
   ·rw [decide_eq_true h2] at h
    by_cases h3 : color_Check s.line = 0
    ·exact ⟨by omega, by omega, h1, h2, h3⟩
    ·rw [decide_eq_false h3] at h; exact absurd h h3
   ·rw [decide_eq_false h2] at h; exact absurd h h2
  ·rw [decide_eq_false h1] at h; exact absurd h h1
theorem chg_told (f t : Sty) (h : style_Check t = 0) : ∀ a ∈ chg f t, Told a := by
 obtain ⟨u0, u5, hf, hb, hl⟩ := style_ok h
 intro a ha
 unfold chg clrs sets tails at ha
 rw [bits8_eq] at ha
 simp only [List.mem_append, List.mem_flatMap, List.mem_map, List.mem_range] at ha
 rcases ha with h | ⟨b, ⟨j, hj, rfl⟩, h⟩ | ⟨b, ⟨j, hj, rfl⟩, h⟩ | h | h | h | h
 ·rw [oneIf_mem h]; exact told_both
 ·by_cases h2 : 2 ≤ j
  ·rw [oneIf_mem h]; exact told_clr j hj h2
  ·rw [clr_low f t j (by omega)] at h; cases h
 ·rw [oneIf_mem h]; exact told_set j hj
 ·rw [oneIf_mem h]; exact told_under _ u0 u5
 ·rw [oneIf_mem h]; exact told_pC 4 (by omega) _ hf
 ·rw [oneIf_mem h]; exact told_pC 5 (by omega) _ hb
 ·rw [oneIf_mem h]; exact told_pC 6 (by omega) _ hl
def anw (t : Sty) : List Act := pA 0 0 :: chg Sty.zero t
theorem anw_told (t : Sty) (h : style_Check t = 0) : ∀ a ∈ anw t, Told a := by
 intro a ha
 rcases List.mem_cons.1 ha with rfl | ha
 ·exact told_reset
 ·exact chg_told _ _ h a ha
theorem anw_pen (t : Sty) : ∀ a ∈ anw t, penA a := by
 intro a ha
 rcases List.mem_cons.1 ha with rfl | ha
 ·exact ⟨rfl, rfl⟩
 ·exact chg_pen _ _ a ha
theorem anw_len (t : Sty) : (anw t).length ≤ 14 := by have := chg_len16 Sty.zero t; unfold anw; simp only [List.length_cons]; omega
/-! the steps -/
def stp (f t : Sty) : List Act := if f = t then [] else if (outB (chg f t)).length ≤ (outB (anw t)).length then chg f t else anw t
theorem Changes_eq (f t : Sty) : pen_Changes f t = (if style_Check f = 0 then (if style_Check t = 0 then (chg f t, 0) else ([], style_Check t)) else ([], style_Check f)) := by
 unfold pen_Changes
 by_cases h : style_Check f = 0
 ·rw [decide_eq_true h, if_pos h]
  by_cases h2 : style_Check t = 0
  ·rw [decide_eq_true h2, if_pos h2, pen_changes_eq]; rfl
  ·rw [decide_eq_false h2, if_neg h2]; rfl
 ·rw [decide_eq_false h, if_neg h]; rfl
theorem Anew_eq (t : Sty) : pen_Anew t = (if style_Check t = 0 then (anw t, 0) else ([], style_Check t)) := by
 unfold pen_Anew
 by_cases h2 : style_Check t = 0
 ·rw [decide_eq_true h2, if_pos h2, pen_anew_eq]; rfl
 ·rw [decide_eq_false h2, if_neg h2]; rfl
theorem Steps_eq (f t : Sty) (hf : style_Check f = 0) (ht : style_Check t = 0) : pen_Steps f t = (stp f t, 0) := by
 unfold pen_Steps
 rw [Changes_eq, if_pos hf, if_pos ht, pen_anew_eq]
 have h16 := chg_len16 f t
 have c1 := cost_eq (l := chg f t) (by omega) (chg_pen f t) (chg_told f t ht)
 have a16 := anw_len t
 have c2 := cost_eq (l := anw t) (by omega) (anw_pen t) (anw_told t ht)
 show (bif (!decide ((0 : Int) = 0) || decide (f = t)) then (([] : List Act), (0 : Int)) else (bindV (anw t) fun r => bindV (pen_Cost (chg f t)) fun c => bindV (pen_Cost r) fun d => (bif (((!decide (c.2 = 0)) || (!decide (d.2 = 0))) || (decide (c.1 ≤ d.1))) then (chg f t, 0) else (r, 0)))) = _
 simp only [bindV]
 rw [c1, c2]
 unfold stp
 by_cases e : f = t
 ·rw [if_pos e, decide_eq_true e]; rfl
 ·rw [if_neg e, decide_eq_false e]
  show (bif ((false || false) || decide ((((outB (chg f t)).length : Nat) : Int) ≤ (((outB (anw t)).length : Nat) : Int))) then (chg f t, (0 : Int)) else (anw t, 0)) = _
  by_cases hc : (outB (chg f t)).length ≤ (outB (anw t)).length
  ·rw [if_pos hc, decide_eq_true (by omega)]; rfl
  ·rw [if_neg hc, decide_eq_false (by omega)]; rfl
theorem Steps_bad (f t : Sty) (h : ¬ (style_Check f = 0 ∧ style_Check t = 0)) : pen_Steps f t = ([], (pen_Changes f t).2) ∧ (pen_Changes f t).2 ≠ 0 := by
 have hc : (pen_Changes f t).2 ≠ 0 := by
  rw [Changes_eq]
  by_cases hf : style_Check f = 0
  ·rw [if_pos hf]
   by_cases ht : style_Check t = 0
   ·exact absurd ⟨hf, ht⟩ h
   ·rw [if_neg ht]; exact ht
  ·rw [if_neg hf]; exact hf
 refine ⟨?_, hc⟩
 unfold pen_Steps bindV
 dsimp only
 rw [decide_eq_false hc]; rfl
/-! a longer row is longer -/
theorem pr3_len (ah : List UInt8) (r : List Int) (h : 1 ≤ r.length) : (pr3 ah r).length = ah.length + (pr3 [] r).length := by
 cases r with
 | nil => simp at h
 | cons n r => simp [pr3]
theorem outB_anw (t : Sty) (h : style_Check t = 0) : (outB (chg Sty.zero t)).length ≤ (outB (anw t)).length := by
 have e : outB (anw t) = outP (pA 0 0 :: chg Sty.zero t) := rfl
 rw [e]
 cases hc : chg Sty.zero t with
 | nil => simp [outB]
 | cons a r =>
  have ha := (chg_told Sty.zero t h a (by rw [hc]; exact List.mem_cons_self ..)).row.1
  unfold outB outP
  simp only [List.map_cons, pr2, List.length_append]
  rw [pr3_len [59] _ ha]; omega
theorem stp_zero (t : Sty) (h : style_Check t = 0) : stp Sty.zero t = if Sty.zero = t then [] else chg Sty.zero t := by
 unfold stp
 by_cases e : Sty.zero = t
 ·rw [if_pos e, if_pos e]
 ·rw [if_neg e, if_neg e, if_pos (outB_anw t h)]
end Go.Proofs.YtinkdfnpmoljfaaGreatDoor

