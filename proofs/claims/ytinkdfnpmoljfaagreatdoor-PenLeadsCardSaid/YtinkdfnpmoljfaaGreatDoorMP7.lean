import Derived.Test.YtinkdfnpmoljfaaGreatDoorMP6
import Derived.Test.YtinkdfnpmoljfaaGreatDoorP12
set_option linter.unusedVariables false
set_option linter.unusedSimpArgs false
set_option maxRecDepth 10000
namespace Go.Proofs.YtinkdfnpmoljfaaGreatDoor
open Go Go.Fen
/-! Where pens lead. -/
def sOk (s : Sty) : Prop := (0 ≤ s.attr ∧ s.attr ≤ 255) ∧ (0 ≤ s.under ∧ s.under ≤ 5) ∧ color_Check s.fore = 0 ∧ color_Check s.back = 0 ∧ color_Check s.line = 0
theorem sOk_of {s : Sty} (hs : aR s) (h : style_Check s = 0) : sOk s := by
 obtain ⟨h1, h2, h3, h4, h5⟩ := style_ok h
 exact ⟨attr_ok hs h, ⟨h1, h2⟩, h3, h4, h5⟩
theorem sOk_check {s : Sty} (h : sOk s) : style_Check s = 0 := by
 obtain ⟨⟨a0, a1⟩, ⟨u0, u1⟩, h3, h4, h5⟩ := h
 rw [style_eq s (by omega) (by omega)]
 unfold ref04_Check
 rw [← color_eq, ← color_eq, ← color_eq, h3, h4, h5, decide_eq_false (by omega : ¬ s.attr < 0), decide_eq_false (by omega : ¬ (255 : Int) < s.attr), decide_eq_false (by omega : ¬ s.under < 0), decide_eq_false (by omega : ¬ (5 : Int) < s.under)]
 rfl
def ap (s : Sty) (a : Act) : Sty :=
 (bif (decide (a.n = 0)) then style_pens_2 s a else (bif (decide (a.n = 1)) then style_pens_3 s a else (bif (decide (a.n = 2)) then style_pens_5 s a else (bif (decide (a.n = 3)) then style_pens_7 s a else (bif (decide (a.n = 4)) then style_pens_1_1 s a else (bif (decide (a.n = 5)) then style_pens_1_1a s a else style_pens_1_1b s a))))))
theorem Apply_eq {s : Sty} {a : Act} (hs : style_Check s = 0) (ha : style_CheckPen a = 0) : style_Apply s a = (ap s a, 0) := by
 unfold style_Apply style_Run ap
 rw [hs]
 simp only [bindV, style_Run_l0, decide_true, Bool.not_true, cond_false]
 rw [ha]
 simp only [decide_true, Bool.not_true, cond_false]
 cases decide (a.n = 0) <;> cases decide (a.n = 1) <;> cases decide (a.n = 2) <;> cases decide (a.n = 3) <;> cases decide (a.n = 4) <;> cases decide (a.n = 5) <;> rfl
structure Nice (a : Act) : Prop where
 chk : style_CheckPen a = 0
 ok : ∀ s, sOk s → sOk (ap s a)
theorem behind_l0 : ∀ (l : List Act) (t : Nat) (s : Sty), sOk s → (∀ a ∈ l, Nice a) → law26_behind_l0 l t s = (l.foldl ap s, true) ∧ sOk (l.foldl ap s)
 | [], t, s, hs, h => ⟨rfl, hs⟩
 | a :: l, t, s, hs, h => by
  have ha := h a (List.mem_cons_self ..)
  simp only [law26_behind_l0, bindV]
  rw [Apply_eq (sOk_check hs) ha.chk]
  exact behind_l0 l (t + 1) (ap s a) (ha.ok s hs) (fun a ha => h a (List.mem_cons_of_mem _ ha))
theorem behind_eq (l : List Act) (s : Sty) (hs : sOk s) (h : ∀ a ∈ l, Nice a) : law26_behind s l = (l.foldl ap s, true) := (behind_l0 l 0 s hs h).1
theorem or_in8 : ∀ n < 256, ∀ j < 8, 0 ≤ bOp .or .i64 ((n : Nat) : Int) (pw8 j) ∧ bOp .or .i64 ((n : Nat) : Int) (pw8 j) ≤ 255 := by decide +kernel
theorem an_in8 : ∀ n < 256, ∀ j < 8, 0 ≤ bOp .andNot .i64 ((n : Nat) : Int) (pw8 j) ∧ bOp .andNot .i64 ((n : Nat) : Int) (pw8 j) ≤ 255 := by decide +kernel
theorem an_in3 : ∀ n < 256, 0 ≤ bOp .andNot .i64 ((n : Nat) : Int) 3 ∧ bOp .andNot .i64 ((n : Nat) : Int) 3 ≤ 255 := by decide +kernel
theorem nat_of {x : Int} (h : 0 ≤ x ∧ x ≤ 255) : ∃ n : Nat, x = n ∧ n < 256 := ⟨x.toNat, by omega, by omega⟩
theorem ap_set (s : Sty) (m : Int) : ap s (pA 1 m) = { s with attr := bOp .or .i64 s.attr m } := rfl
theorem ap_clr (s : Sty) (m : Int) : ap s (pA 2 m) = { s with attr := bOp .andNot .i64 s.attr m } := rfl
theorem ap_und (s : Sty) (m : Int) : ap s (pA 3 m) = { s with under := m } := rfl
theorem ap_reset (s : Sty) : ap s (pA 0 0) = Sty.zero := rfl
theorem ap_fore (s : Sty) (c : Col) : ap s (pC 4 c) = { s with fore := c } := rfl
theorem ap_back (s : Sty) (c : Col) : ap s (pC 5 c) = { s with back := c } := rfl
theorem ap_line (s : Sty) (c : Col) : ap s (pC 6 c) = { s with line := c } := rfl
theorem zero_ok : sOk Sty.zero := by unfold sOk; decide +kernel
theorem nice_reset : Nice (pA 0 0) := ⟨told_reset.chk, fun s _ => by rw [ap_reset]; exact zero_ok⟩
theorem nice_both : Nice (pA 2 3) := ⟨told_both.chk, fun s h => by
 rw [ap_clr]; obtain ⟨n, e, hn⟩ := nat_of h.1
 exact ⟨by show 0 ≤ bOp .andNot .i64 s.attr 3 ∧ bOp .andNot .i64 s.attr 3 ≤ 255; rw [e]; exact an_in3 n hn, h.2⟩⟩
theorem nice_clr (j : Nat) (hj : j < 8) (h2 : 2 ≤ j) : Nice (pA 2 (pw8 j)) := ⟨(told_clr j hj h2).chk, fun s h => by
 rw [ap_clr]; obtain ⟨n, e, hn⟩ := nat_of h.1
 exact ⟨by show 0 ≤ bOp .andNot .i64 s.attr (pw8 j) ∧ bOp .andNot .i64 s.attr (pw8 j) ≤ 255; rw [e]; exact an_in8 n hn j hj, h.2⟩⟩
theorem nice_set (j : Nat) (hj : j < 8) : Nice (pA 1 (pw8 j)) := ⟨(told_set j hj).chk, fun s h => by
 rw [ap_set]; obtain ⟨n, e, hn⟩ := nat_of h.1
 exact ⟨by show 0 ≤ bOp .or .i64 s.attr (pw8 j) ∧ bOp .or .i64 s.attr (pw8 j) ≤ 255; rw [e]; exact or_in8 n hn j hj, h.2⟩⟩
theorem nice_und (m : Int) (h0 : 0 ≤ m) (h5 : m ≤ 5) : Nice (pA 3 m) := ⟨(told_under m h0 h5).chk, fun s h => by rw [ap_und]; exact ⟨h.1, ⟨h0, h5⟩, h.2.2⟩⟩
theorem nice_fore (c : Col) (hc : color_Check c = 0) : Nice (pC 4 c) := ⟨(told_pC 4 (by omega) c hc).chk, fun s h => by rw [ap_fore]; exact ⟨h.1, h.2.1, hc, h.2.2.2⟩⟩
theorem nice_back (c : Col) (hc : color_Check c = 0) : Nice (pC 5 c) := ⟨(told_pC 5 (by omega) c hc).chk, fun s h => by rw [ap_back]; exact ⟨h.1, h.2.1, h.2.2.1, hc, h.2.2.2.2⟩⟩
theorem nice_line (c : Col) (hc : color_Check c = 0) : Nice (pC 6 c) := ⟨(told_pC 6 (by omega) c hc).chk, fun s h => by rw [ap_line]; exact ⟨h.1, h.2.1, h.2.2.1, h.2.2.2.1, hc⟩⟩
theorem chg_nice (f t : Sty) (h : style_Check t = 0) : ∀ a ∈ chg f t, Nice a := by
 obtain ⟨u0, u5, hf, hb, hl⟩ := style_ok h
 intro a ha
 unfold chg clrs sets tails at ha
 rw [bits8_eq] at ha
 simp only [List.mem_append, List.mem_flatMap, List.mem_map, List.mem_range] at ha
 rcases ha with h | ⟨b, ⟨j, hj, rfl⟩, h⟩ | ⟨b, ⟨j, hj, rfl⟩, h⟩ | h | h | h | h
 ·rw [oneIf_mem h]; exact nice_both
 ·by_cases h2 : 2 ≤ j
  ·rw [oneIf_mem h]; exact nice_clr j hj h2
  ·rw [clr_low f t j (by omega)] at h; cases h
 ·rw [oneIf_mem h]; exact nice_set j hj
 ·rw [oneIf_mem h]; exact nice_und _ u0 u5
 ·rw [oneIf_mem h]; exact nice_fore _ hf
 ·rw [oneIf_mem h]; exact nice_back _ hb
 ·rw [oneIf_mem h]; exact nice_line _ hl
theorem anw_nice (t : Sty) (h : style_Check t = 0) : ∀ a ∈ anw t, Nice a := by
 intro a ha
 rcases List.mem_cons.1 ha with rfl | ha
 ·exact nice_reset
 ·exact chg_nice _ _ h a ha
/-! the bits behind them -/
theorem bq_pw : ∀ i < 8, ∀ j < 8, bq (pw8 i) j = decide (i = j) := by unfold bq pw8; decide +kernel
def sameR (s s' : Sty) : Prop := s'.under = s.under ∧ s'.fore = s.fore ∧ s'.back = s.back ∧ s'.line = s.line
theorem sameR.trans {a b c : Sty} (h : sameR a b) (h' : sameR b c) : sameR a c := ⟨h'.1.trans h.1, h'.2.1.trans h.2.1, h'.2.2.1.trans h.2.2.1, h'.2.2.2.trans h.2.2.2⟩
theorem fold_one (c : Bool) (a : Act) (s : Sty) : (oneIf c a).foldl ap s = bif c then ap s a else s := by cases c <;> rfl
theorem fold_clr (C : Int → Bool) : ∀ (l : List Nat) (s : Sty), (∀ i ∈ l, i < 8) →
  sameR s (((l.map pw8).flatMap fun b => oneIf (C b) (pA 2 b)).foldl ap s) ∧ ∀ j < 8, bq (((l.map pw8).flatMap fun b => oneIf (C b) (pA 2 b)).foldl ap s).attr j = (bq s.attr j && !(l.any fun i => decide (i = j) && C (pw8 i)))
 | [], s, h => ⟨⟨rfl, rfl, rfl, rfl⟩, fun j hj => by simp⟩
 | i :: l, s, h => by
  have hi := h i (List.mem_cons_self ..)
  rw [List.map_cons, List.flatMap_cons, List.foldl_append, fold_one]
  have ih := fold_clr C l (bif C (pw8 i) then ap s (pA 2 (pw8 i)) else s) (fun i hi => h i (List.mem_cons_of_mem _ hi))
  refine ⟨sameR.trans ?_ ih.1, fun j hj => ?_⟩
  ·cases C (pw8 i) with
   | true => rw [cond_true, ap_clr]; exact ⟨rfl, rfl, rfl, rfl⟩
   | false => exact ⟨rfl, rfl, rfl, rfl⟩
  ·rw [ih.2 j hj, List.any_cons]
   cases C (pw8 i) with
   | true =>
    rw [cond_true, ap_clr]
    show (bq (bOp .andNot .i64 s.attr (pw8 i)) j && _) = _
    rw [bq_andNot _ _ _ (by omega), bq_pw i hi j hj, Bool.and_true, Bool.not_or, Bool.and_assoc]
   | false => rw [cond_false, Bool.and_false, Bool.false_or]
theorem fold_set (C : Int → Bool) : ∀ (l : List Nat) (s : Sty), (∀ i ∈ l, i < 8) →
  sameR s (((l.map pw8).flatMap fun b => oneIf (C b) (pA 1 b)).foldl ap s) ∧ ∀ j < 8, bq (((l.map pw8).flatMap fun b => oneIf (C b) (pA 1 b)).foldl ap s).attr j = (bq s.attr j || (l.any fun i => decide (i = j) && C (pw8 i)))
 | [], s, h => ⟨⟨rfl, rfl, rfl, rfl⟩, fun j hj => by simp⟩
 | i :: l, s, h => by
  have hi := h i (List.mem_cons_self ..)
  rw [List.map_cons, List.flatMap_cons, List.foldl_append, fold_one]
  have ih := fold_set C l (bif C (pw8 i) then ap s (pA 1 (pw8 i)) else s) (fun i hi => h i (List.mem_cons_of_mem _ hi))
  refine ⟨sameR.trans ?_ ih.1, fun j hj => ?_⟩
  ·cases C (pw8 i) with
   | true => rw [cond_true, ap_set]; exact ⟨rfl, rfl, rfl, rfl⟩
   | false => exact ⟨rfl, rfl, rfl, rfl⟩
  ·rw [ih.2 j hj, List.any_cons]
   cases C (pw8 i) with
   | true =>
    rw [cond_true, ap_set]
    show (bq (bOp .or .i64 s.attr (pw8 i)) j || _) = _
    rw [bq_or, bq_pw i hi j hj, Bool.and_true, Bool.or_assoc]
   | false => rw [cond_false, Bool.and_false, Bool.false_or]
theorem any8 (C : Int → Bool) : ∀ j < 8, ((List.range 8).any fun i => decide (i = j) && C (pw8 i)) = C (pw8 j) := by
 intro j hj
 rw [Bool.eq_iff_iff, List.any_eq_true]
 constructor
 ·rintro ⟨i, hi, h⟩
  simp only [Bool.and_eq_true, decide_eq_true_eq] at h
  obtain ⟨rfl, h⟩ := h; exact h
 ·intro h; exact ⟨j, List.mem_range.2 hj, by simp [h]⟩
/-- The changes lead there. -/
theorem chg_fold (f t : Sty) (hf : sOk f) (ht : sOk t) : (chg f t).foldl ap f = t := by
 have hend := (behind_l0 (chg f t) 0 f hf (chg_nice f t (sOk_check ht))).2
 have key : ∀ s1 s2 s3 : Sty, s1 = (oneIf (goneC f t) (pA 2 3)).foldl ap f → s2 = (clrs (hasA f t) t).foldl ap s1 → s3 = (sets (hasA f t) t).foldl ap s2 → (chg f t).foldl ap f = (tails f t).foldl ap s3 := by
  intro s1 s2 s3 h1 h2 h3
  unfold chg; rw [List.foldl_append, List.foldl_append, List.foldl_append, ← h1, ← h2, ← h3]
 have e := key _ _ _ rfl rfl rfl
 generalize h1 : (oneIf (goneC f t) (pA 2 3)).foldl ap f = s1 at e
 generalize h2 : (clrs (hasA f t) t).foldl ap s1 = s2 at e
 generalize h3 : (sets (hasA f t) t).foldl ap s2 = s3 at e
 have r1 : sameR f s1 ∧ ∀ j < 8, bq s1.attr j = bq (hasA f t) j := by
  rw [fold_one, goneC_eq] at h1
  refine ⟨?_, fun j hj => ?_⟩
  ·rw [← h1]; cases gq f t with
   | true => rw [cond_true, ap_clr]; exact ⟨rfl, rfl, rfl, rfl⟩
   | false => exact ⟨rfl, rfl, rfl, rfl⟩
  ·rw [hasA_bq f t j hj, ← h1]
   cases gq f t with
   | true =>
    rw [cond_true, ap_clr]
    show bq (bOp .andNot .i64 f.attr 3) j = _
    rw [bq_andNot _ _ _ (by omega), bq3 j hj]
    congr 1
    rcases j with _ | _ | j <;> simp
   | false => simp
 have r2 : sameR s1 s2 ∧ ∀ j < 8, bq s2.attr j = (bq (hasA f t) j && bq t.attr j) := by
  unfold clrs at h2; rw [bits8_eq] at h2
  have q := fold_clr (clrC (hasA f t) t) (List.range 8) s1 (fun i hi => List.mem_range.1 hi)
  rw [h2] at q
  refine ⟨q.1, fun j hj => ?_⟩
  rw [q.2 j hj, any8 _ j hj, r1.2 j hj, clrC_eq f t j hj]
  cases bq (hasA f t) j <;> cases bq t.attr j <;> rfl
 have r3 : sameR s2 s3 ∧ ∀ j < 8, bq s3.attr j = bq t.attr j := by
  unfold sets at h3; rw [bits8_eq] at h3
  have q := fold_set (setC (hasA f t) t) (List.range 8) s2 (fun i hi => List.mem_range.1 hi)
  rw [h3] at q
  refine ⟨q.1, fun j hj => ?_⟩
  rw [q.2 j hj, any8 _ j hj, r2.2 j hj, setC_eq f t j hj]
  cases bq (hasA f t) j <;> cases bq t.attr j <;> rfl
 have rr := (r1.1.trans r2.1).trans r3.1
 obtain ⟨ru, rf, rb, rl⟩ := rr
 have et : (tails f t).foldl ap s3 = { s3 with under := t.under, fore := t.fore, back := t.back, line := t.line } := by
  unfold tails
  rw [List.foldl_append, List.foldl_append, List.foldl_append, fold_one, fold_one, fold_one, fold_one, ap_und]
  have u1 : (bif !decide (f.under = t.under) then ({ s3 with under := t.under } : Sty) else s3) = { s3 with under := t.under } := by
   by_cases h : f.under = t.under
   ·rw [decide_eq_true h]; show s3 = _; rw [← h, ← ru]
   ·rw [decide_eq_false h]; rfl
  rw [u1, ap_fore]
  have u2 : (bif !decide (f.fore = t.fore) then ({ ({ s3 with under := t.under } : Sty) with fore := t.fore } : Sty) else { s3 with under := t.under }) = { s3 with under := t.under, fore := t.fore } := by
   by_cases h : f.fore = t.fore
   ·rw [decide_eq_true h]; show ({ s3 with under := t.under } : Sty) = _; rw [← h, ← rf]
   ·rw [decide_eq_false h]; rfl
  rw [u2, ap_back]
  have u3 : (bif !decide (f.back = t.back) then ({ ({ s3 with under := t.under, fore := t.fore } : Sty) with back := t.back } : Sty) else { s3 with under := t.under, fore := t.fore }) = { s3 with under := t.under, fore := t.fore, back := t.back } := by
   by_cases h : f.back = t.back
   ·rw [decide_eq_true h]; show ({ s3 with under := t.under, fore := t.fore } : Sty) = _; rw [← h, ← rb]
   ·rw [decide_eq_false h]; rfl
  rw [u3, ap_line]
  by_cases h : f.line = t.line
  ·rw [decide_eq_true h]; show ({ s3 with under := t.under, fore := t.fore, back := t.back } : Sty) = _; rw [← h, ← rl]
  ·rw [decide_eq_false h]; rfl
 rw [e, et] at hend
 rw [e, et]
 have ea : s3.attr = t.attr := bq_ext hend.1.1 hend.1.2 ht.1.1 ht.1.2 r3.2
 rw [ea]
theorem anw_fold (t s : Sty) (ht : sOk t) : (anw t).foldl ap s = t := by
 unfold anw
 rw [List.foldl_cons, ap_reset]
 exact chg_fold Sty.zero t zero_ok ht
theorem penLeads_law (f t d : Sty) (hf : aR f) (ht : aR t) (hd : aR d) : law26_PenLeads f t d = true := by
 unfold law26_PenLeads
 rw [wakes26]
 by_cases h3 : style_Check d = 0
 ·by_cases h : style_Check f = 0 ∧ style_Check t = 0
  ·have of := sOk_of hf h.1; have ot := sOk_of ht h.2; have od := sOk_of hd h3
   have eC1 : pen_Changes f t = (chg f t, 0) := by rw [Changes_eq, if_pos h.1, if_pos h.2]
   have eA : pen_Anew t = (anw t, 0) := by rw [Anew_eq, if_pos h.2]
   have b1 := behind_eq (chg f t) f of (chg_nice f t h.2)
   have b2 := behind_eq (anw t) d od (anw_nice t h.2)
   have b3 : law26_behind f (stp f t) = (t, true) := by
    unfold stp
    split
    ·rename_i e; rw [behind_eq [] f of (fun a ha => by cases ha)]; rw [← e]; rfl
    split
    ·rw [b1, chg_fold f t of ot]
    ·rw [behind_eq (anw t) f of (anw_nice t h.2), anw_fold t f ot]
   rw [Steps_eq f t h.1 h.2, eC1, eA, h3]
   simp only [bindV]
   rw [b1, b2, b3, chg_fold f t of ot, anw_fold t d ot]
   simp
  ·have hb := Steps_bad f t h
   rw [hb.1]
   have h2 := hb.2
   simp only [bindV]
   rw [decide_eq_false h2]
   simp
 ·simp only [bindV]
  rw [decide_eq_false h3]
  simp
end Go.Proofs.YtinkdfnpmoljfaaGreatDoor

