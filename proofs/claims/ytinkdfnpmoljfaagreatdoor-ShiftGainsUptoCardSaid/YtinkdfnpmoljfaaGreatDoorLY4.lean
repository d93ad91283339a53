import Derived.Test.YtinkdfnpmoljfaaGreatDoorLY3
import Derived.Test.YtinkdfnpmoljfaaGreatDoorMS
set_option linter.unusedVariables false
set_option linter.unusedSimpArgs false
set_option linter.unnecessarySimpa false
set_option maxRecDepth 10000
namespace Go.Proofs.YtinkdfnpmoljfaaGreatDoor
open Go Go.Fen
/-! titles -/
def tOk (x : Int) : Bool := decide (32 ≤ x) && (decide (x < 127) || decide (159 < x))
theorem title_l0 : ∀ (l : List Int) (t : Nat), (osc_title_l0 l t).isSome = l.all tOk
 | [], t => rfl
 | x :: l, t => by
  simp only [osc_title_l0, List.all_cons]
  cases h : tOk x with
  | true => rw [show ((decide ((32 : Int) ≤ x)) && ((decide (x < 127)) || (decide ((159 : Int) < x)))) = true from h]; simpa [osc_must] using title_l0 l (t + 1)
  | false => rw [show ((decide ((32 : Int) ≤ x)) && ((decide (x < 127)) || (decide ((159 : Int) < x)))) = false from h]; simp [osc_must]
theorem rtitle_l0 (s : List UInt8) (l : List Int) : ∀ (fu i : Nat), l.length - i < fu → i ≤ l.length → ref08_Title_l0 s fu l i = ((l.drop i).all tOk && decide (ref01_Text l = s))
 | 0, i, h, _ => by omega
 | fu + 1, i, h, hi => by
  simp only [ref08_Title_l0, bindV]
  by_cases c : (i : Int) < (l.length : Int)
  ·rw [decide_eq_true c, cond_true, rtitle_l0 s l fu (i + 1) (by omega) (by omega)]
   have hlt : i < l.length := by omega
   rw [List.drop_eq_getElem_cons hlt, List.all_cons, getD_eq hlt]
   generalize l[i] = x
   by_cases d : tOk x = true
   ·rw [d, Bool.true_and]
    unfold tOk at d; simp only [Bool.and_eq_true, Bool.or_eq_true, decide_eq_true_eq] at d
    rw [show ((decide (x < 32)) || ((decide ((127 : Int) ≤ x)) && (decide (x ≤ 159)))) = false by simp only [Bool.or_eq_false_iff, Bool.and_eq_false_iff, decide_eq_false_iff_not]; omega]; rfl
   ·have d' : tOk x = false := by simpa using d
    rw [d', Bool.false_and, Bool.false_and]
    unfold tOk at d; simp only [Bool.and_eq_true, Bool.or_eq_true, decide_eq_true_eq] at d
    rw [show ((decide (x < 32)) || ((decide ((127 : Int) ≤ x)) && (decide (x ≤ 159)))) = true by simp only [Bool.or_eq_true, Bool.and_eq_true, decide_eq_true_eq]; omega]; rfl
  ·rw [decide_eq_false c, cond_false, List.drop_eq_nil_of_le (by omega)]; rfl
theorem title_some (t : List UInt8) : (osc_title t).isSome = ref08_Title t := by
 unfold osc_title ref08_Title
 simp only [bindV, codes_eq, text_eq]
 by_cases h : (510 : Int) < (t.length : Int)
 ·rw [decide_eq_true h, cond_true, decide_eq_false (show ¬ (t.length : Int) ≤ 510 by omega), Bool.false_and]; rfl
 ·rw [decide_eq_false h, cond_false, decide_eq_true (show (t.length : Int) ≤ 510 by omega), Bool.true_and, rtitle_l0 t _ _ 0 (by omega) (Nat.zero_le _), List.drop_zero]
  cases decide (ref01_Text (ref01_Codes t) = t) with
  | false => rw [Bool.and_false]; rfl
  | true =>
   rw [Bool.and_true]
   show (osc_title_l0 _ 0).isSome = _
   exact title_l0 _ 0
theorem must_true : osc_must true = some () := rfl
theorem check_title (t : List UInt8) : action_Check 0 0 Col.zero t = 0 ↔ ref08_Title t = true := by
 rw [← title_some]
 have e : osc_Print_1 0 0 Col.zero t = (osc_title t).map fun _ => [50, 59] ++ t := by
  unfold osc_Print_1 osc_prints_1 osc_plain
  rw [show decide ((⟨44, 0, 0, Col.zero, t⟩ : Act) = { Act.zero with kind := (⟨44, 0, 0, Col.zero, t⟩ : Act).kind, text := (⟨44, 0, 0, Col.zero, t⟩ : Act).text }) = true from decide_eq_true rfl]
  rw [must_true]
  cases osc_title t <;> rfl
 unfold action_Check osc_Print
 simp only [bindV, e]
 cases osc_title t <;> simp [doneV]
theorem right_title (t : List UInt8) : ref10_Right 0 0 Col.zero t = ref08_Title t := by
 unfold ref10_Right ref08_Print
 simp only [bindV]
 rw [show decide ((⟨44, 0, 0, Col.zero, t⟩ : Act) = { Act.zero with kind := 44, text := t }) = true from decide_eq_true rfl, Bool.true_and]
 cases ref08_Title t <;> rfl
/-! widths -/
def inS (cp : Int) (s : Spn) : Bool := decide (s.lo ≤ cp) && decide (cp ≤ s.hi)
def inA (cp : Int) (s : Ar2) : Bool := decide (s.a ≤ cp) && decide (cp ≤ s.b)
theorem in_any (cp : Int) : ∀ (l : List Spn) (t : Nat), width_in_l0 cp l t = l.any (inS cp)
 | [], t => rfl
 | s :: l, t => by
  simp only [width_in_l0, List.any_cons, in_any cp l]
  rw [show ((decide (s.lo ≤ cp)) && (decide (cp ≤ s.hi))) = inS cp s from rfl]
  cases inS cp s <;> rfl
theorem rin_any (cp : Int) : ∀ (l : List Ar2) (t : Nat), ref02_in_l0 cp l t = l.any (inA cp)
 | [], t => rfl
 | s :: l, t => by
  simp only [ref02_in_l0, List.any_cons, rin_any cp l]
  rw [show ((decide (s.a ≤ cp)) && (decide (cp ≤ s.b))) = inA cp s from rfl]
  cases inA cp s <;> rfl
theorem in0 (cp : Int) : width_in cp tab0 = ref02_in ref02_zero cp := by
 unfold width_in ref02_in; rw [in_any, rin_any]; rfl
theorem in1 (cp : Int) : width_in cp tab1 = ref02_in ref02_two cp := by
 unfold width_in ref02_in; rw [in_any, rin_any]
 rw [Bool.eq_iff_iff]
 simp only [tab1, ref02_two, List.any_cons, List.any_nil, inS, inA, Bool.or_eq_true, Bool.and_eq_true, decide_eq_true_eq, Bool.or_false, Bool.false_eq_true, or_false]
 omega
theorem width_eq (cp : Int) : width_Of cp = ref02_Of cp := by
 unfold width_Of ref02_Of
 simp only [bindV]
 rw [in0, in1, utf_check]
 have e : width_in cp [{ Spn.zero with lo := 0, hi := 31 }, { Spn.zero with lo := 127, hi := 159 }] = (inS cp ⟨0, 31⟩ || inS cp ⟨127, 159⟩) := by unfold width_in; rw [in_any]; simp [inS, Spn.zero]
 rw [e]
 cases hc : ref01_Check cp with
 | false => simp
 | true =>
  unfold ref01_Check at hc; simp only [Bool.and_eq_true, decide_eq_true_eq] at hc
  have e2 : (inS cp ⟨0, 31⟩ || inS cp ⟨127, 159⟩) = (decide (cp < 32) || (decide (127 ≤ cp) && decide (cp < 160))) := by
   rw [Bool.eq_iff_iff]; simp only [inS, Bool.or_eq_true, Bool.and_eq_true, decide_eq_true_eq]; omega
  rw [e2]
  simp only [Bool.not_true, Bool.false_or]
  cases (decide (cp < 32) || (decide (127 ≤ cp) && decide (cp < 160))) with
  | true => rfl
  | false =>
   simp only [cond_false]
   by_cases h : cp < (tab0.getD 0 Spn.zero).lo
   ·rw [decide_eq_true h, cond_true]
    have h' : cp < 768 := h
    have z : ref02_in ref02_zero cp = false := by
     unfold ref02_in; rw [rin_any, ← Bool.not_eq_true]
     simp only [ref02_zero, List.any_cons, List.any_nil, inA, Bool.or_eq_true, Bool.and_eq_true, decide_eq_true_eq, Bool.false_eq_true, or_false]
     omega
    have z2 : ref02_in ref02_two cp = false := by
     unfold ref02_in; rw [rin_any, ← Bool.not_eq_true]
     simp only [ref02_two, List.any_cons, List.any_nil, inA, Bool.or_eq_true, Bool.and_eq_true, decide_eq_true_eq, Bool.false_eq_true, or_false]
     omega
    rw [z, z2]; rfl
   ·rw [decide_eq_false h, cond_false]
/-! styles -/
theorem color_eq (c : Col) : color_Check c = ref03_Check c := by
 unfold color_Check ref03_Check
 by_cases h0 : c.kind = 0
 ·rw [h0]
  show (bif (((decide ((0 : Int) < 0) || decide ((3 : Int) ≤ 0)) || decide (c.n < 0)) || decide ((0 : Int) < c.n)) then (130 : Int) else 0) = (bif decide (c.n = 0) then (0 : Int) else 130)
  by_cases h : c.n = 0
  ·rw [h]; rfl
  ·rw [decide_eq_false h, show (((decide ((0 : Int) < 0) || decide ((3 : Int) ≤ 0)) || decide (c.n < 0)) || decide ((0 : Int) < c.n)) = true by simp only [Bool.or_eq_true, decide_eq_true_eq]; omega]; rfl
 ·rw [decide_eq_false h0, cond_false]
  by_cases h1 : c.kind = 1
  ·rw [h1]
   show (bif (((decide ((1 : Int) < 0) || decide ((3 : Int) ≤ 1)) || decide (c.n < 0)) || decide ((255 : Int) < c.n)) then (130 : Int) else 0) = (bif (decide (0 ≤ c.n) && decide (c.n ≤ 255)) then (0 : Int) else 130)
   by_cases h : 0 ≤ c.n ∧ c.n ≤ 255
   ·rw [show (decide (0 ≤ c.n) && decide (c.n ≤ 255)) = true by simp only [Bool.and_eq_true, decide_eq_true_eq]; exact h, show (((decide ((1 : Int) < 0) || decide ((3 : Int) ≤ 1)) || decide (c.n < 0)) || decide ((255 : Int) < c.n)) = false by simp only [Bool.or_eq_false_iff, decide_eq_false_iff_not]; omega]; rfl
   ·rw [show (decide (0 ≤ c.n) && decide (c.n ≤ 255)) = false by simp only [Bool.and_eq_false_iff, decide_eq_false_iff_not]; omega, show (((decide ((1 : Int) < 0) || decide ((3 : Int) ≤ 1)) || decide (c.n < 0)) || decide ((255 : Int) < c.n)) = true by simp only [Bool.or_eq_true, decide_eq_true_eq]; omega]; rfl
  ·rw [decide_eq_false h1, cond_false]
   by_cases h2 : c.kind = 2
   ·rw [h2]
    show (bif (((decide ((2 : Int) < 0) || decide ((3 : Int) ≤ 2)) || decide (c.n < 0)) || decide ((16777215 : Int) < c.n)) then (130 : Int) else 0) = (bif (decide (0 ≤ c.n) && decide (c.n ≤ 16777215)) then (0 : Int) else 130)
    by_cases h : 0 ≤ c.n ∧ c.n ≤ 16777215
    ·rw [show (decide (0 ≤ c.n) && decide (c.n ≤ 16777215)) = true by simp only [Bool.and_eq_true, decide_eq_true_eq]; exact h, show (((decide ((2 : Int) < 0) || decide ((3 : Int) ≤ 2)) || decide (c.n < 0)) || decide ((16777215 : Int) < c.n)) = false by simp only [Bool.or_eq_false_iff, decide_eq_false_iff_not]; omega]; rfl
    ·rw [show (decide (0 ≤ c.n) && decide (c.n ≤ 16777215)) = false by simp only [Bool.and_eq_false_iff, decide_eq_false_iff_not]; omega, show (((decide ((2 : Int) < 0) || decide ((3 : Int) ≤ 2)) || decide (c.n < 0)) || decide ((16777215 : Int) < c.n)) = true by simp only [Bool.or_eq_true, decide_eq_true_eq]; omega]; rfl
   ·rw [decide_eq_false h2, cond_false]
    rw [show (decide (c.kind < 0) || decide ((3 : Int) ≤ c.kind)) = true by simp only [Bool.or_eq_true, decide_eq_true_eq]; omega]; rfl
theorem andNot255 {a : Int} (h0 : -9223372036854775808 ≤ a) (h1 : a ≤ 9223372036854775807) : bOp .andNot .i64 a 255 = 0 ↔ 0 ≤ a ∧ a ≤ 255 := by
 show IntKind.i64.wrap (((BitVec.ofInt 64 a &&& ~~~ BitVec.ofInt 64 255).toNat : Nat) : Int) = 0 ↔ _
 have hw : ∀ v : BitVec 64, IntKind.i64.wrap ((v.toNat : Nat) : Int) = 0 ↔ v = 0#64 := fun v => by
  have := v.isLt
  constructor
  ·intro h
   apply BitVec.eq_of_toNat_eq
   simp [IntKind.wrap, IntKind.signed, IntKind.bits] at h ⊢
   omega
  ·intro h; subst h; decide
 rw [hw]
 have ht : (BitVec.ofInt 64 a).toNat = (a % 18446744073709551616).toNat := by rw [BitVec.toNat_ofInt]; rfl
 constructor
 ·intro h
  have hlt : (BitVec.ofInt 64 a).toNat < 2 ^ 8 := by
   apply Nat.lt_pow_two_of_testBit
   intro i hi
   have hb : (BitVec.ofInt 64 a &&& ~~~ BitVec.ofInt 64 255).getLsbD i = false := by rw [h]; simp
   rw [BitVec.getLsbD_and, BitVec.getLsbD_not] at hb
   by_cases hi64 : i < 64
   ·have h255 : (BitVec.ofInt 64 255).getLsbD i = false := by
     show (255 : Nat).testBit i = false
     exact Nat.testBit_lt_two_pow (Nat.lt_of_lt_of_le (by decide : 255 < 2 ^ 8) (Nat.pow_le_pow_right (by decide) hi))
    rw [h255] at hb
    simpa [hi64, BitVec.getLsbD] using hb
   ·exact Nat.testBit_lt_two_pow (Nat.lt_of_lt_of_le (BitVec.isLt _) (Nat.pow_le_pow_right (by decide) (by omega)))
  rw [ht] at hlt; omega
 ·intro h
  obtain ⟨n, rfl⟩ : ∃ n : Nat, a = n := ⟨a.toNat, by omega⟩
  have hn : n < 256 := by omega
  clear h h0 h1 ht hw
  revert hn; revert n; decide +kernel
theorem style_eq (s : Sty) (h0 : -9223372036854775808 ≤ s.attr) (h1 : s.attr ≤ 9223372036854775807) : style_Check s = ref04_Check s := by
 unfold style_Check ref04_Check
 rw [color_eq, color_eq, color_eq]
 have e : ((!decide ((bOp .andNot .i64 s.attr 255) = 0)) || (decide (s.under < 0))) = (((decide (s.attr < 0)) || (decide ((255 : Int) < s.attr))) || (decide (s.under < 0))) := by
  congr 1
  rw [Bool.eq_iff_iff]; simp only [Bool.not_eq_true', decide_eq_false_iff_not, Bool.or_eq_true, decide_eq_true_eq, andNot255 h0 h1]; omega
 rw [e]
/-! cells and rows -/
theorem half_eq (c : Cel) : row_half c = ref12_Second c := by
 unfold row_half ref12_Second
 rw [Bool.eq_iff_iff]; simp only [Bool.and_eq_true, decide_eq_true_eq]
 cases c with
 | mk b m w s =>
  simp only [Cel.zero, Cel.mk.injEq]
  constructor
  ·rintro ⟨a, b, c, _⟩; exact ⟨⟨a, b⟩, c⟩
  ·rintro ⟨⟨a, b⟩, c⟩; exact ⟨a, b, c, trivial⟩
def aIn (c : Cel) : Prop := -9223372036854775808 ≤ c.sty.attr ∧ c.sty.attr ≤ 9223372036854775807
theorem cell_eq (c : Cel) (h : aIn c) : row_CheckCell c = 0 ↔ ref12_CheckCell c = 0 := by
 unfold row_CheckCell ref12_CheckCell
 rw [style_eq _ h.1 h.2, half_eq]
 cases hs : decide (ref04_Check c.sty = 0) with
 | false => simp
 | true =>
  simp only [Bool.not_true, Bool.or_false, cond_false]
  cases h2 : ref12_Second c with
  | true => simp
  | false =>
   simp only [Bool.false_or, cond_false, row_marked, width_eq, Bool.or_false]
   by_cases m1 : ((!decide (c.marks.a = 0)) && (!decide ((ref02_Of c.marks.a) = 0))) = true
   ·rw [m1]; simp
   ·rw [show ((!decide (c.marks.a = 0)) && (!decide ((ref02_Of c.marks.a) = 0))) = false by simpa using m1]
    simp only [cond_false]
    have hsw : ((decide (c.marks.a = 0)) || (!decide ((ref02_Of c.marks.b) = 0))) = ((!decide ((ref02_Of c.marks.b) = 0)) || (decide (c.marks.a = 0))) := Bool.or_comm _ _
    rw [hsw]
    cases ((!decide (c.marks.b = 0)) && ((!decide ((ref02_Of c.marks.b) = 0)) || (decide (c.marks.a = 0)))) with
    | true => simp
    | false =>
     simp only [cond_false, Bool.and_true]
     have e : ((((decide ((0 : Int) ≤ c.wide)) && (decide (c.wide ≤ 1))) && (decide ((ref02_Of c.base) = (IntKind.i64.wrap (c.wide + (1 : Int))))))) = (((decide ((ref02_Of c.base) = 1)) && (decide (c.wide = 0))) || ((decide ((ref02_Of c.base) = 2)) && (decide (c.wide = 1)))) := by
      rw [Bool.eq_iff_iff]; simp only [Bool.and_eq_true, Bool.or_eq_true, decide_eq_true_eq]
      constructor
      ·rintro ⟨⟨a, b⟩, d⟩; rw [iw (by omega) (by omega)] at d; omega
      ·rintro h; rw [iw (by omega) (by omega)]; omega
     rw [e]
     cases (((decide ((ref02_Of c.base) = 1)) && (decide (c.wide = 0))) || ((decide ((ref02_Of c.base) = 2)) && (decide (c.wide = 1)))) <;> simp
theorem row_l0_eq (cells : List Cel) (hc : ∀ c ∈ cells, aIn c) : ∀ (rest : List Cel) (t i : Nat) (last : Cel), rest = cells.drop i → i ≤ cells.length → (decide (last.wide = 1) = (decide ((0 : Int) < (i : Int)) && decide ((cells.getD (i - 1) Cel.zero).wide = 1))) → (0 < i → last = cells.getD (i - 1) Cel.zero) → (rest = [] → last.wide ≠ 1) →
  (row_Check_l0 rest t last = 0 ↔ ref12_Check_l0 cells rest i = 0)
 | [], t, i, last, h, hi, h1, h2, h3 => by simp only [row_Check_l0, ref12_Check_l0]; rw [decide_eq_false (h3 rfl)]; simp
 | x :: xs, t, i, last, h, hi, h1, h2, h3 => by
  have hlt : i < cells.length := by
   by_cases hh : i < cells.length
   ·exact hh
   ·rw [List.drop_eq_nil_of_le (by omega)] at h; cases h
  have hd := List.drop_eq_getElem_cons hlt
  have hx : x = cells[i] := by rw [hd] at h; exact (List.cons.inj h).1
  have hxs : xs = cells.drop (i + 1) := by rw [hd] at h; exact (List.cons.inj h).2
  have hlen : xs.length = cells.length - (i + 1) := by rw [hxs, List.length_drop]
  simp only [row_Check_l0, ref12_Check_l0]
  rw [← h1]
  by_cases hcell : row_CheckCell x = 0
  ·rw [hcell, (cell_eq x (hc x (by rw [hx]; exact List.getElem_mem _))).1 hcell]
   simp only [decide_true, Bool.not_true, Bool.false_or, cond_false]
   by_cases hm : decide (last.wide = 1) = decide (x.wide = 2)
   ·rw [← hm]
    simp only [beq_self_eq_true, Bool.not_true, Bool.false_or]
    have hsty : (decide (last.wide = 1) && !decide (x.sty = last.sty)) = (decide (last.wide = 1) && !decide (x.sty = (cells.getD (i - 1) Cel.zero).sty)) := by
     by_cases hl : last.wide = 1
     ·have hi0 : 0 < i := by rw [decide_eq_true hl] at h1; have := h1.symm; simp only [Bool.and_eq_true, decide_eq_true_eq] at this; omega
      rw [h2 hi0]
     ·rw [decide_eq_false hl]; rfl
    rw [hsty]
    cases (decide (last.wide = 1) && !decide (x.sty = (cells.getD (i - 1) Cel.zero).sty)) with
    | true => simp
    | false =>
     simp only [Bool.false_or, cond_false]
     by_cases hw : x.wide = 1
     ·by_cases he : (i : Int) = (cells.length : Int) - 1
      ·rw [decide_eq_true hw, decide_eq_true he]
       have : xs = [] := List.eq_nil_of_length_eq_zero (by omega)
       rw [this]; simp [row_Check_l0, hw]
      ·rw [decide_eq_false he, Bool.and_false, cond_false]
       exact row_l0_eq cells hc xs (t + 1) (i + 1) x hxs (by omega) (by rw [Nat.add_sub_cancel, getD_eq hlt, ← hx, decide_eq_true (show (0 : Int) < ((i + 1 : Nat) : Int) by omega), Bool.true_and]) (fun _ => by rw [Nat.add_sub_cancel, getD_eq hlt, ← hx]) (fun he' => by rw [he'] at hlen; simp at hlen; omega)
     ·rw [decide_eq_false hw, Bool.false_and, cond_false]
      exact row_l0_eq cells hc xs (t + 1) (i + 1) x hxs (by omega) (by rw [Nat.add_sub_cancel, getD_eq hlt, ← hx, decide_eq_true (show (0 : Int) < ((i + 1 : Nat) : Int) by omega), Bool.true_and]) (fun _ => by rw [Nat.add_sub_cancel, getD_eq hlt, ← hx]) (fun _ => hw)
   ·have hb : (decide (last.wide = 1) == decide (x.wide = 2)) = false := by simpa using hm
    rw [hb]; simp
  ·have : ¬ ref12_CheckCell x = 0 := fun h => hcell ((cell_eq x (hc x (by rw [hx]; exact List.getElem_mem _))).2 h)
   rw [decide_eq_false hcell, decide_eq_false this]; simp
theorem row_eq (cells : List Cel) (w : Bool) (hc : ∀ c ∈ cells, aIn c) : row_Check cells w = 0 ↔ ref12_Right cells w = true := by
 unfold ref12_Right; rw [decide_eq_true_eq]
 unfold row_Check ref12_Check
 cases hb : ((decide ((cells.length : Int) < 2)) || (decide ((80 : Int) < (cells.length : Int)))) with
 | true => simp
 | false =>
  simp only [cond_false]
  simp only [Bool.or_eq_false_iff, decide_eq_false_iff_not] at hb
  exact row_l0_eq cells hc cells 0 0 Cel.zero (by simp) (Nat.zero_le _) rfl (fun h => absurd h (by decide)) (fun _ => by decide)
/-! frames -/
theorem frame_l0_all (c : Int) : ∀ (rows : List (List Cel)) (t : Nat), (∀ r ∈ rows, (r.length : Int) = c ∧ row_Check r false = 0) → frame_Check_l0 c rows true t = 0
 | [], t, _ => rfl
 | r :: rows, t, h => by
  have h0 := h r (List.mem_cons_self ..)
  simp only [frame_Check_l0]
  rw [decide_eq_true h0.1, decide_eq_true h0.2]
  exact frame_l0_all c rows (t + 1) (fun x hx => h x (List.mem_cons_of_mem _ hx))
theorem rright_l0 (c : Int) (t : List UInt8) : ∀ (rows : List (List Cel)) (i : Nat), ref23_Right_l0 c t rows i = true ↔ (∀ r ∈ rows, (r.length : Int) = c ∧ ref12_Right r false = true) ∧ ref08_Title t = true
 | [], i => by simp only [ref23_Right_l0, right_title]; exact ⟨fun h => ⟨fun r hr => absurd hr List.not_mem_nil, h⟩, fun h => h.2⟩
 | r :: rows, i => by
  simp only [ref23_Right_l0]
  cases hb : ((!decide ((r.length : Int) = c)) || (!(ref12_Right r false))) with
  | true =>
   simp only [cond_true]
   simp only [Bool.or_eq_true, Bool.not_eq_true', decide_eq_false_iff_not] at hb
   constructor
   ·intro h; cases h
   ·rintro ⟨h, _⟩
    have := h r (List.mem_cons_self ..)
    rcases hb with hb | hb
    ·exact absurd this.1 hb
    ·rw [this.2] at hb; cases hb
  | false =>
   simp only [cond_false]
   simp only [Bool.or_eq_false_iff, Bool.not_eq_false', decide_eq_true_eq] at hb
   rw [rright_l0 c t rows (i + 1)]
   constructor
   ·rintro ⟨h, h'⟩
    exact ⟨fun x hx => by rcases List.mem_cons.1 hx with rfl | hx; exact hb; exact h x hx, h'⟩
   ·rintro ⟨h, h'⟩
    exact ⟨fun x hx => h x (List.mem_cons_of_mem _ hx), h'⟩
theorem frame_right {c : Int} {rows : List (List Cel)} {cu : Plc} {v : Bool} {sh : Int} {ti : List UInt8} (hc : ∀ r ∈ rows, ∀ x ∈ r, aIn x) : frame_Check c rows cu v sh ti = 0 ↔ ref23_Right c rows cu v sh ti = true := by
 unfold frame_Check ref23_Right
 constructor
 ·intro h
  obtain ⟨h1, h2⟩ := frame_Check_l0_ok _ _ _ _ h
  simp only [Bool.and_eq_true, decide_eq_true_eq] at h1
  rw [show ((((((decide (c < 2)) || (decide ((80 : Int) < c))) || (decide ((rows.length : Int) < 1))) || (decide ((40 : Int) < (rows.length : Int)))) || (decide (sh < 0))) || (decide ((6 : Int) < sh))) = false by simp only [Bool.or_eq_false_iff, decide_eq_false_iff_not]; omega, cond_false]
  rw [show ((((decide (cu.row < 0)) || (decide ((rows.length : Int) ≤ cu.row))) || (decide (cu.col < 0))) || (decide (c ≤ cu.col))) = false by simp only [Bool.or_eq_false_iff, decide_eq_false_iff_not]; omega, cond_false]
  rw [rright_l0]
  exact ⟨fun r hr => ⟨(h2 r hr).1, (row_eq r false (hc r hr)).1 (h2 r hr).2⟩, (check_title ti).1 h1.2⟩
 ·intro h
  cases hb : ((((((decide (c < 2)) || (decide ((80 : Int) < c))) || (decide ((rows.length : Int) < 1))) || (decide ((40 : Int) < (rows.length : Int)))) || (decide (sh < 0))) || (decide ((6 : Int) < sh))) with
  | true => rw [hb] at h; cases h
  | false =>
   rw [hb, cond_false] at h
   cases hb2 : ((((decide (cu.row < 0)) || (decide ((rows.length : Int) ≤ cu.row))) || (decide (cu.col < 0))) || (decide (c ≤ cu.col))) with
   | true => rw [hb2] at h; cases h
   | false =>
    rw [hb2, cond_false, rright_l0] at h
    simp only [Bool.or_eq_false_iff, decide_eq_false_iff_not] at hb hb2
    rw [(decide_eq_true ((check_title ti).2 h.2) : decide (action_Check 0 0 Col.zero ti = 0) = true)]
    rw [show ((((((((((decide ((2 : Int) ≤ c)) && (decide (c ≤ 80))) && (decide ((1 : Int) ≤ (rows.length : Int)))) && (decide ((rows.length : Int) ≤ 40))) && (decide ((0 : Int) ≤ cu.row))) && (decide (cu.row < (rows.length : Int)))) && (decide ((0 : Int) ≤ cu.col))) && (decide (cu.col < c))) && (decide ((0 : Int) ≤ sh))) && (decide (sh ≤ 6))) = true by simp only [Bool.and_eq_true, decide_eq_true_eq]; omega]
    exact frame_l0_all c rows 0 fun r hr => ⟨(h.1 r hr).1, (row_eq r false (hc r hr)).2 (h.1 r hr).2⟩
end Go.Proofs.YtinkdfnpmoljfaaGreatDoor

