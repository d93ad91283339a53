import Derived.Test.YtinkdfnpmoljfaaGreatDoorLY2
set_option linter.unusedVariables false
set_option linter.unusedSimpArgs false
set_option linter.unnecessarySimpa false
set_option maxRecDepth 10000
namespace Go.Proofs.YtinkdfnpmoljfaaGreatDoor
open Go Go.Fen
theorem st_any {p : List UInt8} {n v : Int} {fu : Nat} {low high : Int} {i : Nat} (hl : 0 ≤ low ∧ low ≤ high ∧ high ≤ 4194303) (h1 : (i : Int) < n) :
  ref01_spana_l0 p (n, v) (fu + 1) low high i = (0, 0, 0) ∨ ∃ l h, ref01_spana_l0 p (n, v) (fu + 1) low high i = ref01_spana_l0 p (n, v) fu l h (i + 1) ∧ low * 64 ≤ l ∧ l ≤ h ∧ h ≤ high * 64 + 63 := by
 by_cases h2 : (i : Int) < p.length
 ·by_cases h3 : Bd8 (p.getD i 0)
  ·exact Or.inl (st_bad h3 (by omega) h1 h2)
  ·have := Bd8.not h3
   exact Or.inr ⟨_, _, st_in h3 (by omega) h1 h2, by omega, by omega, by omega⟩
 ·exact Or.inr ⟨_, _, st_out (by omega) h1 h2, by omega, by omega, by omega⟩
theorem kg_zero (b : UInt8) (hL : utf_length b = 0) (hF : ref01_first b = (0, 0)) (cs : List UInt8) : KG (b :: cs) :=
 kg_no ((span_eq b cs hF).trans ((st_end (by omega) (by decide)).trans (if_pos (by simp only [List.length_cons]; omega)))) (kind_out (by rw [hL]; omega))
theorem kg_low (b : UInt8) (h1 : 192 ≤ (b.toNat : Int)) (h2 : (b.toNat : Int) < 194) (hL : utf_length b = 0) (hF : ref01_first b = (2, (b.toNat : Int) - 192)) (cs : List UInt8) : KG (b :: cs) := by
 have hk : utf_kind (b :: cs) = 0 := kind_out (by rw [hL]; omega)
 have e := span_eq2 b cs hF
 rcases st_any (p := b :: cs) (n := 2) (v := (b.toNat : Int) - 192) (fu := 1) (low := (b.toNat : Int) - 192) (high := (b.toNat : Int) - 192) (i := 1) (by omega) (by decide) with h | ⟨l, h, e1, h3, h4, h5⟩
 ·exact kg_no (e.trans h) hk
 ·have e2 := e.trans e1
  rw [st_end (by omega) (by decide)] at e2
  by_cases c : (2 : Int) < ((b :: cs).length : Int)
  ·rw [if_pos c] at e2; exact kg_no e2 hk
  ·rw [if_neg c] at e2
   have hg : ¬ G l h 128 2047 := by
    unfold G; repeat' split
    all_goals omega
   exact kg_of 128 2047 e2 (by decide) rfl rfl (Or.inr (Or.inr ⟨hg, hk⟩))
theorem kg_high (b : UInt8) (h1 : 244 < (b.toNat : Int)) (h2 : (b.toNat : Int) < 248) (hL : utf_length b = 0) (hF : ref01_first b = (4, (b.toNat : Int) - 240)) (cs : List UInt8) : KG (b :: cs) := by
 have hk : utf_kind (b :: cs) = 0 := kind_out (by rw [hL]; omega)
 have e := span_eq4 b cs hF
 rcases st_any (p := b :: cs) (n := 4) (v := (b.toNat : Int) - 240) (fu := 3) (low := (b.toNat : Int) - 240) (high := (b.toNat : Int) - 240) (i := 1) (by omega) (by decide) with h | ⟨l, h, e1, h3, h4, h5⟩
 ·exact kg_no (e.trans h) hk
 ·have e := e.trans e1
  rcases st_any (p := b :: cs) (n := 4) (v := (b.toNat : Int) - 240) (fu := 2) (low := l) (high := h) (i := 2) (by omega) (by decide) with h | ⟨l', h', e1, h3', h4', h5'⟩
  ·exact kg_no (e.trans h) hk
  ·have e := e.trans e1
   rcases st_any (p := b :: cs) (n := 4) (v := (b.toNat : Int) - 240) (fu := 1) (low := l') (high := h') (i := 3) (by omega) (by decide) with h | ⟨l2, h2', e1, h32, h42, h52⟩
   ·exact kg_no (e.trans h) hk
   ·have e2 := e.trans e1
    rw [st_end (by omega) (by decide)] at e2
    by_cases c : (4 : Int) < ((b :: cs).length : Int)
    ·rw [if_pos c] at e2; exact kg_no e2 hk
    ·rw [if_neg c] at e2
     have hg : ¬ G l2 h2' 65536 1114111 := by
      unfold G; repeat' split
      all_goals omega
     exact kg_of 65536 1114111 e2 (by decide) rfl rfl (Or.inr (Or.inr ⟨hg, hk⟩))
theorem kg_all : ∀ p : List UInt8, p ≠ [] → KG p
 | [], h => absurd rfl h
 | b :: cs, _ => by
  rcases first_len b with ⟨h1, h3, h4⟩ | ⟨h1, h2, h3, h4⟩ | ⟨h1, h2, h3, h4⟩ | ⟨h1, h2, h3, h4⟩ | ⟨h1, h2, h3, h4⟩ | ⟨h1, h2, h3, h4⟩ | ⟨h1, h2, h3, h4⟩ | ⟨h1, h3, h4⟩
  ·exact kg1 b (by omega) h1 h3 h4 cs
  ·exact kg_zero b h3 h4 cs
  ·exact kg_low b h1 h2 h3 h4 cs
  ·exact kg2 b h1 h2 h3 h4 cs
  ·exact kg3 b h1 h2 h3 h4 cs
  ·exact kg4 b h1 (by omega) h3 h4 cs
  ·exact kg_high b h1 h2 h3 h4 cs
  ·exact kg_zero b h3 h4 cs
theorem right_eq (p : List UInt8) : utf_Right p = ref01_Righta p := by
 unfold utf_Right ref01_Righta
 cases p with
 | nil => rfl
 | cons b cs =>
  simp only [bindV]
  rcases kg_all (b :: cs) (by simp) with ⟨h, h'⟩ | ⟨h, h'⟩ | ⟨h, h', _⟩ <;> rw [h, h'] <;> rfl
theorem stepa_eq (b : UInt8) : utf_Stepa b = ref01_Step b := by
 have hj : utf_Stepa_j0 b = ref01_Step_j0 b := by
  unfold utf_Stepa_j0 ref01_Step_j0
  simp only [bindV, List.nil_append]
  rcases kg_all [b] (by simp) with ⟨h, h'⟩ | ⟨h, h'⟩ | ⟨h, h', hc⟩
  ·simp [h, h']
  ·simp [h, h']
  ·simp [h, h', hc]
 unfold utf_Stepa ref01_Step
 rw [hj, Bool.cond_self, Bool.cond_self]
theorem step_eq (p : List UInt8) (b : UInt8) : utf_Step p b = ref01_Stepa p b := by
 have hj : ∀ q, utf_Step_j0 b q = ref01_Stepa_j0 b q := fun q => by
  unfold utf_Step_j0 ref01_Stepa_j0
  simp only [bindV, List.nil_append]
  rcases kg_all (q ++ [b]) (by simp) with ⟨h, h'⟩ | ⟨h, h'⟩ | ⟨h, h', hc⟩
  ·simp [h, h', stepa_eq]
  ·simp [h, h']
  ·simp [h, h', hc]
 unfold utf_Step ref01_Stepa
 rw [right_eq, hj, hj]
theorem l4_eq (c0 p : List UInt8) (t : Nat) (ag : List UInt8 → Nat → List Int) : ∀ (l : List Int) (k : Nat), utf_each_1_l4 c0 p t ag l k = l ++ ag (utf_Step p (c0.getD t 0)).1 (t + 1)
 | [], k => by simp [utf_each_1_l4]
 | x :: l, k => by simp only [utf_each_1_l4, l4_eq c0 p t ag l, List.cons_append]
theorem codes_l0 (c0 : List UInt8) : ∀ (s out : List UInt8) (l : List Int) (t i : Nat), s = c0.drop t → ref01_Codes_l0 s l out i = l ++ utf_each_1_l3 c0 s out t
 | [], p, l, t, i, _ => by
  simp only [ref01_Codes_l0, utf_each_1_l3, bindV, ref01_Flush, right_eq]
  cases (decide ((0 : Int) < (p.length : Int)) && ref01_Righta p) <;> rfl
 | x :: s, p, l, t, i, h => by
  have hlt : t < c0.length := by
   by_cases hh : t < c0.length
   ·exact hh
   ·rw [List.drop_eq_nil_of_le (by omega)] at h; cases h
  have h0 : c0.getD t 0 = x := by
   rw [List.drop_eq_getElem_cons hlt] at h
   rw [List.getD_eq_getElem?_getD, List.getElem?_eq_getElem hlt]; exact (List.cons.inj h).1.symm
  have h1 : s = c0.drop (t + 1) := by rw [List.drop_eq_getElem_cons hlt] at h; exact (List.cons.inj h).2
  simp only [ref01_Codes_l0, utf_each_1_l3, bindV, l4_eq]
  rw [codes_l0 c0 s _ _ (t + 1) (i + 1) h1, h0, step_eq, List.append_assoc]
theorem codes_eq (s : List UInt8) : utf_Codes s = ref01_Codes s := by
 unfold utf_Codes ref01_Codes
 rw [utf_Codes_r0_eq, codes_l0 s s [] [] 0 0 (by simp)]; rfl
/-! Put -/
theorem by8N {m : Int} (h : 0 ≤ m ∧ m ≤ 255) : ((by8 m).toNat : Int) = m := by8_toNat h
theorem uwm (m : Int) : IntKind.u8.wrap m = m % 256 := by simp [IntKind.wrap, IntKind.signed, IntKind.bits]
theorem put1N : ∀ n < 256, by8 (bOp .or .u8 128 ((by8 (bOp .and .u8 ((n : Nat) : Int) 63)).toNat : Int)) = by8 (128 + n % 64) := by decide +kernel
theorem or192 : ∀ n < 32, by8 (bOp .or .u8 192 ((n : Nat) : Int)) = by8 (192 + n) := by decide +kernel
theorem or224 : ∀ n < 16, by8 (bOp .or .u8 224 ((n : Nat) : Int)) = by8 (224 + n) := by decide +kernel
theorem or240 : ∀ n < 8, by8 (bOp .or .u8 240 ((n : Nat) : Int)) = by8 (240 + n) := by decide +kernel
theorem put1 (q : Int) : by8 (bOp .or .u8 128 ((by8 (bOp .and .u8 ((by8 (IntKind.u8.wrap q)).toNat : Int) 63)).toNat : Int)) = by8 (128 + q % 64) := by
 have := put1N (by8 (IntKind.u8.wrap q)).toNat (by8 (IntKind.u8.wrap q)).toNat_lt
 rw [this, by8N (by rw [uwm]; omega), uwm]; congr 1; omega
theorem putS (s : Nat) (cp : Int) (d : Int) (hd : (2 : Int) ^ (min ((s : Int)).toNat 64) = d) (h0 : 0 < d) : utf_Put_1 s cp = by8 (128 + (cp / d) % 64) := by
 unfold utf_Put_1
 rw [put1, hd, Int.fdiv_eq_ediv_of_nonneg _ (by omega)]
theorem ref_mark {m : Int} (h : 0 ≤ m) : by8 (IntKind.u8.wrap (128 + Int.tmod m 64)) = by8 (128 + m % 64) := by
 rw [Int.tmod_eq_emod_of_nonneg h, uw (by omega) (by omega)]
theorem ref_div {m : Int} (h : 0 ≤ m ∧ m ≤ 1114111) : IntKind.i64.wrap (Int.tdiv m 64) = m / 64 := by
 rw [Int.tdiv_eq_ediv_of_nonneg h.1, iw (by omega) (by omega)]
theorem putl_more (c : Int) (fu : Nat) (x : Int) (b : List UInt8) (i : Int) (hi : 0 < i) (hx : 0 ≤ x ∧ x ≤ 1114111) : ref01_Put_l0 c (fu + 1) x b i = ref01_Put_l0 c fu (x / 64) (b.set i.toNat (by8 (128 + x % 64))) (i - 1) := by
 rw [ref01_Put_l0, decide_eq_true hi, cond_true, ref_mark hx.1, ref_div hx]
theorem putl_end (c : Int) (fu : Nat) (x : Int) (b : List UInt8) : ref01_Put_l0 c (fu + 1) x b 0 = b.set 0 (by8 (IntKind.u8.wrap ((([0, 0, 192, 224, 240] : List Int).getD ((ref01_size c).toNat) 0) + x))) := by
 rw [ref01_Put_l0, decide_eq_false (by decide), cond_false]
theorem put_j0 (cp : Int) (h : 0 ≤ cp ∧ cp ≤ 1114111) : utf_Put_j0 cp = ref01_Put_j0 cp := by
 unfold utf_Put_j0 ref01_Put_j0
 by_cases h1 : cp < 128
 ·rw [decide_eq_true h1, show ref01_size cp = 1 by unfold ref01_size; rw [decide_eq_true h1]; rfl]; rfl
 ·rw [decide_eq_false h1, cond_false]
  by_cases h2 : cp < 2048
  ·have hs : ref01_size cp = 2 := by unfold ref01_size; rw [decide_eq_false h1, decide_eq_true h2]; rfl
   rw [decide_eq_true h2, cond_true, hs]
   have e : ref01_Put_l0 cp (((2 : Int) - 1 - 0).toNat + 1) cp (List.replicate (2 : Int).toNat (0 : UInt8)) (2 - 1) = [by8 (192 + cp / 64), by8 (128 + cp % 64)] := by
    refine (putl_more cp 1 cp [0, 0] 1 (by decide) h).trans ((putl_end ..).trans ?_)
    rw [hs]; rw [show ([0, 0, 192, 224, 240] : List Int).getD (2 : Int).toNat 0 = 192 from rfl, uw (by omega) (by omega)]; rfl
   rw [show decide ((2 : Int) = 1) = false from rfl, cond_false, e, putS 0 cp 1 rfl (by decide)]
   have := or192 (by8 (IntKind.u8.wrap (cp / 64))).toNat (by have := by8N (m := IntKind.u8.wrap (cp / 64)) (by rw [uwm]; omega); rw [uwm] at this; rw [uwm]; omega)
   rw [this, by8N (by rw [uwm]; omega), uwm, show cp / 64 % 256 = cp / 64 by omega, Int.ediv_one]
  ·rw [decide_eq_false h2, cond_false]
   by_cases h3 : cp < 65536
   ·have hs : ref01_size cp = 3 := by unfold ref01_size; rw [decide_eq_false h1, decide_eq_false h2, decide_eq_true h3]; rfl
    rw [decide_eq_true h3, cond_true, hs]
    have e : ref01_Put_l0 cp (((3 : Int) - 1 - 0).toNat + 1) cp (List.replicate (3 : Int).toNat (0 : UInt8)) (3 - 1) = [by8 (224 + cp / 64 / 64), by8 (128 + cp / 64 % 64), by8 (128 + cp % 64)] := by
     refine (putl_more cp 2 cp [0, 0, 0] 2 (by decide) h).trans ((putl_more cp 1 _ _ 1 (by decide) (by omega)).trans ((putl_end ..).trans ?_))
     rw [hs]; rw [show ([0, 0, 192, 224, 240] : List Int).getD (3 : Int).toNat 0 = 224 from rfl, uw (by omega) (by omega)]; rfl
    rw [show decide ((3 : Int) = 1) = false from rfl, cond_false, e, putS 0 cp 1 rfl (by decide), putS 6 cp 64 rfl (by decide)]
    have := or224 (by8 (IntKind.u8.wrap (cp / 4096))).toNat (by have := by8N (m := IntKind.u8.wrap (cp / 4096)) (by rw [uwm]; omega); rw [uwm] at this; rw [uwm]; omega)
    rw [this, by8N (by rw [uwm]; omega), uwm, show cp / 4096 % 256 = cp / 64 / 64 by omega, Int.ediv_one]
   ·have hs : ref01_size cp = 4 := by unfold ref01_size; rw [decide_eq_false h1, decide_eq_false h2, decide_eq_false h3]; rfl
    rw [decide_eq_false h3, cond_false, hs]
    have e : ref01_Put_l0 cp (((4 : Int) - 1 - 0).toNat + 1) cp (List.replicate (4 : Int).toNat (0 : UInt8)) (4 - 1) = [by8 (240 + cp / 64 / 64 / 64), by8 (128 + cp / 64 / 64 % 64), by8 (128 + cp / 64 % 64), by8 (128 + cp % 64)] := by
     refine (putl_more cp 3 cp [0, 0, 0, 0] 3 (by decide) h).trans ((putl_more cp 2 _ _ 2 (by decide) (by omega)).trans ((putl_more cp 1 _ _ 1 (by decide) (by omega)).trans ((putl_end ..).trans ?_)))
     rw [hs]; rw [show ([0, 0, 192, 224, 240] : List Int).getD (4 : Int).toNat 0 = 240 from rfl, uw (by omega) (by omega)]; rfl
    rw [show decide ((4 : Int) = 1) = false from rfl, cond_false, e, putS 0 cp 1 rfl (by decide), putS 6 cp 64 rfl (by decide), putS 12 cp 4096 rfl (by decide)]
    have := or240 (by8 (IntKind.u8.wrap (cp / 262144))).toNat (by have := by8N (m := IntKind.u8.wrap (cp / 262144)) (by rw [uwm]; omega); rw [uwm] at this; rw [uwm]; omega)
    rw [this, by8N (by rw [uwm]; omega), uwm, show cp / 262144 % 256 = cp / 64 / 64 / 64 by omega, show cp / 4096 = cp / 64 / 64 by omega, Int.ediv_one]
theorem put_eq (cp : Int) : utf_Put cp = ref01_Put cp := by
 unfold utf_Put ref01_Put
 rw [utf_check]
 cases h : ref01_Check cp with
 | false => exact put_j0 65533 (by decide)
 | true => exact put_j0 cp (by unfold ref01_Check at h; simp only [Bool.and_eq_true, decide_eq_true_eq] at h; omega)
theorem text_l0 : ∀ (l : List Int) (t i : Nat) (b : List UInt8), utf_Text_l0 l t b = ref01_Text_l0 l b i
 | [], t, i, b => rfl
 | x :: l, t, i, b => by
  simp only [utf_Text_l0, ref01_Text_l0, bindV, strings_Builder_WriteStringa, put_eq]
  exact text_l0 l _ _ _
theorem text_eq (l : List Int) : utf_Text l = ref01_Text l := text_l0 l 0 0 []
end Go.Proofs.YtinkdfnpmoljfaaGreatDoor

