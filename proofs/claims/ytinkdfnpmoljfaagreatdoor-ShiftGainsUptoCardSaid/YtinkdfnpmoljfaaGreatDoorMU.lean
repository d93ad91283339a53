import Derived.Test.YtinkdfnpmoljfaaGreatDoorT12
import Derived.Test.YtinkdfnpmoljfaaGreatDoorMT
import Derived.Test.YtinkdfnpmoljfaaGreatDoorLY4
set_option linter.unusedVariables false
set_option linter.unusedSimpArgs false
namespace Go.Proofs.YtinkdfnpmoljfaaGreatDoor
open Go Go.Fen
/-! ShiftDoes in plain Lean: the shift's check, its actions, the shifted frame, each as defined. -/
theorem check_val (s : Shf) (n : Int) : shift_Check s n = 0 ∨ shift_Check s n = 2 := by
 unfold shift_Check
 generalize ((((((((decide (n < 1)) || (decide ((40 : Int) < n))) || (decide (s.top < 0))) || (decide (s.bottom < s.top))) || (decide (n ≤ s.bottom))) || (decide (s.amt = 0))) || (decide (s.amt < (s.top - s.bottom)))) || (decide ((s.bottom - s.top) < s.amt))) = c
 cases c <;> simp
theorem is_check (s : Shf) (n : Int) : ref28_Is s n = true ↔ shift_Check s n = 0 := by
 constructor
 ·intro h; have := ref28_Is_ok h; exact check_of_ok (by omega) (by omega) (by unfold shOk; omega)
 ·intro h
  have := shift_Check_ok h
  unfold ref28_Is
  rw [decide_eq_false (by omega : ¬ n < 1), decide_eq_false (by omega : ¬ (40 : Int) < n), decide_eq_false (by omega : ¬ s.top < 0), decide_eq_false (by omega : ¬ s.bottom < s.top), decide_eq_false (by omega : ¬ n ≤ s.bottom), decide_eq_false (by omega : ¬ s.amt = 0), decide_eq_true (by omega : s.amt ≤ _), decide_eq_true (by omega : -(s.bottom - s.top) ≤ s.amt)]
  rfl
theorem blank_one (c : Int) : ref23_Blank c 1 = (c, [shift_plain c], 0, 0, true, 0, []) := by
 unfold ref23_Blank
 have h1 : ∀ m, ((1 : Int) - (0 : Int)).toNat + 1 = m + 1 → m = 1 := fun m h => by omega
 show ref23_Blank_l3 c 1 2 0 [] = _
 simp only [ref23_Blank_l3]
 rw [show decide (((0 : Nat) : Int) < 1) = true from rfl, cond_true, ref23_Blank_l4_eq _ _ _ _ _ _ _ (by show (c - ((0 : Nat) : Int)).toNat < (c - 0).toNat + 1; omega)]
 simp only [ref23_Blank_l3]
 rw [show decide (((0 + 1 : Nat) : Int) < 1) = false from rfl, cond_false, List.nil_append, List.nil_append]
 congr 2
 refine congrArg (fun x => [x]) ?_
 refine ext_getD Cel.zero (by rw [List.length_replicate, shift_plain_len]; congr 1; omega) (fun i hi => ?_)
 rw [List.length_replicate] at hi
 rw [shift_plain_get c i (by omega), getD_eq (by rw [List.length_replicate]; exact hi), List.getElem_replicate]
theorem does_l0 (c : Int) (rows : List (List Cel)) (cu : Plc) (v : Bool) (sh : Int) (ti : List UInt8) (s : Shf) (B : Int × List (List Cel) × Int × Int × Bool × Int × List UInt8) (hB : B.2.1.getD 0 [] = shift_plain c) (hs : shift_Check s (rows.length : Int) = 0) :
  ∀ (rs : List (List Cel)) (r : Nat) (out : List (List Cel)), rs = rows.drop r → out.length = r → (∀ i, i < r → out.getD i [] = shRow c rows s i) → r ≤ rows.length →
   ∃ o, ref28_Done_l0 c rows cu v sh ti s B rs r out = (c, o, cu.row, cu.col, v, sh, ti) ∧ o.length = rows.length ∧ ∀ i, i < rows.length → o.getD i [] = shRow c rows s i
 | [], r, out, h, hl, ho, hr => by
  have := congrArg List.length h; simp at this
  exact ⟨out, by simp only [ref28_Done_l0], by omega, fun i hi => ho i (by omega)⟩
 | x :: rs, r, out, h, hl, ho, hr => by
  have hlt : r < rows.length := by
   by_cases hh : r < rows.length
   ·exact hh
   ·rw [List.drop_eq_nil_of_le (by omega)] at h; cases h
  have hd := List.drop_eq_getElem_cons hlt
  have hx : rows.getD r [] = x := by rw [hd] at h; rw [getD_eq hlt]; exact (List.cons.inj h).1.symm
  have hxs : rs = rows.drop (r + 1) := by rw [hd] at h; exact (List.cons.inj h).2
  have hk := shift_Check_ok hs
  have key : ref28_Done_l0 c rows cu v sh ti s B (x :: rs) r out = ref28_Done_l0 c rows cu v sh ti s B rs (r + 1) (out ++ [shRow c rows s r]) := by
   simp only [ref28_Done_l0]
   rw [wrap_in (k := .i64) (m := (r : Int) + s.amt) (by simp [IntKind.min, IntKind.signed, IntKind.bits]; omega) (by simp [IntKind.max, IntKind.signed, IntKind.bits]; omega), hB]
   unfold shRow
   by_cases c1 : s.top ≤ (r : Int) ∧ (r : Int) ≤ s.bottom
   ·rw [decide_eq_true c1.1, decide_eq_true c1.2]
    simp only [Bool.and_self, cond_true]
    by_cases c2 : s.top ≤ (r : Int) + s.amt ∧ (r : Int) + s.amt ≤ s.bottom
    ·have hq : shift_source s (r : Int) = r + s.amt := by rw [source_if, if_neg (by omega), if_pos c2]
     rw [hq, if_pos (by omega), decide_eq_true c2.1, decide_eq_true c2.2]; rfl
    ·have hq : shift_source s (r : Int) = -1 := by rw [source_if, if_neg (by omega), if_neg c2]
     rw [hq, if_neg (by omega), show (decide (s.top ≤ (r : Int) + s.amt) && decide ((r : Int) + s.amt ≤ s.bottom)) = false by rw [← Bool.not_eq_true]; simpa using c2]; rfl
   ·have hq : shift_source s (r : Int) = r := by rw [source_if, if_pos (by omega)]
    rw [hq, if_pos (by omega), show (decide (s.top ≤ (r : Int)) && decide ((r : Int) ≤ s.bottom)) = false by rw [← Bool.not_eq_true]; simpa using c1, Int.toNat_natCast, hx]; rfl
  rw [key]
  refine does_l0 c rows cu v sh ti s B hB hs rs (r + 1) (out ++ [shRow c rows s r]) hxs (by simp [hl]) (fun i hi => ?_) hlt
  by_cases ci : i < r
  ·rw [← ho i ci, List.getD_eq_getElem?_getD, List.getElem?_append_left (by omega), List.getD_eq_getElem?_getD]
  ·rw [show i = r by omega, List.getD_eq_getElem?_getD, List.getElem?_append_right (by omega), hl]; simp
theorem done_ref {c : Int} {rows : List (List Cel)} {cu : Plc} {v : Bool} {sh : Int} {ti : List UInt8} {s : Shf} (hf : frame_Check c rows cu v sh ti = 0) (hs : shift_Check s (rows.length : Int) = 0) :
  ∃ o, shift_Done c rows cu v sh ti s = (c, o, cu.row, cu.col, v, sh, ti, 0) ∧ ref28_Done c rows cu v sh ti s = (c, o, cu.row, cu.col, v, sh, ti) ∧ o.length = rows.length ∧ ∀ r, r < rows.length → o.getD r [] = shRow c rows s r := by
 obtain ⟨o, e, hl, hr⟩ := done_eq hf hs
 obtain ⟨o', e', hl', hr'⟩ := does_l0 c rows cu v sh ti s (ref23_Blank c 1) (by rw [blank_one]; rfl) hs rows 0 [] rfl rfl (fun i hi => by omega) (Nat.zero_le _)
 refine ⟨o, e, ?_, hl, hr⟩
 unfold ref28_Done bindV
 refine e'.trans ?_
 have : o' = o := ext_getD [] (by omega) (fun i hi => by rw [hr' i (by omega), hr i (by omega)])
 rw [this]
end Go.Proofs.YtinkdfnpmoljfaaGreatDoor

