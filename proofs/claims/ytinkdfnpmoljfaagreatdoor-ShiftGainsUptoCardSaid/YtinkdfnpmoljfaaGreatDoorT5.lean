import Derived.Test.YtinkdfnpmoljfaaGreatDoorD2
import Derived.Test.YtinkdfnpmoljfaaGreatDoorFenX
import Derived.Test.YtinkdfnpmoljfaaGreatDoorProg
import Derived.Test.YtinkdfnpmoljfaaGreatDoorT4a
import Derived.Test.YtinkdfnpmoljfaaGreatDoorT4b
set_option linter.unusedVariables false
set_option linter.unusedSimpArgs false
set_option linter.unnecessarySimpa false
set_option maxRecDepth 100000
namespace Go.Proofs.YtinkdfnpmoljfaaGreatDoor
open Go Go.Fen
theorem apt49 : ApTy Tryz.prog 49 67 1 24 := ⟨by kernel_rfl, by kernel_rfl, rfl⟩
theorem apt67 : ApTy Tryz.prog 67 72 12 96 := ⟨by kernel_rfl, by kernel_rfl, rfl⟩
theorem slt27 : SlTy Tryz.prog 27 26 6 := ⟨by kernel_rfl, by kernel_rfl⟩
theorem ty55 : Ty Tryz.prog 55 3 true := ⟨by kernel_rfl⟩
theorem ty126 : Ty Tryz.prog 126 1 false := ⟨by kernel_rfl⟩
theorem ty128 : Ty Tryz.prog 128 41 true := ⟨by kernel_rfl⟩
theorem zero26 : Zero Tryz.prog 26 (cAct Act.zero) := ⟨by kernel_rfl⟩
theorem zero67 : Zero Tryz.prog 67 [.slice none 0 0] := ⟨by kernel_rfl⟩
theorem zero128 : Zero Tryz.prog 128 (cLks Lks.zero) := ⟨by kernel_rfl⟩
def shift_Check (s : Shf) (rows : Int) : Int :=
 (bif ((((((((decide (rows < 1)) || (decide ((40 : Int) < rows))) || (decide (s.top < 0))) || (decide (s.bottom < s.top))) || (decide (rows ≤ s.bottom))) || (decide (s.amt = 0))) || (decide (s.amt < (s.top - s.bottom)))) || (decide ((s.bottom - s.top) < s.amt))) then 2 else 0)

theorem shift_Check_ok {s : Shf} {rows : Int} (h : shift_Check s rows = 0) : (1 ≤ rows ∧ rows ≤ 40) ∧ (0 ≤ s.top ∧ s.top ≤ s.bottom ∧ s.bottom < rows) ∧ s.amt ≠ 0 ∧ s.top - s.bottom ≤ s.amt ∧ s.amt ≤ s.bottom - s.top := by
 unfold shift_Check at h
 generalize hc : ((((((((decide (rows < 1)) || (decide ((40 : Int) < rows))) || (decide (s.top < 0))) || (decide (s.bottom < s.top))) || (decide (rows ≤ s.bottom))) || (decide (s.amt = 0))) || (decide (s.amt < (s.top - s.bottom)))) || (decide ((s.bottom - s.top) < s.amt))) = c at h
 cases c with
 | true => simp at h
 | false =>
  simp only [Bool.or_eq_false_iff, decide_eq_false_iff_not] at hc
  omega

theorem shift_Check_c (s : Shf) (rows : Int) (R : Int) (hR : shift_Check s rows = R) : ConV Tryz.prog 28 [ag (cShf s), iv rows] [] (iv R) := by
 refine con_of_J (n := 54) Tryz.func28 rfl (by kernel_rfl) rfl rfl [(0, ag (cShf s)), (1, iv rows)] ⟨rfl, rfl, trivial⟩ fun X hX hr hD => ?_
 replace hR := (shift_Check.eq_1 ..).symm.trans hR
 refine sr 2 rfl ?_
 refine it rfl (tri_box (cs := cShf s) rfl rfl rfl) fun b1 => ?_
 refine ip 1 0 [] (by kernel_rfl) ?_
 refine ie ?_
 refine J_seq ?_
 refine sr 49 rfl ?_
 refine ip 3 46 [(7, bv (decide (rows < 1)))] (by kernel_rfl) ?_
 refine ior 3 43 7 10 (decide ((40 : Int) < rows)) rfl (by kernel_rfl) (fun g2 => ?_) ?_
 ·have g2p : ¬ (rows < 1) := by simpa using g2
  refine ip 3 0 [(10, bv (decide ((40 : Int) < rows)))] (by kernel_rfl) ?_
  exact JI_end (armI 2 7 10 g2 Foll.nil (mk [true] rfl) rfl rfl rfl rfl rfl)
 refine ip 1 42 [(11, bv ((decide (rows < 1)) || (decide ((40 : Int) < rows))))] (by kernel_rfl) ?_
 refine ior 4 38 11 15 (decide (s.top < 0)) rfl (by kernel_rfl) (fun g3 => ?_) ?_
 ·have g3p : ¬ ((rows < 1) ∨ ((40 : Int) < rows)) := by simpa using g3
  refine ip 1 3 [(12, pt b1 0)] (by kernel_rfl) ?_
  refine ix rfl (det_own_one (v := iv s.top) ty3 rfl rfl 0 rfl rfl) ?_
  refine ip 2 0 [(15, bv (decide (s.top < 0)))] (by kernel_rfl) ?_
  exact JI_end (armI 4 11 15 g3 Foll.nil (mk [true] rfl) rfl rfl rfl rfl rfl)
 refine ip 1 37 [(16, bv (((decide (rows < 1)) || (decide ((40 : Int) < rows))) || (decide (s.top < 0))))] (by kernel_rfl) ?_
 refine ior 6 31 16 22 (decide (s.bottom < s.top)) rfl (by kernel_rfl) (fun g4 => ?_) ?_
 ·have g4p : ¬ (((rows < 1) ∨ ((40 : Int) < rows)) ∨ (s.top < 0)) := by simpa using g4
  refine ip 1 5 [(17, pt b1 0)] (by kernel_rfl) ?_
  refine ix rfl (det_own_one (v := iv s.top) ty3 rfl rfl 0 rfl rfl) ?_
  refine ip 1 3 [(19, pt b1 1)] (by kernel_rfl) ?_
  refine ix rfl (det_own_one (v := iv s.bottom) ty3 rfl rfl 0 rfl rfl) ?_
  refine ip 2 0 [(22, bv (decide (s.bottom < s.top)))] (by kernel_rfl) ?_
  exact JI_end (armI 6 16 22 g4 Foll.nil (mk [true] rfl) rfl rfl rfl rfl rfl)
 refine ip 1 30 [(23, bv ((((decide (rows < 1)) || (decide ((40 : Int) < rows))) || (decide (s.top < 0))) || (decide (s.bottom < s.top))))] (by kernel_rfl) ?_
 refine ior 5 25 23 28 (decide (rows ≤ s.bottom)) rfl (by kernel_rfl) (fun g5 => ?_) ?_
 ·have g5p : ¬ ((((rows < 1) ∨ ((40 : Int) < rows)) ∨ (s.top < 0)) ∨ (s.bottom < s.top)) := by simpa using g5
  refine ip 1 4 [(24, pt b1 1)] (by kernel_rfl) ?_
  refine ix rfl (det_own_one (v := iv s.bottom) ty3 rfl rfl 0 rfl rfl) ?_
  refine ip 3 0 [(28, bv (decide (rows ≤ s.bottom)))] (by kernel_rfl) ?_
  exact JI_end (armI 4 23 28 g5 Foll.nil (mk [true] rfl) rfl rfl rfl rfl rfl)
 refine ip 1 24 [(29, bv (((((decide (rows < 1)) || (decide ((40 : Int) < rows))) || (decide (s.top < 0))) || (decide (s.bottom < s.top))) || (decide (rows ≤ s.bottom))))] (by kernel_rfl) ?_
 refine ior 4 20 29 33 (decide (s.amt = 0)) rfl (by kernel_rfl) (fun g6 => ?_) ?_
 ·have g6p : ¬ (((((rows < 1) ∨ ((40 : Int) < rows)) ∨ (s.top < 0)) ∨ (s.bottom < s.top)) ∨ (rows ≤ s.bottom)) := by simpa using g6
  refine ip 1 3 [(30, pt b1 2)] (by kernel_rfl) ?_
  refine ix rfl (det_own_one (v := iv s.amt) ty3 rfl rfl 0 rfl rfl) ?_
  refine ip 2 0 [(33, bv (decide (s.amt = 0)))] (by kernel_rfl) ?_
  exact JI_end (armI 4 29 33 g6 Foll.nil (mk [true] rfl) rfl rfl rfl rfl rfl)
 refine ip 1 19 [(34, bv ((((((decide (rows < 1)) || (decide ((40 : Int) < rows))) || (decide (s.top < 0))) || (decide (s.bottom < s.top))) || (decide (rows ≤ s.bottom))) || (decide (s.amt = 0))))] (by kernel_rfl) ?_
 refine ior 9 10 34 43 (decide (s.amt < (s.top - s.bottom))) rfl (by kernel_rfl) (fun g7 => ?_) ?_
 ·have g7p : ¬ ((((((rows < 1) ∨ ((40 : Int) < rows)) ∨ (s.top < 0)) ∨ (s.bottom < s.top)) ∨ (rows ≤ s.bottom)) ∨ (s.amt = 0)) := by simpa using g7
  refine ip 1 8 [(35, pt b1 2)] (by kernel_rfl) ?_
  refine ix rfl (det_own_one (v := iv s.amt) ty3 rfl rfl 0 rfl rfl) ?_
  refine ip 1 6 [(37, pt b1 0)] (by kernel_rfl) ?_
  refine ix rfl (det_own_one (v := iv s.top) ty3 rfl rfl 0 rfl rfl) ?_
  refine ip 1 4 [(39, pt b1 1)] (by kernel_rfl) ?_
  refine ix rfl (det_own_one (v := iv s.bottom) ty3 rfl rfl 0 rfl rfl) ?_
  refine ix rfl (det_sub64 rfl rfl rfl rfl (by omega)) ?_
  refine ip 2 0 [(43, bv (decide (s.amt < (s.top - s.bottom))))] (by kernel_rfl) ?_
  exact JI_end (armI 9 34 43 g7 Foll.nil (mk [true] rfl) rfl rfl rfl rfl rfl)
 refine ip 1 9 [(44, bv (((((((decide (rows < 1)) || (decide ((40 : Int) < rows))) || (decide (s.top < 0))) || (decide (s.bottom < s.top))) || (decide (rows ≤ s.bottom))) || (decide (s.amt = 0))) || (decide (s.amt < (s.top - s.bottom)))))] (by kernel_rfl) ?_
 refine ior 9 0 44 53 (decide ((s.bottom - s.top) < s.amt)) rfl (by kernel_rfl) (fun g8 => ?_) ?_
 ·have g8p : ¬ (((((((rows < 1) ∨ ((40 : Int) < rows)) ∨ (s.top < 0)) ∨ (s.bottom < s.top)) ∨ (rows ≤ s.bottom)) ∨ (s.amt = 0)) ∨ (s.amt < (s.top - s.bottom))) := by simpa using g8
  refine ip 1 8 [(45, pt b1 2)] (by kernel_rfl) ?_
  refine ix rfl (det_own_one (v := iv s.amt) ty3 rfl rfl 0 rfl rfl) ?_
  refine ip 1 6 [(47, pt b1 1)] (by kernel_rfl) ?_
  refine ix rfl (det_own_one (v := iv s.bottom) ty3 rfl rfl 0 rfl rfl) ?_
  refine ip 1 4 [(49, pt b1 0)] (by kernel_rfl) ?_
  refine ix rfl (det_own_one (v := iv s.top) ty3 rfl rfl 0 rfl rfl) ?_
  refine ix rfl (det_sub64 rfl rfl rfl rfl (by omega)) ?_
  refine ip 2 0 [(53, bv (decide ((s.bottom - s.top) < s.amt)))] (by kernel_rfl) ?_
  exact JI_end (armI 9 44 53 g8 Foll.nil (mk [true] rfl) rfl rfl rfl rfl rfl)
 refine ie ?_
 refine J_if rfl (fun h9 => ?_) (fun h9 => ?_)
 ·have h9p : (((((((rows < 1) ∨ ((40 : Int) < rows)) ∨ (s.top < 0)) ∨ (s.bottom < s.top)) ∨ (rows ≤ s.bottom)) ∨ (s.amt = 0)) ∨ (s.amt < (s.top - s.bottom))) ∨ ((s.bottom - s.top) < s.amt) := by simpa using h9
  replace hR := bt hR h9
  refine sr 1 rfl ?_
  refine ip 1 0 [(4, iv 2)] (by kernel_rfl) ?_
  refine ie ?_
  refine J_ret ?_
  subst hR
  exact ends_ret rfl ⟨hr, hD⟩ (by simp [hD]) (res1 rfl (resV_tmp rfl)) () (by rfl) (mk [false] rfl) Foll.nil
 ·have h9p : ¬ ((((((((rows < 1) ∨ ((40 : Int) < rows)) ∨ (s.top < 0)) ∨ (s.bottom < s.top)) ∨ (rows ≤ s.bottom)) ∨ (s.amt = 0)) ∨ (s.amt < (s.top - s.bottom))) ∨ ((s.bottom - s.top) < s.amt)) := by simpa using h9
  replace hR := bf hR h9
  refine J_skip ?_
  refine nx ?_
  refine sr 1 rfl ?_
  refine ip 1 0 [(4, iv 0)] (by kernel_rfl) ?_
  refine ie ?_
  refine J_ret ?_
  subst hR
  exact ends_ret rfl ⟨hr, hD⟩ (by simp [hD]) (res1 rfl (resV_tmp rfl)) () (by rfl) (mk [false] rfl) Foll.nil

def shift_source (s : Shf) (r : Int) : Int :=
 (bif ((decide (r < s.top)) || (decide (s.bottom < r))) then r else (bif ((decide (s.top ≤ (r + s.amt))) && (decide ((r + s.amt) ≤ s.bottom))) then (r + s.amt) else (-1)))

theorem shift_source_le (s : Shf) (r : Int) : (-1 ≤ r → 0 ≤ s.top → -1 ≤ shift_source s r) ∧ ∀ n : Int, 0 ≤ n → r < n → s.bottom < n → shift_source s r < n := by
 unfold shift_source
 simp only [Bool.cond_eq_ite, Bool.or_eq_true, Bool.and_eq_true, decide_eq_true_eq]
 refine ⟨fun h1 h2 => ?_, fun n h0 h1 h2 => ?_⟩ <;> repeat' split
 all_goals omega

theorem shift_source_c (s : Shf) (r : Int) (hb : -40 ≤ s.amt ∧ s.amt ≤ 40) (hr : -1 ≤ r ∧ r ≤ 80) (R : Int) (hR : shift_source s r = R) : ConV Tryz.prog 66 [ag (cShf s), iv r] [] (iv R) := by
 refine con_of_J (n := 34) Tryz.func66 rfl (by kernel_rfl) rfl rfl [(0, ag (cShf s)), (1, iv r)] ⟨rfl, rfl, trivial⟩ fun X hX hr hD => ?_
 replace hR := (shift_source.eq_1 ..).symm.trans hR
 refine sr 2 rfl ?_
 refine it rfl (tri_box (cs := cShf s) rfl rfl rfl) fun b1 => ?_
 refine ip 1 0 [] (by kernel_rfl) ?_
 refine ie ?_
 refine J_seq ?_
 refine sr 5 rfl ?_
 refine ip 2 3 [(6, iv r), (7, pt b1 2)] (by kernel_rfl) ?_
 refine ix rfl (det_own_one (v := iv s.amt) ty3 rfl rfl 0 rfl rfl) ?_
 refine ix rfl (det_add64 rfl rfl rfl rfl (by omega)) ?_
 refine ip 1 0 [(5, iv (r + s.amt))] (by kernel_rfl) ?_
 refine ie ?_
 refine J_block ?_
 refine sr 11 rfl ?_
 refine ip 2 9 [(11, iv r), (12, pt b1 0)] (by kernel_rfl) ?_
 refine ix rfl (det_own_one (v := iv s.top) ty3 rfl rfl 0 rfl rfl) ?_
 refine ip 2 6 [(15, bv (decide (r < s.top)))] (by kernel_rfl) ?_
 refine ior 5 1 15 20 (decide (s.bottom < r)) rfl (by kernel_rfl) (fun g2 => ?_) ?_
 ·have g2p : ¬ (r < s.top) := by simpa using g2
  refine ip 2 3 [(16, iv r), (17, pt b1 1)] (by kernel_rfl) ?_
  refine ix rfl (det_own_one (v := iv s.bottom) ty3 rfl rfl 0 rfl rfl) ?_
  refine ip 2 0 [(20, bv (decide (s.bottom < r)))] (by kernel_rfl) ?_
  exact JI_end (armI 5 15 20 g2 Foll.nil (mk [true] rfl) rfl rfl rfl rfl rfl)
 refine ip 1 0 [(10, bv ((decide (r < s.top)) || (decide (s.bottom < r))))] (by kernel_rfl) ?_
 refine ie ?_
 refine J_if rfl (fun h3 => ?_) (fun h3 => ?_)
 ·have h3p : (r < s.top) ∨ (s.bottom < r) := by simpa using h3
  replace hR := bt hR h3
  refine sr 2 rfl ?_
  refine ip 2 0 [(4, iv r)] (by kernel_rfl) ?_
  refine ie ?_
  refine J_ret ?_
  subst hR
  exact ends_ret rfl ⟨hr, hD⟩ (by simp [hD]) (res1 rfl (resV_tmp rfl)) () (by rfl) (mk [false] rfl) Foll.nil
 ·have h3p : ¬ ((r < s.top) ∨ (s.bottom < r)) := by simpa using h3
  replace hR := bf hR h3
  refine sr 11 rfl ?_
  refine ip 2 9 [(23, iv (r + s.amt)), (24, pt b1 0)] (by kernel_rfl) ?_
  refine ix rfl (det_own_one (v := iv s.top) ty3 rfl rfl 0 rfl rfl) ?_
  refine ip 2 6 [(27, bv (decide (s.top ≤ (r + s.amt))))] (by kernel_rfl) ?_
  refine iand 5 1 27 32 (decide ((r + s.amt) ≤ s.bottom)) rfl (by kernel_rfl) (fun g4 => ?_) ?_
  ·have g4p : s.top ≤ (r + s.amt) := by simpa using g4
   refine ip 2 3 [(28, iv (r + s.amt)), (29, pt b1 1)] (by kernel_rfl) ?_
   refine ix rfl (det_own_one (v := iv s.bottom) ty3 rfl rfl 0 rfl rfl) ?_
   refine ip 2 0 [(32, bv (decide ((r + s.amt) ≤ s.bottom)))] (by kernel_rfl) ?_
   exact JI_end (armI 5 27 32 g4 Foll.nil (mk [true] rfl) rfl rfl rfl rfl rfl)
  refine ip 1 0 [(22, bv ((decide (s.top ≤ (r + s.amt))) && (decide ((r + s.amt) ≤ s.bottom))))] (by kernel_rfl) ?_
  refine ie ?_
  refine J_if rfl (fun h5 => ?_) (fun h5 => ?_)
  ·have h5p : (s.top ≤ (r + s.amt)) ∧ ((r + s.amt) ≤ s.bottom) := by simpa using h5
   replace hR := bt hR h5
   refine sr 2 rfl ?_
   refine ip 2 0 [(4, iv (r + s.amt))] (by kernel_rfl) ?_
   refine ie ?_
   refine J_ret ?_
   subst hR
   exact ends_ret rfl ⟨hr, hD⟩ (by simp [hD]) (res1 rfl (resV_tmp rfl)) () (by rfl) (mk [false] rfl) Foll.nil
  ·have h5p : ¬ ((s.top ≤ (r + s.amt)) ∧ ((r + s.amt) ≤ s.bottom)) := by simpa using h5
   replace hR := bf hR h5
   refine J_skip ?_
   refine nx ?_
   refine sr 1 rfl ?_
   refine ip 1 0 [(4, iv (-1))] (by kernel_rfl) ?_
   refine ie ?_
   refine J_ret ?_
   subst hR
   exact ends_ret rfl ⟨hr, hD⟩ (by simp [hD]) (res1 rfl (resV_tmp rfl)) () (by rfl) (mk [false] rfl) Foll.nil

def shift_plain_l0 (cols : Int) : Nat → List Cel → Nat → List Cel
 | 0, _, _ => []
 | fu1 + 1, out, t9 => (bif (decide ((t9 : Int) < ((List.replicate ((cols).toNat) Cel.zero).length : Int))) then shift_plain_l0 cols fu1 (out.set t9 ({ (out.getD t9 Cel.zero) with base := 32 })) (t9 + 1) else out)
def shift_plain (cols : Int) : List Cel :=
 shift_plain_l0 cols (((List.replicate ((cols).toNat) Cel.zero).length - 0) + 1) (List.replicate ((cols).toNat) Cel.zero) 0

theorem setD {α : Type} {l : List α} {d x : α} {i j : Nat} (hi : i < l.length) : (l.set i x).getD j d = if j = i then x else l.getD j d := by
 by_cases e : j = i
 ·subst e; rw [if_pos rfl, List.getD_eq_getElem?_getD, List.getElem?_set_self hi]; rfl
 ·rw [if_neg e, List.getD_eq_getElem?_getD, List.getElem?_set_ne (by omega), List.getD_eq_getElem?_getD]
theorem shift_plain_l0_all (cols : Int) (n : Nat) (hn : (List.replicate cols.toNat Cel.zero).length = n) : ∀ (fu : Nat) (out : List Cel) (t : Nat), n - t < fu → out.length = n → (shift_plain_l0 cols fu out t).length = n ∧ ∀ i, i < n → (shift_plain_l0 cols fu out t).getD i Cel.zero = if t ≤ i then { out.getD i Cel.zero with base := 32 } else out.getD i Cel.zero
 | 0, out, t, h, _ => by omega
 | fu + 1, out, t, h, ho => by
  simp only [shift_plain_l0]
  by_cases c : (t : Int) < ((List.replicate cols.toNat Cel.zero).length : Int)
  ·rw [decide_eq_true c, cond_true]
   obtain ⟨h1, h2⟩ := shift_plain_l0_all cols n hn fu (out.set t { (out.getD t Cel.zero) with base := 32 }) (t + 1) (by omega) (by rw [List.length_set]; exact ho)
   refine ⟨h1, fun i hi => ?_⟩
   rw [h2 i hi, setD (by omega)]
   by_cases e : i = t
   ·subst e; rw [if_neg (by omega), if_pos rfl, if_pos (Nat.le_refl _)]
   ·rw [if_neg e]
    by_cases e2 : t ≤ i
    ·rw [if_pos (by omega), if_pos e2]
    ·rw [if_neg (by omega), if_neg e2]
  ·rw [decide_eq_false c, cond_false]
   exact ⟨ho, fun i hi => by rw [if_neg (by omega)]⟩
theorem shift_plain_len (cols : Int) : (shift_plain cols).length = cols.toNat := by
 have := (shift_plain_l0_all cols cols.toNat (by simp) ((List.replicate cols.toNat Cel.zero).length - 0 + 1) (List.replicate cols.toNat Cel.zero) 0 (by simp) (by simp)).1
 exact this
theorem shift_plain_get (cols : Int) (i : Nat) (hi : i < cols.toNat) : (shift_plain cols).getD i Cel.zero = { Cel.zero with base := 32 } := by
 have := (shift_plain_l0_all cols cols.toNat (by simp) ((List.replicate cols.toNat Cel.zero).length - 0 + 1) (List.replicate cols.toNat Cel.zero) 0 (by simp) (by simp)).2 i hi
 rw [if_pos (Nat.zero_le _)] at this
 refine Eq.trans this ?_
 rw [List.getD_eq_getElem?_getD, List.getElem?_replicate, if_pos hi]; rfl

theorem shift_plain_c (cols : Int) (hc : 0 ≤ cols ∧ cols ≤ 80) (R : List Cel) (hR : shift_plain cols = R) : Con Tryz.prog 67 [iv cols] [] [] ({r : VR // VOk 12 R.length r}) (fun x => .slice (va x.1.q) R.length x.1.k) (fun x => ((vo cCel 72 x.1 R) ++ ([]))) (fun x => []) := by
 refine con_of_J (n := 18) Tryz.func67 rfl (by kernel_rfl) rfl rfl [(0, iv cols)] ⟨rfl, trivial⟩ fun X hX hr hD => ?_
 replace hR := (shift_plain.eq_1 ..).symm.trans hR
 refine sr 1 rfl ?_
 refine ip 1 0 [] (by kernel_rfl) ?_
 refine ie ?_
 refine sr 3 rfl ?_
 refine ip 1 2 [(5, iv cols)] (by kernel_rfl) ?_
 refine it rfl (tri_make (f := cCel) (l := (cols).toNat) (c := (cols).toNat) Cel.zero apt67 zero72.ok (fun _ => rfl) rfl (by exact congrArg (fun z => some (Value.int .i64 z)) (show cols = (((cols).toNat : Nat) : Int) by omega)) (by exact congrArg (fun z => some (Value.int .i64 z)) (show cols = (((cols).toNat : Nat) : Int) by omega)) (by omega) (by first | omega | (simp <;> omega)) (by omega)) fun ⟨r1, hr2⟩ => ?_
 have : (List.replicate ((cols).toNat) Cel.zero).length = ((cols).toNat) := List.length_replicate
 have := VOk.le hr2
 have := VOk.cap hr2
 have : (List.replicate ((cols).toNat) Cel.zero).length = ((cols).toNat) := List.length_replicate
 refine ip 1 0 [(3, .slice (va r1.q) ((List.replicate ((cols).toNat) Cel.zero).length) r1.k)] (by kernel_rfl) ?_
 refine ie ?_
 refine J_seq ?_
 refine sr 3 rfl ?_
 refine ip 3 0 [(8, iv ((List.replicate ((cols).toNat) Cel.zero).length : Int)), (9, iv 0)] (by kernel_rfl) ?_
 refine ie ?_
 refine J_block ?_
 refine JL4 (fun (fu : Nat) (out : List Cel) (outr : VR) (t9 : Nat) => ((List.replicate ((cols).toNat) Cel.zero).length - t9) < fu ∧ shift_plain_l0 cols fu out t9 = R ∧ VOk 12 out.length outr ∧ out.length = cols.toNat) (fun (fu : Nat) (out : List Cel) (outr : VR) (t9 : Nat) => [(3, .slice (va outr.q) out.length outr.k), (8, iv ((List.replicate ((cols).toNat) Cel.zero).length : Int)), (9, iv (t9 : Int))]) (fun (fu : Nat) (out : List Cel) (outr : VR) (t9 : Nat) => ((vo cCel 72 outr out) ++ ([]))) (fun (fu : Nat) (out : List Cel) (outr : VR) (t9 : Nat) => []) (fun (fu : Nat) (out : List Cel) (outr : VR) (t9 : Nat) => fu) (((List.replicate ((cols).toNat) Cel.zero).length - 0) + 1) (List.replicate ((cols).toNat) Cel.zero) r1 0 ⟨(Nat.lt_succ_self _), hR, hr2, (by simp)⟩ ⟨(by first | rfl | (simp only [List.length_set]; rfl) | (simp; done) | (simp; omega)), rfl, (by first | rfl | (simp only [List.length_set]; rfl) | (simp; done) | (simp; omega)), trivial⟩ (mc [vo cCel 72 r1 (List.replicate ((cols).toNat) Cel.zero)] [true] rfl (by first | rfl | (simp only [List.length_set] <;> rfl))) Foll.nil ?_
 rintro fu out outr t9 ⟨hm3, hR, hokoutr, hol⟩
 have := VOk.le hokoutr
 obtain ⟨fu1, rfl⟩ : ∃ m, fu = m + 1 := ⟨fu - 1, by omega⟩
 replace hR := (shift_plain_l0.eq_2 ..).symm.trans hR
 refine sr 1 rfl ?_
 refine ip 1 0 [(10, bv (decide ((t9 : Int) < ((List.replicate ((cols).toNat) Cel.zero).length : Int))))] (by kernel_rfl) ?_
 refine ie ?_
 refine J_seq ?_
 refine J_if rfl (fun h4 => ?_) (fun h4 => ?_)
 ·have h4p : (t9 : Int) < ((List.replicate ((cols).toNat) Cel.zero).length : Int) := by simpa using h4
  replace hR := bt hR h4
  refine J_skip ?_
  refine nx ?_
  refine J_seq ?_
  refine J_block ?_
  refine sr 2 rfl ?_
  refine ip 2 0 [(4, iv (t9 : Int))] (by kernel_rfl) ?_
  refine ie ?_
  refine J_region 5 rfl ?_
  refine ip 2 3 [(12, .slice (va outr.q) out.length outr.k), (13, iv (t9 : Int))] (by kernel_rfl) ?_
  obtain ⟨b5, hb6⟩ := VOk.some hokoutr (by omega)
  obtain ⟨q7, k8, j9⟩ := outr
  obtain rfl : q7 = some b5 := hb6
  refine ix rfl (det_ix_vec slt67 rfl rfl rfl t9 rfl (by omega)) ?_
  refine ip 1 1 [(15, .pointer (some ⟨b5, t9 * 12, none⟩))] (by kernel_rfl) ?_
  refine it rfl (tri_vec_store (us := [iv 32]) (u' := { (out.getD t9 Cel.zero) with base := 32 }) (c := cCel) (sz := 12) ty3 (fun _ => rfl) rfl rfl rfl 0 rfl rfl rfl rfl t9 0 rfl (gd Cel.zero (by omega)) rfl rfl) fun _ => ?_
  refine JI_end ?_
  refine nx ?_
  refine J_region 2 rfl ?_
  refine ix rfl (det_add64 rfl rfl rfl rfl (by omega)) ?_
  refine ip 1 0 [(9, iv ((t9 : Int) + 1))] (by kernel_rfl) ?_
  refine JI_end ?_
  exact againL4 (z1 := (fu1 + 1)) (z2 := out) (z3 := (⟨some b5, k8, j9⟩ : VR)) (z4 := t9) fu1 (out.set t9 ({ (out.getD t9 Cel.zero) with base := 32 })) (⟨some b5, k8, j9⟩ : VR) (t9 + 1) ⟨(by omega), hR, (VOk.cast hokoutr (by simp)), (by first | omega | (simp <;> omega))⟩ (Nat.lt_succ_self _) ⟨(by first | rfl | (simp only [List.length_set]; rfl) | (simp; done) | (simp; omega)), rfl, (by first | rfl | (simp only [List.length_set]; rfl) | (simp; done) | (simp; omega)), trivial⟩ (mc [vo cCel 72 (⟨some b5, k8, j9⟩ : VR) (out.set t9 ({ (out.getD t9 Cel.zero) with base := 32 }))] [true] rfl (by first | rfl | (simp only [List.length_set] <;> rfl))) Foll.nil
 ·have h4p : ¬ ((t9 : Int) < ((List.replicate ((cols).toNat) Cel.zero).length : Int)) := by simpa using h4
  replace hR := bf hR h4
  refine J_exit ?_
  refine nx ?_
  refine sr 2 rfl ?_
  refine ip 2 0 [(2, .slice (va outr.q) out.length outr.k)] (by kernel_rfl) ?_
  refine ie ?_
  refine J_ret ?_
  subst hR
  exact ends_ret rfl ⟨hr, hD⟩ (by simp [hD]) (res1 rfl (resV_tmp rfl)) ⟨outr, hokoutr⟩ (by rfl) (mc [vo cCel 72 outr out] [true] rfl (by first | rfl | (simp only [List.length_set] <;> rfl))) Foll.nil

def shift_Done_l0 (fC : Int) (fR : List (List Cel)) (fU : Plc) (fV : Bool) (fS : Int) (fT : List UInt8) (s : Shf) : List (List Cel) → Nat → List (List Cel) → (Int × List (List Cel) × Int × Int × Bool × Int × List UInt8 × Int)
 | [], t35, outRows => (fC, outRows, fU.row, fU.col, fV, fS, fT, 0)
 | hd_l0 :: tl_l0, t35, outRows => (bif (decide ((0 : Int) ≤ (shift_source s (t35 : Int)))) then shift_Done_l0 fC fR fU fV fS fT s tl_l0 (t35 + 1) (outRows.set t35 (fR.getD ((shift_source s (t35 : Int)).toNat) [])) else (bindV (shift_plain fC) fun (y0 : List Cel) => shift_Done_l0 fC fR fU fV fS fT s tl_l0 (t35 + 1) (outRows.set t35 y0)))
def shift_Done (fC : Int) (fR : List (List Cel)) (fU : Plc) (fV : Bool) (fS : Int) (fT : List UInt8) (s : Shf) : Int × List (List Cel) × Int × Int × Bool × Int × List UInt8 × Int :=
 (bif (!decide ((frame_Check fC fR fU fV fS fT) = 0)) then (0, ([] : List (List Cel)), 0, 0, false, 0, ([] : List UInt8), (frame_Check fC fR fU fV fS fT)) else (bif (!decide ((shift_Check s (fR.length : Int)) = 0)) then (0, ([] : List (List Cel)), 0, 0, false, 0, ([] : List UInt8), (shift_Check s (fR.length : Int))) else shift_Done_l0 fC fR fU fV fS fT s fR 0 (List.replicate fR.length ([] : List Cel))))

def shRow (fC : Int) (fR : List (List Cel)) (s : Shf) (r : Nat) : List Cel := if 0 ≤ shift_source s (r : Int) then fR.getD (shift_source s (r : Int)).toNat [] else shift_plain fC
theorem shift_Done_l0_all (fC : Int) (fR : List (List Cel)) (fU : Plc) (fV : Bool) (fS : Int) (fT : List UInt8) (s : Shf) : ∀ (rows : List (List Cel)) (t : Nat) (out : List (List Cel)), t + rows.length = out.length →
  ∃ o, shift_Done_l0 fC fR fU fV fS fT s rows t out = (fC, o, fU.row, fU.col, fV, fS, fT, 0) ∧ o.length = out.length ∧ ∀ r, r < out.length → o.getD r [] = if t ≤ r then shRow fC fR s r else out.getD r []
 | [], t, out, h => ⟨out, rfl, rfl, fun r hr => by rw [if_neg (by simp only [List.length_nil] at h; omega)]⟩
 | x :: rows, t, out, h => by
  simp only [List.length_cons] at h
  have key : shift_Done_l0 fC fR fU fV fS fT s (x :: rows) t out = shift_Done_l0 fC fR fU fV fS fT s rows (t + 1) (out.set t (shRow fC fR s t)) := by
   simp only [shift_Done_l0, shRow, bindV]
   by_cases c : 0 ≤ shift_source s (t : Int)
   ·rw [decide_eq_true c, cond_true, if_pos c]
   ·rw [decide_eq_false c, cond_false, if_neg c]
  obtain ⟨o, h1, h2, h3⟩ := shift_Done_l0_all fC fR fU fV fS fT s rows (t + 1) (out.set t (shRow fC fR s t)) (by rw [List.length_set]; omega)
  refine ⟨o, key.trans h1, by rw [h2, List.length_set], fun r hr => ?_⟩
  rw [h3 r (by rw [List.length_set]; exact hr), setD (by omega)]
  by_cases e : r = t
  ·subst e; rw [if_neg (by omega), if_pos rfl, if_pos (Nat.le_refl _)]
  ·rw [if_neg e]
   by_cases e2 : t ≤ r
   ·rw [if_pos (by omega), if_pos e2]
   ·rw [if_neg (by omega), if_neg e2]
theorem shift_Done_title (fC : Int) (fR : List (List Cel)) (fU : Plc) (fV : Bool) (fS : Int) (fT : List UInt8) (s : Shf) : (shift_Done fC fR fU fV fS fT s).2.2.2.2.2.2.1.length ≤ fT.length := by
 unfold shift_Done
 cases decide (frame_Check fC fR fU fV fS fT = 0) with
 | false => simp
 | true =>
  cases decide (shift_Check s (fR.length : Int) = 0) with
  | false => simp
  | true =>
   obtain ⟨o, g1, _⟩ := shift_Done_l0_all fC fR fU fV fS fT s fR 0 (List.replicate fR.length ([] : List Cel)) (by simp)
   simp only [Bool.not_true, cond_false, g1]; exact Nat.le_refl _

theorem shift_Done_c (fC : Int) (fR : List (List Cel)) (fU : Plc) (fV : Bool) (fS : Int) (fT : List UInt8) (s : Shf) (fQ : Option Addr) (fZ : List Slc) (fK : Nat) (hrowsfRowsrs : RowsOk fZ fR) (hlfRows : fR.length ≤ 9223372036854775807) (hcfRows : fR.length ≤ fK) (hT : fT.length ≤ 100000000) (R : Int × List (List Cel) × Int × Int × Bool × Int × List UInt8 × Int) (hR : shift_Done fC fR fU fV fS fT s = R) : Con Tryz.prog 30 [ag [iv fC, .slice fQ fR.length fK, iv fU.row, iv fU.col, bv fV, iv fS, sv fT], ag (cShf s)] [] [sl cSlc fQ fZ, rowsF cCel fZ fR, sl cSpn (some ⟨0, 0, none⟩) tab0, sl cSpn (some ⟨1, 0, none⟩) tab1] ({t : VR × List Slc // VOk 1 R.2.1.length t.1 ∧ RowsOk t.2 R.2.1}) (fun x => .tuple #[ag [iv R.1, .slice (va x.1.1.q) R.2.1.length x.1.1.k, iv R.2.2.1, iv R.2.2.2.1, bv R.2.2.2.2.1, iv R.2.2.2.2.2.1, sv R.2.2.2.2.2.2.1], iv R.2.2.2.2.2.2.2]) (fun x => ((vo cSlc 67 x.1.1 x.1.2) ++ ([]))) (fun x => [rowsF cCel x.1.2 R.2.1]) := by
 refine con_of_J (n := 61) Tryz.func30 rfl (by kernel_rfl) rfl rfl [(0, ag [iv fC, .slice fQ fR.length fK, iv fU.row, iv fU.col, bv fV, iv fS, sv fT]), (1, ag (cShf s))] ⟨rfl, rfl, trivial⟩ fun X hX hr hD => ?_
 replace hR := (shift_Done.eq_1 ..).symm.trans hR
 have := hrowsfRowsrs.1
 refine sr 4 rfl ?_
 refine it rfl (tri_box (cs := [iv fC, .slice fQ fR.length fK, iv fU.row, iv fU.col, bv fV, iv fS, sv fT]) rfl rfl rfl) fun b1 => ?_
 refine it rfl (tri_box (cs := cShf s) rfl rfl rfl) fun b2 => ?_
 refine it rfl (tri_alloc (cs := [iv 0, .slice none 0 0, iv 0, iv 0, bv false, iv 0, sv ([] : List UInt8)]) zero53 rfl) fun b3 => ?_
 refine ip 1 0 [] (by kernel_rfl) ?_
 refine ie ?_
 refine J_seq ?_
 refine sr 3 rfl ?_
 refine ix rfl (det_own_agg (us := [iv fC, .slice fQ fR.length fK, iv fU.row, iv fU.col, bv fV, iv fS, sv fT]) ty53 rfl rfl 2 rfl rfl rfl) ?_
 refine ixc rfl (det_call (frame_Check_c fC fR fU fV fS fT fQ fZ fK hrowsfRowsrs (by first | omega | (simp <;> omega) | (dsimp only; omega) | decide) (by first | omega | (simp <;> omega) | (dsimp only; omega) | decide) (by first | omega | (simp <;> omega)) _ rfl) rfl rfl rfl rfl rfl Foll.refl) ?_
 refine ip 1 0 [(6, iv (frame_Check fC fR fU fV fS fT))] (by kernel_rfl) ?_
 refine ie ?_
 refine sr 2 rfl ?_
 refine ip 2 0 [(14, bv (!decide ((frame_Check fC fR fU fV fS fT) = 0)))] (by kernel_rfl) ?_
 refine ie ?_
 refine J_if rfl (fun h4 => ?_) (fun h4 => ?_)
 ·have h4p : ¬ (frame_Check fC fR fU fV fS fT) = 0 := by simpa using h4
  replace hR := bt hR h4
  refine sr 4 rfl ?_
  refine ix rfl (det_build (cs := [iv 0, .slice none 0 0, iv 0, iv 0, bv false, iv 0, sv ([] : List UInt8)]) rfl rfl (by kernel_rfl)) ?_
  refine ip 1 2 [(16, iv (frame_Check fC fR fU fV fS fT))] (by kernel_rfl) ?_
  refine it rfl (tri_store (us := [iv 0, .slice none 0 0, iv 0, iv 0, bv false, iv 0, sv ([] : List UInt8)]) (cs' := [iv 0, .slice none 0 0, iv 0, iv 0, bv false, iv 0, sv ([] : List UInt8)]) ty53 rfl rfl rfl 0 rfl rfl rfl rfl rfl rfl) fun _ => ?_
  refine ip 1 0 [(5, iv (frame_Check fC fR fU fV fS fT))] (by kernel_rfl) ?_
  refine ie ?_
  refine J_ret ?_
  subst hR
  exact ends_ret rfl ⟨hr, hD⟩ (by simp [hD]) (res2 rfl (resV_cell (us := [iv 0, .slice none 0 0, iv 0, iv 0, bv false, iv 0, sv ([] : List UInt8)]) ty53 rfl 0 rfl rfl rfl) (resV_tmp rfl)) ⟨(VR.nil, ([] : List Slc)), ⟨VOk.nil, RowsOk.none⟩⟩ (by rfl) (mc [[bx b3 [iv 0, .slice none 0 0, iv 0, iv 0, bv false, iv 0, sv ([] : List UInt8)] 53], [bx b2 (cShf s) 55], [bx b1 [iv fC, .slice fQ fR.length fK, iv fU.row, iv fU.col, bv fV, iv fS, sv fT] 53], vo cSlc 67 VR.nil ([] : List Slc)] [false, false, false, true] rfl (by first | rfl | (simp only [List.length_set] <;> rfl))) (Foll.con1 rows_none Foll.nil)
 ·have h4p : ¬ (¬ (frame_Check fC fR fU fV fS fT) = 0) := by simpa using h4
  replace hR := bf hR h4
  have hfc := frame_Check_ok (by simpa using h4)
  have hfr := hfc.2.2.2.2
  refine J_skip ?_
  refine nx ?_
  refine J_seq ?_
  refine sr 6 rfl ?_
  refine ix rfl (det_own_agg (us := cShf s) ty55 rfl rfl 1 rfl rfl rfl) ?_
  refine ip 1 4 [(18, pt b1 1)] (by kernel_rfl) ?_
  refine ix rfl (det_own_one (v := .slice fQ fR.length fK) ty49 rfl rfl 2 rfl rfl) ?_
  refine ip 1 2 [(20, iv (fR.length : Int))] (by kernel_rfl) ?_
  refine ixc rfl (det_call (shift_Check_c s (fR.length : Int) _ rfl) rfl rfl rfl rfl rfl Foll.nil) ?_
  refine ip 1 0 [(7, iv (shift_Check s (fR.length : Int)))] (by kernel_rfl) ?_
  refine ie ?_
  refine sr 2 rfl ?_
  refine ip 2 0 [(23, bv (!decide ((shift_Check s (fR.length : Int)) = 0)))] (by kernel_rfl) ?_
  refine ie ?_
  refine J_if rfl (fun h5 => ?_) (fun h5 => ?_)
  ·have h5p : ¬ (shift_Check s (fR.length : Int)) = 0 := by simpa using h5
   replace hR := bt hR h5
   refine sr 4 rfl ?_
   refine ix rfl (det_build (cs := [iv 0, .slice none 0 0, iv 0, iv 0, bv false, iv 0, sv ([] : List UInt8)]) rfl rfl (by kernel_rfl)) ?_
   refine ip 1 2 [(25, iv (shift_Check s (fR.length : Int)))] (by kernel_rfl) ?_
   refine it rfl (tri_store (us := [iv 0, .slice none 0 0, iv 0, iv 0, bv false, iv 0, sv ([] : List UInt8)]) (cs' := [iv 0, .slice none 0 0, iv 0, iv 0, bv false, iv 0, sv ([] : List UInt8)]) ty53 rfl rfl rfl 0 rfl rfl rfl rfl rfl rfl) fun _ => ?_
   refine ip 1 0 [(5, iv (shift_Check s (fR.length : Int)))] (by kernel_rfl) ?_
   refine ie ?_
   refine J_ret ?_
   subst hR
   exact ends_ret rfl ⟨hr, hD⟩ (by simp [hD]) (res2 rfl (resV_cell (us := [iv 0, .slice none 0 0, iv 0, iv 0, bv false, iv 0, sv ([] : List UInt8)]) ty53 rfl 0 rfl rfl rfl) (resV_tmp rfl)) ⟨(VR.nil, ([] : List Slc)), ⟨VOk.nil, RowsOk.none⟩⟩ (by rfl) (mc [[bx b3 [iv 0, .slice none 0 0, iv 0, iv 0, bv false, iv 0, sv ([] : List UInt8)] 53], [bx b2 (cShf s) 55], [bx b1 [iv fC, .slice fQ fR.length fK, iv fU.row, iv fU.col, bv fV, iv fS, sv fT] 53], vo cSlc 67 VR.nil ([] : List Slc)] [false, false, false, true] rfl (by first | rfl | (simp only [List.length_set] <;> rfl))) (Foll.con1 rows_none Foll.nil)
  ·have h5p : ¬ (¬ (shift_Check s (fR.length : Int)) = 0) := by simpa using h5
   replace hR := bf hR h5
   have hsc := shift_Check_ok (by simpa using h5)
   refine J_skip ?_
   refine nx ?_
   refine sr 3 rfl ?_
   refine ix rfl (det_own_agg (us := [iv fC, .slice fQ fR.length fK, iv fU.row, iv fU.col, bv fV, iv fS, sv fT]) ty53 rfl rfl 2 rfl rfl rfl) ?_
   refine it rfl (tri_alloc (cs := [iv 0, .slice none 0 0, iv 0, iv 0, bv false, iv 0, sv ([] : List UInt8)]) zero53 rfl) fun b6 => ?_
   refine it rfl (tri_store (us := [iv fC, .slice fQ fR.length fK, iv fU.row, iv fU.col, bv fV, iv fS, sv fT]) (cs' := [iv fC, .slice fQ fR.length fK, iv fU.row, iv fU.col, bv fV, iv fS, sv fT]) ty53 rfl rfl rfl 0 rfl rfl rfl rfl rfl rfl) fun _ => ?_
   refine ie ?_
   refine sr 6 rfl ?_
   refine ip 1 5 [(27, pt b1 1)] (by kernel_rfl) ?_
   refine ix rfl (det_own_one (v := .slice fQ fR.length fK) ty49 rfl rfl 3 rfl rfl) ?_
   refine ip 1 3 [(29, iv (fR.length : Int))] (by kernel_rfl) ?_
   refine JI_fact1 (q := rowsF cCel (List.replicate fR.length (⟨none, 0, 0⟩ : Slc)) (List.replicate fR.length ([] : List Cel))) rows_rep ?_
   refine it rfl (tri_makeR (β := Cel) (l := fR.length) (c := fR.length) apt49 zero67.ok rfl rfl rfl (by omega) (by first | omega | (simp <;> omega)) (by omega)) fun ⟨r7, hr8⟩ => ?_
   have := VOk.le hr8
   have := VOk.cap hr8
   have : (List.replicate fR.length ([] : List Cel)).length = fR.length := List.length_replicate
   refine ip 1 1 [(31, pt b6 1)] (by kernel_rfl) ?_
   refine it rfl (tri_store (us := [.slice (va r7.q) ((List.replicate fR.length ([] : List Cel)).length) r7.k]) (cs' := [iv fC, .slice (va r7.q) ((List.replicate fR.length ([] : List Cel)).length) r7.k, iv fU.row, iv fU.col, bv fV, iv fS, sv fT]) ty49 rfl rfl rfl 0 rfl rfl rfl rfl rfl rfl) fun _ => ?_
   refine ie ?_
   refine J_seq ?_
   refine sr 4 rfl ?_
   refine ip 1 3 [(32, pt b1 1)] (by kernel_rfl) ?_
   refine ix rfl (det_own_one (v := .slice fQ fR.length fK) ty49 rfl rfl 3 rfl rfl) ?_
   refine ip 2 0 [(34, iv (fR.length : Int)), (35, iv 0)] (by kernel_rfl) ?_
   refine ie ?_
   refine J_block ?_
   refine JL4 (fun (t35 : Nat) (outRows : List (List Cel)) (outRowsr : VR) (outRowsrs : List Slc) => t35 ≤ fR.length ∧ shift_Done_l0 fC fR fU fV fS fT s (fR.drop t35) t35 outRows = R ∧ VOk 1 outRows.length outRowsr ∧ RowsOk outRowsrs outRows ∧ outRows.length = fR.length) (fun (t35 : Nat) (outRows : List (List Cel)) (outRowsr : VR) (outRowsrs : List Slc) => [(2, pt b1 0), (3, pt b2 0), (4, pt b3 0), (8, pt b6 0), (34, iv (fR.length : Int)), (35, iv (t35 : Int))]) (fun (t35 : Nat) (outRows : List (List Cel)) (outRowsr : VR) (outRowsrs : List Slc) => (bx b6 [iv fC, .slice (va outRowsr.q) outRows.length outRowsr.k, iv fU.row, iv fU.col, bv fV, iv fS, sv fT] 53 :: bx b3 [iv 0, .slice none 0 0, iv 0, iv 0, bv false, iv 0, sv ([] : List UInt8)] 53 :: bx b2 (cShf s) 55 :: bx b1 [iv fC, .slice fQ fR.length fK, iv fU.row, iv fU.col, bv fV, iv fS, sv fT] 53 :: (vo cSlc 67 outRowsr outRowsrs) ++ ([]))) (fun (t35 : Nat) (outRows : List (List Cel)) (outRowsr : VR) (outRowsrs : List Slc) => [rowsF cCel (List.replicate fR.length (⟨none, 0, 0⟩ : Slc)) (List.replicate fR.length ([] : List Cel)), sl cSlc fQ fZ, rowsF cCel fZ fR, sl cSpn (some ⟨0, 0, none⟩) tab0, sl cSpn (some ⟨1, 0, none⟩) tab1, rowsF cCel outRowsrs outRows]) (fun (t35 : Nat) (outRows : List (List Cel)) (outRowsr : VR) (outRowsrs : List Slc) => fR.length - t35) 0 (List.replicate fR.length ([] : List Cel)) r7 (List.replicate fR.length (⟨none, 0, 0⟩ : Slc)) ⟨(by omega), hR, hr8, (RowsOk.rep fR.length), (by first | omega | simp)⟩ ⟨rfl, rfl, rfl, rfl, rfl, (by first | rfl | (simp only [List.length_set]; rfl) | (simp; done) | (simp; omega)), trivial⟩ (mc [[bx b6 [iv fC, .slice (va r7.q) ((List.replicate fR.length ([] : List Cel)).length) r7.k, iv fU.row, iv fU.col, bv fV, iv fS, sv fT] 53], [bx b3 [iv 0, .slice none 0 0, iv 0, iv 0, bv false, iv 0, sv ([] : List UInt8)] 53], [bx b2 (cShf s) 55], [bx b1 [iv fC, .slice fQ fR.length fK, iv fU.row, iv fU.col, bv fV, iv fS, sv fT] 53], vo cSlc 67 r7 (List.replicate fR.length (⟨none, 0, 0⟩ : Slc))] [true, true, true, true, true] rfl (by first | rfl | (simp only [List.length_set] <;> rfl))) (Foll.pick [0, 1, 2, 3, 4, 0] rfl) ?_
   rintro t35 outRows outRowsr outRowsrs ⟨hm9, hR, hokoutRowsr, hrowsoutRowsrs, hol⟩
   have := VOk.le hokoutRowsr
   have := hrowsoutRowsrs.1
   refine sr 1 rfl ?_
   refine ip 1 0 [(36, bv (decide ((t35 : Int) < (fR.length : Int))))] (by kernel_rfl) ?_
   refine ie ?_
   refine J_seq ?_
   refine J_if rfl (fun h10 => ?_) (fun h10 => ?_)
   ·have h10p : (t35 : Int) < (fR.length : Int) := by simpa using h10
    rw [dropc [] (show t35 < fR.length by omega)] at hR; replace hR := (shift_Done_l0.eq_2 ..).symm.trans hR
    refine J_skip ?_
    refine nx ?_
    refine J_seq ?_
    refine J_block ?_
    refine sr 2 rfl ?_
    refine ip 2 0 [(9, iv (t35 : Int))] (by kernel_rfl) ?_
    refine ie ?_
    refine sr 4 rfl ?_
    refine ix rfl (det_own_agg (us := cShf s) ty55 rfl rfl 2 rfl rfl rfl) ?_
    refine ip 1 2 [(39, iv (t35 : Int))] (by kernel_rfl) ?_
    refine ixc rfl (det_call (shift_source_c s (t35 : Int) (by first | omega | (simp <;> omega)) (by first | omega | (simp <;> omega)) _ rfl) rfl rfl rfl rfl rfl Foll.nil) ?_
    have hsrc := shift_source_le s (t35 : Int)
    refine ip 1 0 [(10, iv (shift_source s (t35 : Int)))] (by kernel_rfl) ?_
    refine ie ?_
    refine sr 2 rfl ?_
    refine ip 2 0 [(42, bv (decide ((0 : Int) ≤ (shift_source s (t35 : Int)))))] (by kernel_rfl) ?_
    refine ie ?_
    refine J_if rfl (fun h11 => ?_) (fun h11 => ?_)
    ·have h11p : (0 : Int) ≤ (shift_source s (t35 : Int)) := by simpa using h11
     replace hR := bt hR h11
     have hsr2 := (shift_source_le s (t35 : Int)).2 fR.length (by omega) (by omega) (by omega)
     refine J_fact1 (rows_atD (k := (shift_source s (t35 : Int)).toNat) (d := (⟨none, 0, 0⟩ : Slc)) hrowsfRowsrs 2 rfl (by have := hrowsfRowsrs.1; omega)) ?_
     have := rows_cap hrowsfRowsrs (k := (shift_source s (t35 : Int)).toNat) (d := (⟨none, 0, 0⟩ : Slc)) (by have := hrowsfRowsrs.1; omega)
     refine J_fact1 (rows_atD (k := t35) (d := (⟨none, 0, 0⟩ : Slc)) hrowsoutRowsrs 6 rfl (by have := hrowsoutRowsrs.1; omega)) ?_
     have := rows_cap hrowsoutRowsrs (k := t35) (d := (⟨none, 0, 0⟩ : Slc)) (by have := hrowsoutRowsrs.1; omega)
     refine sh' 10 [(10, [bx b6 [iv fC, .slice (va outRowsr.q) outRows.length outRowsr.k, iv fU.row, iv fU.col, bv fV, iv fS, sv fT] 53]), (10, [bx b3 [iv 0, .slice none 0 0, iv 0, iv 0, bv false, iv 0, sv ([] : List UInt8)] 53]), (10, [bx b2 (cShf s) 55]), (10, [bx b1 [iv fC, .slice fQ fR.length fK, iv fU.row, iv fU.col, bv fV, iv fS, sv fT] 53]), (9, vo cSlc 67 outRowsr outRowsrs)] [sl cCel ((outRowsrs.getD t35 (⟨none, 0, 0⟩ : Slc)).q) (outRows.getD t35 []), sl cCel ((fZ.getD ((shift_source s (t35 : Int)).toNat) (⟨none, 0, 0⟩ : Slc)).q) (fR.getD ((shift_source s (t35 : Int)).toNat) []), rowsF cCel (List.replicate fR.length (⟨none, 0, 0⟩ : Slc)) (List.replicate fR.length ([] : List Cel)), sl cSlc fQ fZ, rowsF cCel fZ fR, sl cSpn (some ⟨0, 0, none⟩) tab0, sl cSpn (some ⟨1, 0, none⟩) tab1, rowsF cCel outRowsrs outRows] (bx b6 [iv fC, .slice (va outRowsr.q) outRows.length outRowsr.k, iv fU.row, iv fU.col, bv fV, iv fS, sv fT] 53 :: bx b3 [iv 0, .slice none 0 0, iv 0, iv 0, bv false, iv 0, sv ([] : List UInt8)] 53 :: bx b2 (cShf s) 55 :: bx b1 [iv fC, .slice fQ fR.length fK, iv fU.row, iv fU.col, bv fV, iv fS, sv fT] 53 :: (vo cSlc 67 outRowsr outRowsrs) ++ ([])) #[false, false, false, false, false, false, false, false, false, false] (by kernel_rfl) rfl (by kernel_rfl) (by kernel_rfl) (by kernel_rfl) (mc [[bx b6 [iv fC, .slice (va outRowsr.q) outRows.length outRowsr.k, iv fU.row, iv fU.col, bv fV, iv fS, sv fT] 53], [bx b3 [iv 0, .slice none 0 0, iv 0, iv 0, bv false, iv 0, sv ([] : List UInt8)] 53], [bx b2 (cShf s) 55], [bx b1 [iv fC, .slice fQ fR.length fK, iv fU.row, iv fU.col, bv fV, iv fS, sv fT] 53], vo cSlc 67 outRowsr outRowsrs] [true, true, true, true, true] rfl (by first | rfl | (simp only [List.length_set] <;> rfl))) Foll.refl ?_
     refine hpur [0, 2, 3, 5] 6 #[true, false, true, true, false, true, false, false, false, false] [(43, pt b6 1), (45, iv (t35 : Int)), (46, pt b1 1), (48, iv (shift_source s (t35 : Int)))] (by kernel_rfl) ?_
     refine htak 1 (bx b6 [iv fC, .slice (va outRowsr.q) outRows.length outRowsr.k, iv fU.row, iv fU.col, bv fV, iv fS, sv fT] 53 :: bx b3 [iv 0, .slice none 0 0, iv 0, iv 0, bv false, iv 0, sv ([] : List UInt8)] 53 :: bx b2 (cShf s) 55 :: bx b1 [iv fC, .slice fQ fR.length fK, iv fU.row, iv fU.col, bv fV, iv fS, sv fT] 53 :: (vo cSlc 67 outRowsr outRowsrs) ++ ([])) #[true, true, true, true, false, true, false, false, false, false] rfl rfl rfl (by kernel_rfl) (by kernel_rfl) (by kernel_rfl) (det_own_one (v := .slice (va outRowsr.q) outRows.length outRowsr.k) ty49 rfl rfl 0 rfl rfl) ?_
     refine htak 4 (bx b6 [iv fC, .slice (va outRowsr.q) outRows.length outRowsr.k, iv fU.row, iv fU.col, bv fV, iv fS, sv fT] 53 :: bx b3 [iv 0, .slice none 0 0, iv 0, iv 0, bv false, iv 0, sv ([] : List UInt8)] 53 :: bx b2 (cShf s) 55 :: bx b1 [iv fC, .slice fQ fR.length fK, iv fU.row, iv fU.col, bv fV, iv fS, sv fT] 53 :: (vo cSlc 67 outRowsr outRowsrs) ++ ([])) #[true, true, true, true, true, true, false, false, false, false] rfl rfl rfl (by kernel_rfl) (by kernel_rfl) (by kernel_rfl) (det_own_one (v := .slice fQ fR.length fK) ty49 rfl rfl 3 rfl rfl) ?_
     refine JH_base 3 rfl (by omega) fun a12 hq13 => ?_
     refine htak 6 (bx b6 [iv fC, .slice (va outRowsr.q) outRows.length outRowsr.k, iv fU.row, iv fU.col, bv fV, iv fS, sv fT] 53 :: bx b3 [iv 0, .slice none 0 0, iv 0, iv 0, bv false, iv 0, sv ([] : List UInt8)] 53 :: bx b2 (cShf s) 55 :: bx b1 [iv fC, .slice fQ fR.length fK, iv fU.row, iv fU.col, bv fV, iv fS, sv fT] 53 :: (vo cSlc 67 outRowsr outRowsrs) ++ ([])) #[true, true, true, true, true, true, true, false, false, false] rfl rfl rfl (by kernel_rfl) (by kernel_rfl) (by kernel_rfl) (det_ixq slt49 rfl rfl hq13 rfl ((shift_source s (t35 : Int)).toNat) (by omega) (by omega)) ?_
     refine htak 7 (bx b6 [iv fC, .slice (va outRowsr.q) outRows.length outRowsr.k, iv fU.row, iv fU.col, bv fV, iv fS, sv fT] 53 :: bx b3 [iv 0, .slice none 0 0, iv 0, iv 0, bv false, iv 0, sv ([] : List UInt8)] 53 :: bx b2 (cShf s) 55 :: bx b1 [iv fC, .slice fQ fR.length fK, iv fU.row, iv fU.col, bv fV, iv fS, sv fT] 53 :: (vo cSlc 67 outRowsr outRowsrs) ++ ([])) #[true, true, true, true, true, true, true, true, false, false] rfl rfl rfl (by kernel_rfl) (by kernel_rfl) (by kernel_rfl) (det_conv (det_ld_one (v := .slice ((fZ.getD ((shift_source s (t35 : Int)).toNat) (⟨none, 0, 0⟩ : Slc)).q) ((fZ.getD ((shift_source s (t35 : Int)).toNat) (⟨none, 0, 0⟩ : Slc)).n) ((fZ.getD ((shift_source s (t35 : Int)).toNat) (⟨none, 0, 0⟩ : Slc)).k)) (us := [.slice ((fZ.getD ((shift_source s (t35 : Int)).toNat) (⟨none, 0, 0⟩ : Slc)).q) ((fZ.getD ((shift_source s (t35 : Int)).toNat) (⟨none, 0, 0⟩ : Slc)).n) ((fZ.getD ((shift_source s (t35 : Int)).toNat) (⟨none, 0, 0⟩ : Slc)).k)]) ty67 rfl rfl (at_slq (c := cSlc) (sz := 1) hq13 (fun _ => rfl) 3 rfl (gd (⟨none, 0, 0⟩ : Slc) (by have := hrowsfRowsrs.1; omega))) rfl) (rows_val hrowsfRowsrs (by have := hrowsfRowsrs.1; omega))) ?_
     obtain ⟨b14, hb15⟩ := VOk.some hokoutRowsr (by omega)
     obtain ⟨q16, k17, j18⟩ := outRowsr
     obtain rfl : q16 = some b14 := hb15
     refine htak 8 (bx b6 [iv fC, .slice (va (⟨some b14, k17, j18⟩ : VR).q) outRows.length ((⟨some b14, k17, j18⟩ : VR).k), iv fU.row, iv fU.col, bv fV, iv fS, sv fT] 53 :: bx b3 [iv 0, .slice none 0 0, iv 0, iv 0, bv false, iv 0, sv ([] : List UInt8)] 53 :: bx b2 (cShf s) 55 :: bx b1 [iv fC, .slice fQ fR.length fK, iv fU.row, iv fU.col, bv fV, iv fS, sv fT] 53 :: (vo cSlc 67 (⟨some b14, k17, j18⟩ : VR) outRowsrs) ++ ([])) #[true, true, true, true, true, true, true, true, true, false] rfl rfl rfl (by kernel_rfl) (by kernel_rfl) (by kernel_rfl) (det_ix_vec slt49 rfl rfl rfl t35 rfl (by have := hrowsoutRowsrs.1; omega)) ?_
     have hw19 : RowsOk (outRowsrs.set t35 (⟨(fZ.getD ((shift_source s (t35 : Int)).toNat) (⟨none, 0, 0⟩ : Slc)).q, (fR.getD ((shift_source s (t35 : Int)).toNat) []).length, (fZ.getD ((shift_source s (t35 : Int)).toNat) (⟨none, 0, 0⟩ : Slc)).k⟩ : Slc)) (outRows.set t35 (fR.getD ((shift_source s (t35 : Int)).toNat) [])) := RowsOk.set hrowsoutRowsrs t35 ⟨rfl, (by first | omega | (simp <;> omega) | (dsimp only; omega) | decide), (by first | omega | (simp <;> omega) | (dsimp only; omega) | decide)⟩
     refine JH_fact1 (rows_set t35 (r := (⟨(fZ.getD ((shift_source s (t35 : Int)).toNat) (⟨none, 0, 0⟩ : Slc)).q, (fR.getD ((shift_source s (t35 : Int)).toNat) []).length, (fZ.getD ((shift_source s (t35 : Int)).toNat) (⟨none, 0, 0⟩ : Slc)).k⟩ : Slc)) (xs := (fR.getD ((shift_source s (t35 : Int)).toNat) [])) (at_of 7 rfl) (at_of 1 rfl)) ?_
     refine hone 9 [bx b6 [iv fC, .slice (va (⟨some b14, k17, j18⟩ : VR).q) outRows.length ((⟨some b14, k17, j18⟩ : VR).k), iv fU.row, iv fU.col, bv fV, iv fS, sv fT] 53, bx b3 [iv 0, .slice none 0 0, iv 0, iv 0, bv false, iv 0, sv ([] : List UInt8)] 53, bx b2 (cShf s) 55, bx b1 [iv fC, .slice fQ fR.length fK, iv fU.row, iv fU.col, bv fV, iv fS, sv fT] 53] #[true, true, true, true, true, true, true, true, true, true] rfl rfl rfl (by kernel_rfl) (by kernel_rfl) (by kernel_rfl) (tri_vec_store (us := [.slice ((fZ.getD ((shift_source s (t35 : Int)).toNat) (⟨none, 0, 0⟩ : Slc)).q) ((fR.getD ((shift_source s (t35 : Int)).toNat) []).length) ((fZ.getD ((shift_source s (t35 : Int)).toNat) (⟨none, 0, 0⟩ : Slc)).k)]) (u' := (⟨(fZ.getD ((shift_source s (t35 : Int)).toNat) (⟨none, 0, 0⟩ : Slc)).q, (fR.getD ((shift_source s (t35 : Int)).toNat) []).length, (fZ.getD ((shift_source s (t35 : Int)).toNat) (⟨none, 0, 0⟩ : Slc)).k⟩ : Slc)) (c := cSlc) (sz := 1) ty67 (fun _ => rfl) rfl rfl rfl 4 rfl rfl rfl rfl t35 0 rfl (gd (⟨none, 0, 0⟩ : Slc) (by have := hrowsoutRowsrs.1; omega)) rfl rfl) (fun _ => (mc [[bx b6 [iv fC, .slice (va (⟨some b14, k17, j18⟩ : VR).q) outRows.length ((⟨some b14, k17, j18⟩ : VR).k), iv fU.row, iv fU.col, bv fV, iv fS, sv fT] 53], [bx b3 [iv 0, .slice none 0 0, iv 0, iv 0, bv false, iv 0, sv ([] : List UInt8)] 53], [bx b2 (cShf s) 55], [bx b1 [iv fC, .slice fQ fR.length fK, iv fU.row, iv fU.col, bv fV, iv fS, sv fT] 53], vo cSlc 67 (⟨some b14, k17, j18⟩ : VR) (outRowsrs.set t35 (⟨(fZ.getD ((shift_source s (t35 : Int)).toNat) (⟨none, 0, 0⟩ : Slc)).q, (fR.getD ((shift_source s (t35 : Int)).toNat) []).length, (fZ.getD ((shift_source s (t35 : Int)).toNat) (⟨none, 0, 0⟩ : Slc)).k⟩ : Slc))] [true, true, true, true, false] rfl (by first | rfl | (simp only [List.length_set] <;> rfl)))) (fun _ => (Foll.pick [1, 2, 3, 4, 5, 6, 7, 8] rfl)) fun _ => ?_
     refine JH_done (by kernel_rfl) ?_
     refine nx ?_
     refine J_region 2 rfl ?_
     refine ix rfl (det_add64 rfl rfl rfl rfl (by omega)) ?_
     refine ip 1 0 [(35, iv ((t35 : Int) + 1))] (by kernel_rfl) ?_
     refine JI_end ?_
     exact againL4 (z1 := t35) (z2 := outRows) (z3 := (⟨some b14, k17, j18⟩ : VR)) (z4 := outRowsrs) (t35 + 1) (outRows.set t35 (fR.getD ((shift_source s (t35 : Int)).toNat) [])) (⟨some b14, k17, j18⟩ : VR) (outRowsrs.set t35 (⟨(fZ.getD ((shift_source s (t35 : Int)).toNat) (⟨none, 0, 0⟩ : Slc)).q, (fR.getD ((shift_source s (t35 : Int)).toNat) []).length, (fZ.getD ((shift_source s (t35 : Int)).toNat) (⟨none, 0, 0⟩ : Slc)).k⟩ : Slc)) ⟨(by omega), hR, (VOk.cast hokoutRowsr (by simp)), hw19, (by first | omega | (simp <;> omega))⟩ (by (try dsimp only); omega) ⟨rfl, rfl, rfl, rfl, rfl, (by first | rfl | (simp only [List.length_set]; rfl) | (simp; done) | (simp; omega)), trivial⟩ (mc [[bx b6 [iv fC, .slice (va (⟨some b14, k17, j18⟩ : VR).q) outRows.length ((⟨some b14, k17, j18⟩ : VR).k), iv fU.row, iv fU.col, bv fV, iv fS, sv fT] 53], [bx b3 [iv 0, .slice none 0 0, iv 0, iv 0, bv false, iv 0, sv ([] : List UInt8)] 53], [bx b2 (cShf s) 55], [bx b1 [iv fC, .slice fQ fR.length fK, iv fU.row, iv fU.col, bv fV, iv fS, sv fT] 53], vo cSlc 67 (⟨some b14, k17, j18⟩ : VR) (outRowsrs.set t35 (⟨(fZ.getD ((shift_source s (t35 : Int)).toNat) (⟨none, 0, 0⟩ : Slc)).q, (fR.getD ((shift_source s (t35 : Int)).toNat) []).length, (fZ.getD ((shift_source s (t35 : Int)).toNat) (⟨none, 0, 0⟩ : Slc)).k⟩ : Slc))] [true, true, true, true, true] rfl (by first | rfl | (simp only [List.length_set] <;> rfl))) (Foll.pick [3, 4, 5, 6, 7, 0] rfl)
    ·have h11p : ¬ ((0 : Int) ≤ (shift_source s (t35 : Int))) := by simpa using h11
     replace hR := bf hR h11
     refine J_fact1 (rows_atD (k := t35) (d := (⟨none, 0, 0⟩ : Slc)) hrowsoutRowsrs 5 rfl (by have := hrowsoutRowsrs.1; omega)) ?_
     have := rows_cap hrowsoutRowsrs (k := t35) (d := (⟨none, 0, 0⟩ : Slc)) (by have := hrowsoutRowsrs.1; omega)
     refine sh' 8 [(8, [bx b6 [iv fC, .slice (va outRowsr.q) outRows.length outRowsr.k, iv fU.row, iv fU.col, bv fV, iv fS, sv fT] 53]), (8, [bx b3 [iv 0, .slice none 0 0, iv 0, iv 0, bv false, iv 0, sv ([] : List UInt8)] 53]), (8, [bx b2 (cShf s) 55]), (8, [bx b1 [iv fC, .slice fQ fR.length fK, iv fU.row, iv fU.col, bv fV, iv fS, sv fT] 53]), (7, vo cSlc 67 outRowsr outRowsrs)] [sl cCel ((outRowsrs.getD t35 (⟨none, 0, 0⟩ : Slc)).q) (outRows.getD t35 []), rowsF cCel (List.replicate fR.length (⟨none, 0, 0⟩ : Slc)) (List.replicate fR.length ([] : List Cel)), sl cSlc fQ fZ, rowsF cCel fZ fR, sl cSpn (some ⟨0, 0, none⟩) tab0, sl cSpn (some ⟨1, 0, none⟩) tab1, rowsF cCel outRowsrs outRows] (bx b6 [iv fC, .slice (va outRowsr.q) outRows.length outRowsr.k, iv fU.row, iv fU.col, bv fV, iv fS, sv fT] 53 :: bx b3 [iv 0, .slice none 0 0, iv 0, iv 0, bv false, iv 0, sv ([] : List UInt8)] 53 :: bx b2 (cShf s) 55 :: bx b1 [iv fC, .slice fQ fR.length fK, iv fU.row, iv fU.col, bv fV, iv fS, sv fT] 53 :: (vo cSlc 67 outRowsr outRowsrs) ++ ([])) #[false, false, false, false, false, false, false, false] (by kernel_rfl) rfl (by kernel_rfl) (by kernel_rfl) (by kernel_rfl) (mc [[bx b6 [iv fC, .slice (va outRowsr.q) outRows.length outRowsr.k, iv fU.row, iv fU.col, bv fV, iv fS, sv fT] 53], [bx b3 [iv 0, .slice none 0 0, iv 0, iv 0, bv false, iv 0, sv ([] : List UInt8)] 53], [bx b2 (cShf s) 55], [bx b1 [iv fC, .slice fQ fR.length fK, iv fU.row, iv fU.col, bv fV, iv fS, sv fT] 53], vo cSlc 67 outRowsr outRowsrs] [true, true, true, true, true] rfl (by first | rfl | (simp only [List.length_set] <;> rfl))) Foll.refl ?_
     refine hpur [0, 2, 3] 5 #[true, false, true, true, false, false, false, false] [(52, pt b6 1), (54, iv (t35 : Int)), (55, pt b1 0)] (by kernel_rfl) ?_
     refine htak 1 (bx b6 [iv fC, .slice (va outRowsr.q) outRows.length outRowsr.k, iv fU.row, iv fU.col, bv fV, iv fS, sv fT] 53 :: bx b3 [iv 0, .slice none 0 0, iv 0, iv 0, bv false, iv 0, sv ([] : List UInt8)] 53 :: bx b2 (cShf s) 55 :: bx b1 [iv fC, .slice fQ fR.length fK, iv fU.row, iv fU.col, bv fV, iv fS, sv fT] 53 :: (vo cSlc 67 outRowsr outRowsrs) ++ ([])) #[true, true, true, true, false, false, false, false] rfl rfl rfl (by kernel_rfl) (by kernel_rfl) (by kernel_rfl) (det_own_one (v := .slice (va outRowsr.q) outRows.length outRowsr.k) ty49 rfl rfl 0 rfl rfl) ?_
     refine htak 4 (bx b6 [iv fC, .slice (va outRowsr.q) outRows.length outRowsr.k, iv fU.row, iv fU.col, bv fV, iv fS, sv fT] 53 :: bx b3 [iv 0, .slice none 0 0, iv 0, iv 0, bv false, iv 0, sv ([] : List UInt8)] 53 :: bx b2 (cShf s) 55 :: bx b1 [iv fC, .slice fQ fR.length fK, iv fU.row, iv fU.col, bv fV, iv fS, sv fT] 53 :: (vo cSlc 67 outRowsr outRowsrs) ++ ([])) #[true, true, true, true, true, false, false, false] rfl rfl rfl (by kernel_rfl) (by kernel_rfl) (by kernel_rfl) (det_own_one (v := iv fC) ty3 rfl rfl 3 rfl rfl) ?_
     have hQ := bindVx hR; clear hR; obtain ⟨y0, hy0, hR⟩ := hQ
     refine hone 5 (bx b6 [iv fC, .slice (va outRowsr.q) outRows.length outRowsr.k, iv fU.row, iv fU.col, bv fV, iv fS, sv fT] 53 :: bx b3 [iv 0, .slice none 0 0, iv 0, iv 0, bv false, iv 0, sv ([] : List UInt8)] 53 :: bx b2 (cShf s) 55 :: bx b1 [iv fC, .slice fQ fR.length fK, iv fU.row, iv fU.col, bv fV, iv fS, sv fT] 53 :: (vo cSlc 67 outRowsr outRowsrs) ++ ([])) #[true, true, true, true, true, true, false, false] rfl rfl rfl (by kernel_rfl) (by kernel_rfl) (by kernel_rfl) (tri_callP (L2 := (bx b6 [iv fC, .slice (va outRowsr.q) outRows.length outRowsr.k, iv fU.row, iv fU.col, bv fV, iv fS, sv fT] 53 :: bx b3 [iv 0, .slice none 0 0, iv 0, iv 0, bv false, iv 0, sv ([] : List UInt8)] 53 :: bx b2 (cShf s) 55 :: bx b1 [iv fC, .slice fQ fR.length fK, iv fU.row, iv fU.col, bv fV, iv fS, sv fT] 53 :: (vo cSlc 67 outRowsr outRowsrs) ++ ([]))) (shift_plain_c fC (by first | omega | (simp <;> omega)) y0 hy0) rfl rfl rfl rfl rfl Foll.nil (List.Perm.refl _) (fun ⟨r20, hk21⟩ => (bx b6 [iv fC, .slice (va outRowsr.q) outRows.length outRowsr.k, iv fU.row, iv fU.col, bv fV, iv fS, sv fT] 53 :: bx b3 [iv 0, .slice none 0 0, iv 0, iv 0, bv false, iv 0, sv ([] : List UInt8)] 53 :: bx b2 (cShf s) 55 :: bx b1 [iv fC, .slice fQ fR.length fK, iv fU.row, iv fU.col, bv fV, iv fS, sv fT] 53 :: (vo cCel 72 r20 y0) ++ ((vo cSlc 67 outRowsr outRowsrs) ++ ([])))) (fun ⟨r20, hk21⟩ => permC [vo cCel 72 r20 y0, [bx b6 [iv fC, .slice (va outRowsr.q) outRows.length outRowsr.k, iv fU.row, iv fU.col, bv fV, iv fS, sv fT] 53], [bx b3 [iv 0, .slice none 0 0, iv 0, iv 0, bv false, iv 0, sv ([] : List UInt8)] 53], [bx b2 (cShf s) 55], [bx b1 [iv fC, .slice fQ fR.length fK, iv fU.row, iv fU.col, bv fV, iv fS, sv fT] 53], vo cSlc 67 outRowsr outRowsrs] [1, 2, 3, 4, 0, 5] 6 rfl (by decide) (by first | rfl | simp only [List.flatten_cons, List.flatten_nil, List.append_nil, List.cons_append, List.nil_append, List.append_assoc]) [[bx b6 [iv fC, .slice (va outRowsr.q) outRows.length outRowsr.k, iv fU.row, iv fU.col, bv fV, iv fS, sv fT] 53], [bx b3 [iv 0, .slice none 0 0, iv 0, iv 0, bv false, iv 0, sv ([] : List UInt8)] 53], [bx b2 (cShf s) 55], [bx b1 [iv fC, .slice fQ fR.length fK, iv fU.row, iv fU.col, bv fV, iv fS, sv fT] 53], vo cCel 72 r20 y0, vo cSlc 67 outRowsr outRowsrs] rfl (by first | rfl | simp only [List.flatten_cons, List.flatten_nil, List.append_nil, List.cons_append, List.nil_append, List.append_assoc]))) (fun ⟨r20, hk21⟩ => (mc [[bx b6 [iv fC, .slice (va outRowsr.q) outRows.length outRowsr.k, iv fU.row, iv fU.col, bv fV, iv fS, sv fT] 53], [bx b3 [iv 0, .slice none 0 0, iv 0, iv 0, bv false, iv 0, sv ([] : List UInt8)] 53], [bx b2 (cShf s) 55], [bx b1 [iv fC, .slice fQ fR.length fK, iv fU.row, iv fU.col, bv fV, iv fS, sv fT] 53], vo cCel 72 r20 y0, vo cSlc 67 outRowsr outRowsrs] [true, true, true, true, false, true] rfl (by first | rfl | (simp only [List.length_set] <;> rfl)))) (fun ⟨r20, hk21⟩ => Foll.refl) fun ⟨r20, hk21⟩ => ?_
     have := VOk.le hk21
     have := VOk.cap hk21
     obtain ⟨b22, hb23⟩ := VOk.some hokoutRowsr (by omega)
     obtain ⟨q24, k25, j26⟩ := outRowsr
     obtain rfl : q24 = some b22 := hb23
     refine htak 6 (bx b6 [iv fC, .slice (va (⟨some b22, k25, j26⟩ : VR).q) outRows.length ((⟨some b22, k25, j26⟩ : VR).k), iv fU.row, iv fU.col, bv fV, iv fS, sv fT] 53 :: bx b3 [iv 0, .slice none 0 0, iv 0, iv 0, bv false, iv 0, sv ([] : List UInt8)] 53 :: bx b2 (cShf s) 55 :: bx b1 [iv fC, .slice fQ fR.length fK, iv fU.row, iv fU.col, bv fV, iv fS, sv fT] 53 :: (vo cSlc 67 (⟨some b22, k25, j26⟩ : VR) outRowsrs) ++ ([])) #[true, true, true, true, true, true, true, false] rfl rfl rfl (by kernel_rfl) (by kernel_rfl) (by kernel_rfl) (det_ix_vec slt49 rfl rfl rfl t35 rfl (by have := hrowsoutRowsrs.1; omega)) ?_
     have := VOk.cap hk21
     have := VOk.le hk21
     refine JH_seal [bx b6 [iv fC, .slice (va (⟨some b22, k25, j26⟩ : VR).q) outRows.length ((⟨some b22, k25, j26⟩ : VR).k), iv fU.row, iv fU.col, bv fV, iv fS, sv fT] 53, bx b3 [iv 0, .slice none 0 0, iv 0, iv 0, bv false, iv 0, sv ([] : List UInt8)] 53, bx b2 (cShf s) 55, bx b1 [iv fC, .slice fQ fR.length fK, iv fU.row, iv fU.col, bv fV, iv fS, sv fT] 53] ((vo cSlc 67 (⟨some b22, k25, j26⟩ : VR) outRowsrs) ++ ([])) (T := 72) (c := cCel) (r := r20) (xs := y0) hk21 (by first | rfl | simp only [List.cons_append, List.append_assoc, List.nil_append, List.append_nil]) (bx b6 [iv fC, .slice (va (⟨some b22, k25, j26⟩ : VR).q) outRows.length ((⟨some b22, k25, j26⟩ : VR).k), iv fU.row, iv fU.col, bv fV, iv fS, sv fT] 53 :: bx b3 [iv 0, .slice none 0 0, iv 0, iv 0, bv false, iv 0, sv ([] : List UInt8)] 53 :: bx b2 (cShf s) 55 :: bx b1 [iv fC, .slice fQ fR.length fK, iv fU.row, iv fU.col, bv fV, iv fS, sv fT] 53 :: (vo cSlc 67 (⟨some b22, k25, j26⟩ : VR) outRowsrs) ++ ([])) rfl (mc [[bx b6 [iv fC, .slice (va (⟨some b22, k25, j26⟩ : VR).q) outRows.length ((⟨some b22, k25, j26⟩ : VR).k), iv fU.row, iv fU.col, bv fV, iv fS, sv fT] 53], [bx b3 [iv 0, .slice none 0 0, iv 0, iv 0, bv false, iv 0, sv ([] : List UInt8)] 53], [bx b2 (cShf s) 55], [bx b1 [iv fC, .slice fQ fR.length fK, iv fU.row, iv fU.col, bv fV, iv fS, sv fT] 53], vo cSlc 67 (⟨some b22, k25, j26⟩ : VR) outRowsrs] [true, true, true, true, true] rfl (by first | rfl | (simp only [List.length_set] <;> rfl))) ?_
     have hw27 : RowsOk (outRowsrs.set t35 (⟨va r20.q, y0.length, r20.k⟩ : Slc)) (outRows.set t35 y0) := RowsOk.set hrowsoutRowsrs t35 ⟨rfl, (by first | omega | (simp <;> omega) | (dsimp only; omega) | decide), (by first | omega | (simp <;> omega) | (dsimp only; omega) | decide)⟩
     refine JH_fact1 (rows_set t35 (r := (⟨va r20.q, y0.length, r20.k⟩ : Slc)) (xs := y0) (at_of 7 rfl) (at_of 0 rfl)) ?_
     refine hone 7 [bx b6 [iv fC, .slice (va (⟨some b22, k25, j26⟩ : VR).q) outRows.length ((⟨some b22, k25, j26⟩ : VR).k), iv fU.row, iv fU.col, bv fV, iv fS, sv fT] 53, bx b3 [iv 0, .slice none 0 0, iv 0, iv 0, bv false, iv 0, sv ([] : List UInt8)] 53, bx b2 (cShf s) 55, bx b1 [iv fC, .slice fQ fR.length fK, iv fU.row, iv fU.col, bv fV, iv fS, sv fT] 53] #[true, true, true, true, true, true, true, true] rfl rfl rfl (by kernel_rfl) (by kernel_rfl) (by kernel_rfl) (tri_vec_store (us := [.slice (va r20.q) y0.length r20.k]) (u' := (⟨va r20.q, y0.length, r20.k⟩ : Slc)) (c := cSlc) (sz := 1) ty67 (fun _ => rfl) rfl rfl rfl 4 rfl rfl rfl rfl t35 0 rfl (gd (⟨none, 0, 0⟩ : Slc) (by have := hrowsoutRowsrs.1; omega)) rfl rfl) (fun _ => (mc [[bx b6 [iv fC, .slice (va (⟨some b22, k25, j26⟩ : VR).q) outRows.length ((⟨some b22, k25, j26⟩ : VR).k), iv fU.row, iv fU.col, bv fV, iv fS, sv fT] 53], [bx b3 [iv 0, .slice none 0 0, iv 0, iv 0, bv false, iv 0, sv ([] : List UInt8)] 53], [bx b2 (cShf s) 55], [bx b1 [iv fC, .slice fQ fR.length fK, iv fU.row, iv fU.col, bv fV, iv fS, sv fT] 53], vo cSlc 67 (⟨some b22, k25, j26⟩ : VR) (outRowsrs.set t35 (⟨va r20.q, y0.length, r20.k⟩ : Slc))] [true, true, true, true, false] rfl (by first | rfl | (simp only [List.length_set] <;> rfl)))) (fun _ => (Foll.pick [2, 3, 4, 5, 6, 7, 8] rfl)) fun _ => ?_
     refine JH_done (by kernel_rfl) ?_
     refine nx ?_
     refine J_region 2 rfl ?_
     refine ix rfl (det_add64 rfl rfl rfl rfl (by omega)) ?_
     refine ip 1 0 [(35, iv ((t35 : Int) + 1))] (by kernel_rfl) ?_
     refine JI_end ?_
     exact againL4 (z1 := t35) (z2 := outRows) (z3 := (⟨some b22, k25, j26⟩ : VR)) (z4 := outRowsrs) (t35 + 1) (outRows.set t35 y0) (⟨some b22, k25, j26⟩ : VR) (outRowsrs.set t35 (⟨va r20.q, y0.length, r20.k⟩ : Slc)) ⟨(by omega), hR, (VOk.cast hokoutRowsr (by simp)), hw27, (by first | omega | (simp <;> omega))⟩ (by (try dsimp only); omega) ⟨rfl, rfl, rfl, rfl, rfl, (by first | rfl | (simp only [List.length_set]; rfl) | (simp; done) | (simp; omega)), trivial⟩ (mc [[bx b6 [iv fC, .slice (va (⟨some b22, k25, j26⟩ : VR).q) outRows.length ((⟨some b22, k25, j26⟩ : VR).k), iv fU.row, iv fU.col, bv fV, iv fS, sv fT] 53], [bx b3 [iv 0, .slice none 0 0, iv 0, iv 0, bv false, iv 0, sv ([] : List UInt8)] 53], [bx b2 (cShf s) 55], [bx b1 [iv fC, .slice fQ fR.length fK, iv fU.row, iv fU.col, bv fV, iv fS, sv fT] 53], vo cSlc 67 (⟨some b22, k25, j26⟩ : VR) (outRowsrs.set t35 (⟨va r20.q, y0.length, r20.k⟩ : Slc))] [true, true, true, true, true] rfl (by first | rfl | (simp only [List.length_set] <;> rfl))) (Foll.pick [3, 4, 5, 6, 7, 0] rfl)
   ·have h10p : ¬ ((t35 : Int) < (fR.length : Int)) := by simpa using h10
    rw [dropn h10p] at hR; replace hR := (shift_Done_l0.eq_1 ..).symm.trans hR
    refine J_exit ?_
    refine nx ?_
    refine sr 3 rfl ?_
    refine ix rfl (det_own_agg (us := [iv fC, .slice (va outRowsr.q) outRows.length outRowsr.k, iv fU.row, iv fU.col, bv fV, iv fS, sv fT]) ty53 rfl rfl 0 rfl rfl rfl) ?_
    refine it rfl (tri_store (us := [iv fC, .slice (va outRowsr.q) outRows.length outRowsr.k, iv fU.row, iv fU.col, bv fV, iv fS, sv fT]) (cs' := [iv fC, .slice (va outRowsr.q) outRows.length outRowsr.k, iv fU.row, iv fU.col, bv fV, iv fS, sv fT]) ty53 rfl rfl rfl 1 rfl rfl rfl rfl rfl rfl) fun _ => ?_
    refine ip 1 0 [(5, iv 0)] (by kernel_rfl) ?_
    refine ie ?_
    refine J_ret ?_
    subst hR
    exact ends_ret rfl ⟨hr, hD⟩ (by simp [hD]) (res2 rfl (resV_cell (us := [iv fC, .slice (va outRowsr.q) outRows.length outRowsr.k, iv fU.row, iv fU.col, bv fV, iv fS, sv fT]) ty53 rfl 1 rfl rfl rfl) (resV_tmp rfl)) ⟨(outRowsr, outRowsrs), ⟨hokoutRowsr, hrowsoutRowsrs⟩⟩ (by rfl) (mc [[bx b6 [iv fC, .slice (va outRowsr.q) outRows.length outRowsr.k, iv fU.row, iv fU.col, bv fV, iv fS, sv fT] 53], [bx b3 [iv fC, .slice (va outRowsr.q) outRows.length outRowsr.k, iv fU.row, iv fU.col, bv fV, iv fS, sv fT] 53], [bx b2 (cShf s) 55], [bx b1 [iv fC, .slice fQ fR.length fK, iv fU.row, iv fU.col, bv fV, iv fS, sv fT] 53], vo cSlc 67 outRowsr outRowsrs] [false, false, false, false, true] rfl (by first | rfl | (simp only [List.length_set] <;> rfl))) (Foll.con1 (at_of 5 rfl) Foll.nil)

def shift_sized (aC : Int) (aR : List (List Cel)) (aU : Plc) (aV : Bool) (aS : Int) (aT : List UInt8) (bC : Int) (bR : List (List Cel)) (bU : Plc) (bV : Bool) (bS : Int) (bT : List UInt8) : Int :=
 (bindV (damage_Spans aC aR aU aV aS aT bC bR bU bV bS bT) fun (y1 : List Sp3 × Int) => y1.2)

theorem shift_sized_c (aC : Int) (aR : List (List Cel)) (aU : Plc) (aV : Bool) (aS : Int) (aT : List UInt8) (bC : Int) (bR : List (List Cel)) (bU : Plc) (bV : Bool) (bS : Int) (bT : List UInt8) (aQ : Option Addr) (aZ : List Slc) (aK : Nat) (bQ : Option Addr) (bZ : List Slc) (bK : Nat) (hrowsaRowsrs : RowsOk aZ aR) (hlaRows : aR.length ≤ 9223372036854775807) (hcaRows : aR.length ≤ aK) (hrowsbRowsrs : RowsOk bZ bR) (hlbRows : bR.length ≤ 9223372036854775807) (hcbRows : bR.length ≤ bK) (hT : aT.length ≤ 100000000) (hT2 : bT.length ≤ 100000000) (R : Int) (hR : shift_sized aC aR aU aV aS aT bC bR bU bV bS bT = R) : ConV Tryz.prog 71 [ag [iv aC, .slice aQ aR.length aK, iv aU.row, iv aU.col, bv aV, iv aS, sv aT], ag [iv bC, .slice bQ bR.length bK, iv bU.row, iv bU.col, bv bV, iv bS, sv bT]] [sl cSlc aQ aZ, rowsF cCel aZ aR, sl cSlc bQ bZ, rowsF cCel bZ bR, sl cSpn (some ⟨0, 0, none⟩) tab0, sl cSpn (some ⟨1, 0, none⟩) tab1] (iv R) := by
 refine con_of_J (n := 14) Tryz.func71 rfl (by kernel_rfl) rfl rfl [(0, ag [iv aC, .slice aQ aR.length aK, iv aU.row, iv aU.col, bv aV, iv aS, sv aT]), (1, ag [iv bC, .slice bQ bR.length bK, iv bU.row, iv bU.col, bv bV, iv bS, sv bT])] ⟨rfl, rfl, trivial⟩ fun X hX hr hD => ?_
 replace hR := (shift_sized.eq_1 ..).symm.trans hR
 have := hrowsaRowsrs.1
 have := hrowsbRowsrs.1
 refine sr 3 rfl ?_
 refine it rfl (tri_box (cs := [iv aC, .slice aQ aR.length aK, iv aU.row, iv aU.col, bv aV, iv aS, sv aT]) rfl rfl rfl) fun b1 => ?_
 refine it rfl (tri_box (cs := [iv bC, .slice bQ bR.length bK, iv bU.row, iv bU.col, bv bV, iv bS, sv bT]) rfl rfl rfl) fun b2 => ?_
 refine ip 1 0 [] (by kernel_rfl) ?_
 refine ie ?_
 refine sr 8 rfl ?_
 refine ix rfl (det_own_agg (us := [iv aC, .slice aQ aR.length aK, iv aU.row, iv aU.col, bv aV, iv aS, sv aT]) ty53 rfl rfl 1 rfl rfl rfl) ?_
 refine ix rfl (det_own_agg (us := [iv bC, .slice bQ bR.length bK, iv bU.row, iv bU.col, bv bV, iv bS, sv bT]) ty53 rfl rfl 0 rfl rfl rfl) ?_
 have hQ := bindVx hR; clear hR; obtain ⟨y1, hy1, hR⟩ := hQ
 refine it rfl (tri_callP (L2 := [bx b2 [iv bC, .slice bQ bR.length bK, iv bU.row, iv bU.col, bv bV, iv bS, sv bT] 53, bx b1 [iv aC, .slice aQ aR.length aK, iv aU.row, iv aU.col, bv aV, iv aS, sv aT] 53]) (damage_Spans_c aC aR aU aV aS aT bC bR bU bV bS bT aQ aZ aK bQ bZ bK hrowsaRowsrs (by first | omega | (simp <;> omega) | (dsimp only; omega) | decide) (by first | omega | (simp <;> omega) | (dsimp only; omega) | decide) hrowsbRowsrs (by first | omega | (simp <;> omega) | (dsimp only; omega) | decide) (by first | omega | (simp <;> omega) | (dsimp only; omega) | decide) (by first | omega | (simp <;> omega)) (by first | omega | (simp <;> omega)) y1 hy1) rfl rfl rfl rfl rfl Foll.refl (List.Perm.refl _) (fun ⟨r3, hk4⟩ => (bx b2 [iv bC, .slice bQ bR.length bK, iv bU.row, iv bU.col, bv bV, iv bS, sv bT] 53 :: bx b1 [iv aC, .slice aQ aR.length aK, iv aU.row, iv aU.col, bv aV, iv aS, sv aT] 53 :: (vo cSp3 242 r3 y1.1) ++ ([]))) (fun ⟨r3, hk4⟩ => permC [vo cSp3 242 r3 y1.1, [bx b2 [iv bC, .slice bQ bR.length bK, iv bU.row, iv bU.col, bv bV, iv bS, sv bT] 53], [bx b1 [iv aC, .slice aQ aR.length aK, iv aU.row, iv aU.col, bv aV, iv aS, sv aT] 53]] [1, 2, 0] 3 rfl (by decide) (by first | rfl | simp only [List.flatten_cons, List.flatten_nil, List.append_nil, List.cons_append, List.nil_append, List.append_assoc]) [[bx b2 [iv bC, .slice bQ bR.length bK, iv bU.row, iv bU.col, bv bV, iv bS, sv bT] 53], [bx b1 [iv aC, .slice aQ aR.length aK, iv aU.row, iv aU.col, bv aV, iv aS, sv aT] 53], vo cSp3 242 r3 y1.1] rfl (by first | rfl | simp only [List.flatten_cons, List.flatten_nil, List.append_nil, List.cons_append, List.nil_append, List.append_assoc]))) fun ⟨r3, hk4⟩ => ?_
 have := VOk.le hk4
 have := VOk.cap hk4
 have := damage_Spans_len aC aR aU aV aS aT bC bR bU bV bS bT; try rw [hy1] at this
 refine ip 5 0 [(6, iv y1.2)] (by kernel_rfl) ?_
 refine ie ?_
 refine sr 2 rfl ?_
 refine ip 2 0 [(4, iv y1.2)] (by kernel_rfl) ?_
 refine ie ?_
 refine J_ret ?_
 subst hR
 exact ends_ret rfl ⟨hr, hD⟩ (by simp [hD]) (res1 rfl (resV_tmp rfl)) () (by rfl) (List.nil_sublist _) Foll.nil

def slices_Equal_api_Cell_api_Cell_l0 (s2 : List Cel) : List Cel → Nat → Bool
 | [], t13 => true
 | hd_l0 :: tl_l0, t13 => (bif (!(decide (hd_l0 = (s2.getD t13 Cel.zero)))) then false else slices_Equal_api_Cell_api_Cell_l0 s2 tl_l0 (t13 + 1))
def slices_Equal_api_Cell_api_Cell (s1 : List Cel) (s2 : List Cel) : Bool :=
 (bif (!decide ((s1.length : Int) = (s2.length : Int))) then false else slices_Equal_api_Cell_api_Cell_l0 s2 s1 0)

theorem slices_Equal_api_Cell_api_Cell_c (s1 : List Cel) (s2 : List Cel) (s1q : Option Addr) (s1k : Nat) (s2q : Option Addr) (s2k : Nat) (hls1 : s1.length ≤ 9223372036854775807) (hcs1 : s1.length ≤ s1k) (hls2 : s2.length ≤ 9223372036854775807) (hcs2 : s2.length ≤ s2k) (R : Bool) (hR : slices_Equal_api_Cell_api_Cell s1 s2 = R) : ConV Tryz.prog 128 [.slice s1q s1.length s1k, .slice s2q s2.length s2k] [sl cCel s1q s1, sl cCel s2q s2] (bv R) := by
 refine con_of_J (n := 26) Tryz.func128 rfl (by kernel_rfl) rfl rfl [(0, .slice s1q s1.length s1k), (1, .slice s2q s2.length s2k)] ⟨rfl, rfl, trivial⟩ fun X hX hr hD => ?_
 replace hR := (slices_Equal_api_Cell_api_Cell.eq_1 ..).symm.trans hR
 refine sr 1 rfl ?_
 refine ip 1 0 [] (by kernel_rfl) ?_
 refine ie ?_
 refine J_seq ?_
 refine sr 5 rfl ?_
 refine ip 5 0 [(10, bv (!decide ((s1.length : Int) = (s2.length : Int))))] (by kernel_rfl) ?_
 refine ie ?_
 refine J_if rfl (fun h1 => ?_) (fun h1 => ?_)
 ·have h1p : ¬ (s1.length : Int) = (s2.length : Int) := by simpa using h1
  replace hR := bt hR h1
  refine sr 1 rfl ?_
  refine ip 1 0 [(4, bv false)] (by kernel_rfl) ?_
  refine ie ?_
  refine J_ret ?_
  subst hR
  exact ends_ret rfl ⟨hr, hD⟩ (by simp [hD]) (res1 rfl (resV_tmp rfl)) () (by rfl) (mk [] rfl) Foll.nil
 ·have h1p : ¬ (¬ (s1.length : Int) = (s2.length : Int)) := by simpa using h1
  replace hR := bf hR h1
  refine J_skip ?_
  refine nx ?_
  refine J_seq ?_
  refine sr 3 rfl ?_
  refine ip 3 0 [(12, iv (s1.length : Int)), (13, iv 0)] (by kernel_rfl) ?_
  refine ie ?_
  refine J_block ?_
  refine JL1 (fun (t13 : Nat) => t13 ≤ s1.length ∧ slices_Equal_api_Cell_api_Cell_l0 s2 (s1.drop t13) t13 = R) (fun (t13 : Nat) => [(0, .slice s1q s1.length s1k), (1, .slice s2q s2.length s2k), (12, iv (s1.length : Int)), (13, iv (t13 : Int))]) (fun (t13 : Nat) => []) (fun (t13 : Nat) => [sl cCel s1q s1, sl cCel s2q s2]) (fun (t13 : Nat) => s1.length - t13) 0 ⟨(by omega), hR⟩ ⟨rfl, rfl, rfl, (by first | rfl | (simp only [List.length_set]; rfl) | (simp; done) | (simp; omega)), trivial⟩ (mk [] rfl) Foll.refl ?_
  rintro t13 ⟨hm2, hR⟩
  refine sr 1 rfl ?_
  refine ip 1 0 [(14, bv (decide ((t13 : Int) < (s1.length : Int))))] (by kernel_rfl) ?_
  refine ie ?_
  refine J_seq ?_
  refine J_if rfl (fun h3 => ?_) (fun h3 => ?_)
  ·have h3p : (t13 : Int) < (s1.length : Int) := by simpa using h3
   rw [dropc Cel.zero (show t13 < s1.length by omega)] at hR; replace hR := (slices_Equal_api_Cell_api_Cell_l0.eq_2 ..).symm.trans hR
   refine J_skip ?_
   refine nx ?_
   refine J_seq ?_
   refine J_block ?_
   refine sr 2 rfl ?_
   refine ip 2 0 [(5, iv (t13 : Int))] (by kernel_rfl) ?_
   refine ie ?_
   refine sd 9 rfl (by kernel_rfl) rfl ?_
   refine dp 2 7 [(16, .slice s1q s1.length s1k), (17, iv (t13 : Int))] (by kernel_rfl) ?_
   refine JD_base 0 rfl (by omega) fun a4 hq5 => ?_
   refine dd rfl (det_ixq slt67 rfl rfl hq5 rfl t13 rfl (by omega)) ?_
   refine dd rfl (det_ld_agg (us := cCel (s1.getD t13 Cel.zero)) ty72 rfl rfl (at_slq (c := cCel) (sz := 12) hq5 (fun _ => rfl) 0 rfl (gd Cel.zero (by omega))) rfl) ?_
   refine dp 2 3 [(20, .slice s2q s2.length s2k), (21, iv (t13 : Int))] (by kernel_rfl) ?_
   refine JD_base 1 rfl (by omega) fun a6 hq7 => ?_
   refine dd rfl (det_ixq slt67 rfl rfl hq7 rfl t13 rfl (by omega)) ?_
   refine dd rfl (det_ld_agg (us := cCel (s2.getD t13 Cel.zero)) ty72 rfl rfl (at_slq (c := cCel) (sz := 12) hq7 (fun _ => rfl) 1 rfl (gd Cel.zero (by omega))) rfl) ?_
   refine dd rfl (det_nes (a := (s1.getD t13 Cel.zero)) (b := (s2.getD t13 Cel.zero)) eqt72 rfl rfl rfl) ?_
   refine de ?_
   refine J_if rfl (fun h8 => ?_) (fun h8 => ?_)
   ·have h8p : ¬ (s1.getD t13 Cel.zero) = (s2.getD t13 Cel.zero) := by simpa using h8
    replace hR := bt hR h8
    refine sr 1 rfl ?_
    refine ip 1 0 [(4, bv false)] (by kernel_rfl) ?_
    refine ie ?_
    refine J_ret ?_
    subst hR
    exact ends_ret rfl ⟨hr, hD⟩ (by simp [hD]) (res1 rfl (resV_tmp rfl)) () (by rfl) (mk [] rfl) Foll.nil
   ·have h8p : ¬ (¬ (s1.getD t13 Cel.zero) = (s2.getD t13 Cel.zero)) := by simpa using h8
    replace hR := bf hR h8
    refine J_skip ?_
    refine nx ?_
    refine J_region 2 rfl ?_
    refine ix rfl (det_add64 rfl rfl rfl rfl (by omega)) ?_
    refine ip 1 0 [(13, iv ((t13 : Int) + 1))] (by kernel_rfl) ?_
    refine JI_end ?_
    exact againL1 (z1 := t13) (t13 + 1) ⟨(by omega), hR⟩ (by (try dsimp only); omega) ⟨rfl, rfl, rfl, (by first | rfl | (simp only [List.length_set]; rfl) | (simp; done) | (simp; omega)), trivial⟩ (mk [] rfl) Foll.refl
  ·have h3p : ¬ ((t13 : Int) < (s1.length : Int)) := by simpa using h3
   rw [dropn h3p] at hR; replace hR := (slices_Equal_api_Cell_api_Cell_l0.eq_1 ..).symm.trans hR
   refine J_exit ?_
   refine nx ?_
   refine sr 1 rfl ?_
   refine ip 1 0 [(4, bv true)] (by kernel_rfl) ?_
   refine ie ?_
   refine J_ret ?_
   subst hR
   exact ends_ret rfl ⟨hr, hD⟩ (by simp [hD]) (res1 rfl (resV_tmp rfl)) () (by rfl) (mk [] rfl) Foll.nil

def shift_like_l4 (bR : List (List Cel)) (y0 : List Cel) (t17 : Nat) (ag_shift_like_l3 : Nat → Lks → Lks) : List (List Cel) → Nat → Lks → Lks
 | [], t25, out1 => (bif (slices_Equal_api_Cell_api_Cell y0 (bR.getD t17 [])) then ag_shift_like_l3 (t17 + 1) (out1.put 40 (bOp .or .u64 (out1.f 40) (IntKind.u64.wrap ((1 : Int) * 2 ^ (min ((t17 : Int)).toNat 64))))) else ag_shift_like_l3 (t17 + 1) out1)
 | hd_l4 :: tl_l4, t25, out1 => (bif (slices_Equal_api_Cell_api_Cell hd_l4 (bR.getD t17 [])) then shift_like_l4 bR y0 t17 ag_shift_like_l3 tl_l4 (t25 + 1) (out1.put t25 (bOp .or .u64 (out1.f t25) (IntKind.u64.wrap ((1 : Int) * 2 ^ (min ((t17 : Int)).toNat 64))))) else shift_like_l4 bR y0 t17 ag_shift_like_l3 tl_l4 (t25 + 1) out1)
def shift_like_l3 (aR : List (List Cel)) (bR : List (List Cel)) (y0 : List Cel) : List (List Cel) → Nat → Lks → Lks
 | [], t17, out => out
 | hd_l3 :: tl_l3, t17, out => shift_like_l4 bR y0 t17 (shift_like_l3 aR bR y0 tl_l3) aR 0 out
def shift_like (aC : Int) (aR : List (List Cel)) (aU : Plc) (aV : Bool) (aS : Int) (aT : List UInt8) (bC : Int) (bR : List (List Cel)) (bU : Plc) (bV : Bool) (bS : Int) (bT : List UInt8) : Lks :=
 (bindV (shift_plain aC) fun (y0 : List Cel) => shift_like_l3 aR bR y0 bR 0 Lks.zero)

theorem shift_like_c (aC : Int) (aR : List (List Cel)) (aU : Plc) (aV : Bool) (aS : Int) (aT : List UInt8) (bC : Int) (bR : List (List Cel)) (bU : Plc) (bV : Bool) (bS : Int) (bT : List UInt8) (aQ : Option Addr) (aZ : List Slc) (aK : Nat) (bQ : Option Addr) (bZ : List Slc) (bK : Nat) (hrowsaRowsrs : RowsOk aZ aR) (hlaRows : aR.length ≤ 9223372036854775807) (hcaRows : aR.length ≤ aK) (hrowsbRowsrs : RowsOk bZ bR) (hlbRows : bR.length ≤ 9223372036854775807) (hcbRows : bR.length ≤ bK) (ha : aR.length ≤ 40 ∧ 0 ≤ aC ∧ aC ≤ 80) (hb : bR.length ≤ 40) (R : Lks) (hR : shift_like aC aR aU aV aS aT bC bR bU bV bS bT = R) : ConV Tryz.prog 72 [ag [iv aC, .slice aQ aR.length aK, iv aU.row, iv aU.col, bv aV, iv aS, sv aT], ag [iv bC, .slice bQ bR.length bK, iv bU.row, iv bU.col, bv bV, iv bS, sv bT]] [sl cSlc aQ aZ, rowsF cCel aZ aR, sl cSlc bQ bZ, rowsF cCel bZ bR] (ag (cLks R)) := by
 refine con_of_J (n := 52) Tryz.func72 rfl (by kernel_rfl) rfl rfl [(0, ag [iv aC, .slice aQ aR.length aK, iv aU.row, iv aU.col, bv aV, iv aS, sv aT]), (1, ag [iv bC, .slice bQ bR.length bK, iv bU.row, iv bU.col, bv bV, iv bS, sv bT])] ⟨rfl, rfl, trivial⟩ fun X hX hr hD => ?_
 replace hR := (shift_like.eq_1 ..).symm.trans hR
 have := hrowsaRowsrs.1
 have := hrowsbRowsrs.1
 refine sr 3 rfl ?_
 refine it rfl (tri_box (cs := [iv aC, .slice aQ aR.length aK, iv aU.row, iv aU.col, bv aV, iv aS, sv aT]) rfl rfl rfl) fun b1 => ?_
 refine it rfl (tri_box (cs := [iv bC, .slice bQ bR.length bK, iv bU.row, iv bU.col, bv bV, iv bS, sv bT]) rfl rfl rfl) fun b2 => ?_
 refine it rfl (tri_alloc (cs := cLks Lks.zero) zero128 rfl) fun b3 => ?_
 refine ie ?_
 refine sr 1 rfl ?_
 refine it rfl (tri_alloc (cs := cLks Lks.zero) zero128 rfl) fun b4 => ?_
 refine ie ?_
 refine sr 4 rfl ?_
 refine ip 1 3 [(11, pt b1 0)] (by kernel_rfl) ?_
 refine ix rfl (det_own_one (v := iv aC) ty3 rfl rfl 3 rfl rfl) ?_
 have hQ := bindVx hR; clear hR; obtain ⟨y0, hy0, hR⟩ := hQ
 refine it rfl (tri_callP (L2 := [bx b4 (cLks Lks.zero) 128, bx b3 (cLks Lks.zero) 128, bx b2 [iv bC, .slice bQ bR.length bK, iv bU.row, iv bU.col, bv bV, iv bS, sv bT] 53, bx b1 [iv aC, .slice aQ aR.length aK, iv aU.row, iv aU.col, bv aV, iv aS, sv aT] 53]) (shift_plain_c aC (by first | omega | (simp <;> omega)) y0 hy0) rfl rfl rfl rfl rfl Foll.nil (List.Perm.refl _) (fun ⟨r5, hk6⟩ => (bx b4 (cLks Lks.zero) 128 :: bx b3 (cLks Lks.zero) 128 :: bx b2 [iv bC, .slice bQ bR.length bK, iv bU.row, iv bU.col, bv bV, iv bS, sv bT] 53 :: bx b1 [iv aC, .slice aQ aR.length aK, iv aU.row, iv aU.col, bv aV, iv aS, sv aT] 53 :: (vo cCel 72 r5 y0) ++ ([]))) (fun ⟨r5, hk6⟩ => permC [vo cCel 72 r5 y0, [bx b4 (cLks Lks.zero) 128], [bx b3 (cLks Lks.zero) 128], [bx b2 [iv bC, .slice bQ bR.length bK, iv bU.row, iv bU.col, bv bV, iv bS, sv bT] 53], [bx b1 [iv aC, .slice aQ aR.length aK, iv aU.row, iv aU.col, bv aV, iv aS, sv aT] 53]] [1, 2, 3, 4, 0] 5 rfl (by decide) (by first | rfl | simp only [List.flatten_cons, List.flatten_nil, List.append_nil, List.cons_append, List.nil_append, List.append_assoc]) [[bx b4 (cLks Lks.zero) 128], [bx b3 (cLks Lks.zero) 128], [bx b2 [iv bC, .slice bQ bR.length bK, iv bU.row, iv bU.col, bv bV, iv bS, sv bT] 53], [bx b1 [iv aC, .slice aQ aR.length aK, iv aU.row, iv aU.col, bv aV, iv aS, sv aT] 53], vo cCel 72 r5 y0] rfl (by first | rfl | simp only [List.flatten_cons, List.flatten_nil, List.append_nil, List.cons_append, List.nil_append, List.append_assoc]))) fun ⟨r5, hk6⟩ => ?_
 have := VOk.le hk6
 have := VOk.cap hk6
 refine ip 1 0 [(6, .slice (va r5.q) y0.length r5.k)] (by kernel_rfl) ?_
 refine ie ?_
 refine J_seq ?_
 refine sr 4 rfl ?_
 refine ip 1 3 [(14, pt b2 1)] (by kernel_rfl) ?_
 refine ix rfl (det_own_one (v := .slice bQ bR.length bK) ty49 rfl rfl 2 rfl rfl) ?_
 refine ip 2 0 [(16, iv (bR.length : Int)), (17, iv 0)] (by kernel_rfl) ?_
 refine ie ?_
 refine J_block ?_
 have := VOk.cap hk6
 have := VOk.le hk6
 refine J_seal [bx b4 (cLks Lks.zero) 128, bx b3 (cLks Lks.zero) 128, bx b2 [iv bC, .slice bQ bR.length bK, iv bU.row, iv bU.col, bv bV, iv bS, sv bT] 53, bx b1 [iv aC, .slice aQ aR.length aK, iv aU.row, iv aU.col, bv aV, iv aS, sv aT] 53] [] (T := 72) (c := cCel) (r := r5) (xs := y0) hk6 (by first | rfl | simp only [List.cons_append, List.append_assoc, List.nil_append, List.append_nil]) ?_
 refine JL2 (fun (t17 : Nat) (out : Lks) => t17 ≤ bR.length ∧ shift_like_l3 aR bR y0 (bR.drop t17) t17 out = R) (fun (t17 : Nat) (out : Lks) => [(2, pt b1 0), (4, pt b3 0), (5, pt b4 0), (6, .slice (va r5.q) y0.length r5.k), (15, .slice bQ bR.length bK), (16, iv (bR.length : Int)), (17, iv (t17 : Int))]) (fun (t17 : Nat) (out : Lks) => [bx b4 (cLks out) 128, bx b3 (cLks Lks.zero) 128, bx b2 [iv bC, .slice bQ bR.length bK, iv bU.row, iv bU.col, bv bV, iv bS, sv bT] 53, bx b1 [iv aC, .slice aQ aR.length aK, iv aU.row, iv aU.col, bv aV, iv aS, sv aT] 53]) (fun (t17 : Nat) (out : Lks) => [sl cCel (va r5.q) y0, sl cSlc aQ aZ, rowsF cCel aZ aR, sl cSlc bQ bZ, rowsF cCel bZ bR]) (fun (t17 : Nat) (out : Lks) => bR.length - t17) 0 Lks.zero ⟨(by omega), hR⟩ ⟨rfl, rfl, rfl, rfl, rfl, rfl, (by first | rfl | (simp only [List.length_set]; rfl) | (simp; done) | (simp; omega)), trivial⟩ (mk [true, true, true, true] rfl) Foll.refl ?_
 rintro t17 out ⟨hm7, hR⟩
 refine sr 1 rfl ?_
 refine ip 1 0 [(18, bv (decide ((t17 : Int) < (bR.length : Int))))] (by kernel_rfl) ?_
 refine ie ?_
 refine J_seq ?_
 refine J_if rfl (fun h8 => ?_) (fun h8 => ?_)
 ·have h8p : (t17 : Int) < (bR.length : Int) := by simpa using h8
  rw [dropc [] (show t17 < bR.length by omega)] at hR; replace hR := (shift_like_l3.eq_2 ..).symm.trans hR
  refine J_skip ?_
  refine nx ?_
  refine J_seq ?_
  refine J_block ?_
  refine sr 5 rfl ?_
  refine ip 1 4 [(19, iv (t17 : Int))] (by kernel_rfl) ?_
  refine JI_base 3 rfl (by omega) fun a9 hq10 => ?_
  refine JI_fact1 (rows_atD (k := t17) (d := (⟨none, 0, 0⟩ : Slc)) hrowsbRowsrs 4 rfl (by have := hrowsbRowsrs.1; omega)) ?_
  have := rows_cap hrowsbRowsrs (k := t17) (d := (⟨none, 0, 0⟩ : Slc)) (by have := hrowsbRowsrs.1; omega)
  refine ix rfl (det_ixq slt49 rfl rfl hq10 rfl t17 rfl (by omega)) ?_
  refine ix rfl (det_conv (det_ld_one (v := .slice ((bZ.getD t17 (⟨none, 0, 0⟩ : Slc)).q) ((bZ.getD t17 (⟨none, 0, 0⟩ : Slc)).n) ((bZ.getD t17 (⟨none, 0, 0⟩ : Slc)).k)) (us := [.slice ((bZ.getD t17 (⟨none, 0, 0⟩ : Slc)).q) ((bZ.getD t17 (⟨none, 0, 0⟩ : Slc)).n) ((bZ.getD t17 (⟨none, 0, 0⟩ : Slc)).k)]) ty67 rfl rfl (at_slq (c := cSlc) (sz := 1) hq10 (fun _ => rfl) 4 rfl (gd (⟨none, 0, 0⟩ : Slc) (by have := hrowsbRowsrs.1; omega))) rfl) (rows_val hrowsbRowsrs (by have := hrowsbRowsrs.1; omega))) ?_
  refine ip 2 0 [(7, iv (t17 : Int)), (8, .slice ((bZ.getD t17 (⟨none, 0, 0⟩ : Slc)).q) ((bR.getD t17 []).length) ((bZ.getD t17 (⟨none, 0, 0⟩ : Slc)).k))] (by kernel_rfl) ?_
  refine ie ?_
  refine J_seq ?_
  refine sr 4 rfl ?_
  refine ip 1 3 [(22, pt b1 1)] (by kernel_rfl) ?_
  refine ix rfl (det_own_one (v := .slice aQ aR.length aK) ty49 rfl rfl 3 rfl rfl) ?_
  refine ip 2 0 [(24, iv (aR.length : Int)), (25, iv 0)] (by kernel_rfl) ?_
  refine ie ?_
  refine J_block ?_
  refine JL2 (fun (t25 : Nat) (out1 : Lks) => t25 ≤ aR.length ∧ shift_like_l4 bR y0 t17 (shift_like_l3 aR bR y0 (bR.drop (t17 + 1))) (aR.drop t25) t25 out1 = R) (fun (t25 : Nat) (out1 : Lks) => [(2, pt b1 0), (4, pt b3 0), (5, pt b4 0), (6, .slice (va r5.q) y0.length r5.k), (7, iv (t17 : Int)), (8, .slice ((bZ.getD t17 (⟨none, 0, 0⟩ : Slc)).q) ((bR.getD t17 []).length) ((bZ.getD t17 (⟨none, 0, 0⟩ : Slc)).k)), (15, .slice bQ bR.length bK), (16, iv (bR.length : Int)), (17, iv (t17 : Int)), (23, .slice aQ aR.length aK), (24, iv (aR.length : Int)), (25, iv (t25 : Int))]) (fun (t25 : Nat) (out1 : Lks) => [bx b4 (cLks out1) 128, bx b3 (cLks Lks.zero) 128, bx b2 [iv bC, .slice bQ bR.length bK, iv bU.row, iv bU.col, bv bV, iv bS, sv bT] 53, bx b1 [iv aC, .slice aQ aR.length aK, iv aU.row, iv aU.col, bv aV, iv aS, sv aT] 53]) (fun (t25 : Nat) (out1 : Lks) => [sl cCel ((bZ.getD t17 (⟨none, 0, 0⟩ : Slc)).q) (bR.getD t17 []), sl cCel (va r5.q) y0, sl cSlc aQ aZ, rowsF cCel aZ aR, sl cSlc bQ bZ, rowsF cCel bZ bR]) (fun (t25 : Nat) (out1 : Lks) => aR.length - t25) 0 out ⟨(by omega), hR⟩ ⟨rfl, rfl, rfl, rfl, rfl, rfl, rfl, rfl, rfl, rfl, rfl, (by first | rfl | (simp only [List.length_set]; rfl) | (simp; done) | (simp; omega)), trivial⟩ (mk [true, true, true, true] rfl) Foll.refl ?_
  rintro t25 out1 ⟨hm11, hR⟩
  refine sr 1 rfl ?_
  refine ip 1 0 [(26, bv (decide ((t25 : Int) < (aR.length : Int))))] (by kernel_rfl) ?_
  refine ie ?_
  refine J_seq ?_
  refine J_if rfl (fun h12 => ?_) (fun h12 => ?_)
  ·have h12p : (t25 : Int) < (aR.length : Int) := by simpa using h12
   rw [dropc [] (show t25 < aR.length by omega)] at hR; replace hR := (shift_like_l4.eq_2 ..).symm.trans hR
   refine J_skip ?_
   refine nx ?_
   refine J_seq ?_
   refine J_block ?_
   refine sr 5 rfl ?_
   refine ip 1 4 [(27, iv (t25 : Int))] (by kernel_rfl) ?_
   refine JI_base 2 rfl (by omega) fun a13 hq14 => ?_
   refine JI_fact1 (rows_atD (k := t25) (d := (⟨none, 0, 0⟩ : Slc)) hrowsaRowsrs 3 rfl (by have := hrowsaRowsrs.1; omega)) ?_
   have := rows_cap hrowsaRowsrs (k := t25) (d := (⟨none, 0, 0⟩ : Slc)) (by have := hrowsaRowsrs.1; omega)
   refine ix rfl (det_ixq slt49 rfl rfl hq14 rfl t25 rfl (by omega)) ?_
   refine ix rfl (det_conv (det_ld_one (v := .slice ((aZ.getD t25 (⟨none, 0, 0⟩ : Slc)).q) ((aZ.getD t25 (⟨none, 0, 0⟩ : Slc)).n) ((aZ.getD t25 (⟨none, 0, 0⟩ : Slc)).k)) (us := [.slice ((aZ.getD t25 (⟨none, 0, 0⟩ : Slc)).q) ((aZ.getD t25 (⟨none, 0, 0⟩ : Slc)).n) ((aZ.getD t25 (⟨none, 0, 0⟩ : Slc)).k)]) ty67 rfl rfl (at_slq (c := cSlc) (sz := 1) hq14 (fun _ => rfl) 3 rfl (gd (⟨none, 0, 0⟩ : Slc) (by have := hrowsaRowsrs.1; omega))) rfl) (rows_val hrowsaRowsrs (by have := hrowsaRowsrs.1; omega))) ?_
   refine ip 2 0 [(9, iv (t25 : Int)), (10, .slice ((aZ.getD t25 (⟨none, 0, 0⟩ : Slc)).q) ((aR.getD t25 []).length) ((aZ.getD t25 (⟨none, 0, 0⟩ : Slc)).k))] (by kernel_rfl) ?_
   refine ie ?_
   refine sr 3 rfl ?_
   refine ip 2 1 [(30, .slice ((aZ.getD t25 (⟨none, 0, 0⟩ : Slc)).q) ((aR.getD t25 []).length) ((aZ.getD t25 (⟨none, 0, 0⟩ : Slc)).k)), (31, .slice ((bZ.getD t17 (⟨none, 0, 0⟩ : Slc)).q) ((bR.getD t17 []).length) ((bZ.getD t17 (⟨none, 0, 0⟩ : Slc)).k))] (by kernel_rfl) ?_
   refine ixc rfl (det_call (slices_Equal_api_Cell_api_Cell_c (aR.getD t25 []) (bR.getD t17 []) ((aZ.getD t25 (⟨none, 0, 0⟩ : Slc)).q) ((aZ.getD t25 (⟨none, 0, 0⟩ : Slc)).k) ((bZ.getD t17 (⟨none, 0, 0⟩ : Slc)).q) ((bZ.getD t17 (⟨none, 0, 0⟩ : Slc)).k) (by first | omega | (simp <;> omega) | (dsimp only; omega) | decide) (by first | omega | (simp <;> omega) | (dsimp only; omega) | decide) (by first | omega | (simp <;> omega) | (dsimp only; omega) | decide) (by first | omega | (simp <;> omega) | (dsimp only; omega) | decide) _ rfl) rfl rfl rfl rfl rfl (Foll.pick [0, 1] rfl)) ?_
   refine ie ?_
   refine J_if rfl (fun h15 => ?_) (fun h15 => ?_)
   ·replace hR := bt hR h15
    refine sh' 8 [(7, [bx b4 (cLks out1) 128]), (8, [bx b3 (cLks Lks.zero) 128]), (8, [bx b2 [iv bC, .slice bQ bR.length bK, iv bU.row, iv bU.col, bv bV, iv bS, sv bT] 53]), (8, [bx b1 [iv aC, .slice aQ aR.length aK, iv aU.row, iv aU.col, bv aV, iv aS, sv aT] 53])] [sl cCel ((aZ.getD t25 (⟨none, 0, 0⟩ : Slc)).q) (aR.getD t25 []), sl cCel ((bZ.getD t17 (⟨none, 0, 0⟩ : Slc)).q) (bR.getD t17 []), sl cCel (va r5.q) y0, sl cSlc aQ aZ, rowsF cCel aZ aR, sl cSlc bQ bZ, rowsF cCel bZ bR] [bx b4 (cLks out1) 128, bx b3 (cLks Lks.zero) 128, bx b2 [iv bC, .slice bQ bR.length bK, iv bU.row, iv bU.col, bv bV, iv bS, sv bT] 53, bx b1 [iv aC, .slice aQ aR.length aK, iv aU.row, iv aU.col, bv aV, iv aS, sv aT] 53] #[false, false, false, false, false, false, false, false] (by kernel_rfl) rfl (by kernel_rfl) (by kernel_rfl) (by kernel_rfl) (mk [true, true, true, true] rfl) Foll.refl ?_
    refine hpur [0, 3] 6 #[true, false, false, true, false, false, false, false] [(33, iv (t25 : Int)), (36, iv (t17 : Int))] (by kernel_rfl) ?_
    refine htak 1 [bx b4 (cLks out1) 128, bx b3 (cLks Lks.zero) 128, bx b2 [iv bC, .slice bQ bR.length bK, iv bU.row, iv bU.col, bv bV, iv bS, sv bT] 53, bx b1 [iv aC, .slice aQ aR.length aK, iv aU.row, iv aU.col, bv aV, iv aS, sv aT] 53] #[true, true, false, true, false, false, false, false] rfl rfl rfl (by kernel_rfl) (by kernel_rfl) (by kernel_rfl) (det_ix_ownk Tryz.underlying128 ty126 rfl rfl rfl t25 rfl (by omega)) ?_
    refine htak 2 [bx b4 (cLks out1) 128, bx b3 (cLks Lks.zero) 128, bx b2 [iv bC, .slice bQ bR.length bK, iv bU.row, iv bU.col, bv bV, iv bS, sv bT] 53, bx b1 [iv aC, .slice aQ aR.length aK, iv aU.row, iv aU.col, bv aV, iv aS, sv aT] 53] #[true, true, true, true, false, false, false, false] rfl rfl rfl (by kernel_rfl) (by kernel_rfl) (by kernel_rfl) (det_own_one (v := .int .u64 (out1.f t25)) ty126 rfl rfl 0 rfl (by rw [Nat.mul_one]; exact cLks_get _ (by omega))) ?_
    refine htak 4 [bx b4 (cLks out1) 128, bx b3 (cLks Lks.zero) 128, bx b2 [iv bC, .slice bQ bR.length bK, iv bU.row, iv bU.col, bv bV, iv bS, sv bT] 53, bx b1 [iv aC, .slice aQ aR.length aK, iv aU.row, iv aU.col, bv aV, iv aS, sv aT] 53] #[true, true, true, true, true, false, false, false] rfl rfl rfl (by kernel_rfl) (by kernel_rfl) (by kernel_rfl) (det_shl rfl rfl rfl (by omega) rfl) ?_
    refine hpur [5] 2 #[true, true, true, true, true, true, false, false] [(38, .int .u64 (bOp .or .u64 (out1.f t25) (IntKind.u64.wrap ((1 : Int) * 2 ^ (min ((t17 : Int)).toNat 64)))))] (by kernel_rfl) ?_
    refine htak 6 [bx b4 (cLks out1) 128, bx b3 (cLks Lks.zero) 128, bx b2 [iv bC, .slice bQ bR.length bK, iv bU.row, iv bU.col, bv bV, iv bS, sv bT] 53, bx b1 [iv aC, .slice aQ aR.length aK, iv aU.row, iv aU.col, bv aV, iv aS, sv aT] 53] #[true, true, true, true, true, true, true, false] rfl rfl rfl (by kernel_rfl) (by kernel_rfl) (by kernel_rfl) (det_ix_ownk Tryz.underlying128 ty126 rfl rfl rfl t25 rfl (by omega)) ?_
    refine hone 7 [bx b3 (cLks Lks.zero) 128, bx b2 [iv bC, .slice bQ bR.length bK, iv bU.row, iv bU.col, bv bV, iv bS, sv bT] 53, bx b1 [iv aC, .slice aQ aR.length aK, iv aU.row, iv aU.col, bv aV, iv aS, sv aT] 53] #[true, true, true, true, true, true, true, true] rfl rfl rfl (by kernel_rfl) (by kernel_rfl) (by kernel_rfl) (tri_store (us := [.int .u64 (bOp .or .u64 (out1.f t25) (IntKind.u64.wrap ((1 : Int) * 2 ^ (min ((t17 : Int)).toNat 64))))]) (cs' := cLks (out1.put t25 (bOp .or .u64 (out1.f t25) (IntKind.u64.wrap ((1 : Int) * 2 ^ (min ((t17 : Int)).toNat 64)))))) ty126 rfl rfl rfl 0 rfl rfl rfl rfl (cLks_put _ (by omega) _) (Nat.ble_eq_true_of_le (by show _ ≤ 41; omega))) (fun _ => (mk [false, true, true, true] rfl)) (fun _ => Foll.refl) fun _ => ?_
    refine JH_done (by kernel_rfl) ?_
    refine nx ?_
    refine J_region 2 rfl ?_
    refine ix rfl (det_add64 rfl rfl rfl rfl (by omega)) ?_
    refine ip 1 0 [(25, iv ((t25 : Int) + 1))] (by kernel_rfl) ?_
    refine JI_end ?_
    exact againL2 (z1 := t25) (z2 := out1) (t25 + 1) (out1.put t25 (bOp .or .u64 (out1.f t25) (IntKind.u64.wrap ((1 : Int) * 2 ^ (min ((t17 : Int)).toNat 64))))) ⟨(by omega), hR⟩ (by (try dsimp only); omega) ⟨rfl, rfl, rfl, rfl, rfl, rfl, rfl, rfl, rfl, rfl, rfl, (by first | rfl | (simp only [List.length_set]; rfl) | (simp; done) | (simp; omega)), trivial⟩ (mk [true, true, true, true] rfl) (Foll.pick [1, 2, 3, 4, 5, 6] rfl)
   ·replace hR := bf hR h15
    refine J_skip ?_
    refine nx ?_
    refine J_region 2 rfl ?_
    refine ix rfl (det_add64 rfl rfl rfl rfl (by omega)) ?_
    refine ip 1 0 [(25, iv ((t25 : Int) + 1))] (by kernel_rfl) ?_
    refine JI_end ?_
    exact againL2 (z1 := t25) (z2 := out1) (t25 + 1) out1 ⟨(by omega), hR⟩ (by (try dsimp only); omega) ⟨rfl, rfl, rfl, rfl, rfl, rfl, rfl, rfl, rfl, rfl, rfl, (by first | rfl | (simp only [List.length_set]; rfl) | (simp; done) | (simp; omega)), trivial⟩ (mk [true, true, true, true] rfl) (Foll.pick [1, 2, 3, 4, 5, 6] rfl)
  ·have h12p : ¬ ((t25 : Int) < (aR.length : Int)) := by simpa using h12
   rw [dropn h12p] at hR; replace hR := (shift_like_l4.eq_1 ..).symm.trans hR
   refine J_exit ?_
   refine nx ?_
   refine sr 3 rfl ?_
   refine ip 2 1 [(41, .slice (va r5.q) y0.length r5.k), (42, .slice ((bZ.getD t17 (⟨none, 0, 0⟩ : Slc)).q) ((bR.getD t17 []).length) ((bZ.getD t17 (⟨none, 0, 0⟩ : Slc)).k))] (by kernel_rfl) ?_
   refine ixc rfl (det_call (slices_Equal_api_Cell_api_Cell_c y0 (bR.getD t17 []) (va r5.q) r5.k ((bZ.getD t17 (⟨none, 0, 0⟩ : Slc)).q) ((bZ.getD t17 (⟨none, 0, 0⟩ : Slc)).k) (by first | omega | (simp <;> omega) | (dsimp only; omega) | decide) (by first | omega | (simp <;> omega) | (dsimp only; omega) | decide) (by first | omega | (simp <;> omega) | (dsimp only; omega) | decide) (by first | omega | (simp <;> omega) | (dsimp only; omega) | decide) _ rfl) rfl rfl rfl rfl rfl (Foll.pick [1, 0] rfl)) ?_
   refine ie ?_
   refine J_if rfl (fun h16 => ?_) (fun h16 => ?_)
   ·replace hR := bt hR h16
    refine sh' 7 [(6, [bx b4 (cLks out1) 128]), (7, [bx b3 (cLks Lks.zero) 128]), (7, [bx b2 [iv bC, .slice bQ bR.length bK, iv bU.row, iv bU.col, bv bV, iv bS, sv bT] 53]), (7, [bx b1 [iv aC, .slice aQ aR.length aK, iv aU.row, iv aU.col, bv aV, iv aS, sv aT] 53])] [sl cCel ((bZ.getD t17 (⟨none, 0, 0⟩ : Slc)).q) (bR.getD t17 []), sl cCel (va r5.q) y0, sl cSlc aQ aZ, rowsF cCel aZ aR, sl cSlc bQ bZ, rowsF cCel bZ bR] [bx b4 (cLks out1) 128, bx b3 (cLks Lks.zero) 128, bx b2 [iv bC, .slice bQ bR.length bK, iv bU.row, iv bU.col, bv bV, iv bS, sv bT] 53, bx b1 [iv aC, .slice aQ aR.length aK, iv aU.row, iv aU.col, bv aV, iv aS, sv aT] 53] #[false, false, false, false, false, false, false] (by kernel_rfl) rfl (by kernel_rfl) (by kernel_rfl) (by kernel_rfl) (mk [true, true, true, true] rfl) Foll.refl ?_
    refine hpur [2] 6 #[false, false, true, false, false, false, false] [(46, iv (t17 : Int))] (by kernel_rfl) ?_
    refine htak 0 [bx b4 (cLks out1) 128, bx b3 (cLks Lks.zero) 128, bx b2 [iv bC, .slice bQ bR.length bK, iv bU.row, iv bU.col, bv bV, iv bS, sv bT] 53, bx b1 [iv aC, .slice aQ aR.length aK, iv aU.row, iv aU.col, bv aV, iv aS, sv aT] 53] #[true, false, true, false, false, false, false] rfl rfl rfl (by kernel_rfl) (by kernel_rfl) (by kernel_rfl) (det_ix_ownk Tryz.underlying128 ty126 rfl rfl rfl 40 rfl (by omega)) ?_
    refine htak 1 [bx b4 (cLks out1) 128, bx b3 (cLks Lks.zero) 128, bx b2 [iv bC, .slice bQ bR.length bK, iv bU.row, iv bU.col, bv bV, iv bS, sv bT] 53, bx b1 [iv aC, .slice aQ aR.length aK, iv aU.row, iv aU.col, bv aV, iv aS, sv aT] 53] #[true, true, true, false, false, false, false] rfl rfl rfl (by kernel_rfl) (by kernel_rfl) (by kernel_rfl) (det_own_one (v := .int .u64 (out1.f 40)) ty126 rfl rfl 0 rfl (by rw [Nat.mul_one]; exact cLks_get _ (by omega))) ?_
    refine htak 3 [bx b4 (cLks out1) 128, bx b3 (cLks Lks.zero) 128, bx b2 [iv bC, .slice bQ bR.length bK, iv bU.row, iv bU.col, bv bV, iv bS, sv bT] 53, bx b1 [iv aC, .slice aQ aR.length aK, iv aU.row, iv aU.col, bv aV, iv aS, sv aT] 53] #[true, true, true, true, false, false, false] rfl rfl rfl (by kernel_rfl) (by kernel_rfl) (by kernel_rfl) (det_shl rfl rfl rfl (by omega) rfl) ?_
    refine hpur [4] 2 #[true, true, true, true, true, false, false] [(48, .int .u64 (bOp .or .u64 (out1.f 40) (IntKind.u64.wrap ((1 : Int) * 2 ^ (min ((t17 : Int)).toNat 64)))))] (by kernel_rfl) ?_
    refine htak 5 [bx b4 (cLks out1) 128, bx b3 (cLks Lks.zero) 128, bx b2 [iv bC, .slice bQ bR.length bK, iv bU.row, iv bU.col, bv bV, iv bS, sv bT] 53, bx b1 [iv aC, .slice aQ aR.length aK, iv aU.row, iv aU.col, bv aV, iv aS, sv aT] 53] #[true, true, true, true, true, true, false] rfl rfl rfl (by kernel_rfl) (by kernel_rfl) (by kernel_rfl) (det_ix_ownk Tryz.underlying128 ty126 rfl rfl rfl 40 rfl (by omega)) ?_
    refine hone 6 [bx b3 (cLks Lks.zero) 128, bx b2 [iv bC, .slice bQ bR.length bK, iv bU.row, iv bU.col, bv bV, iv bS, sv bT] 53, bx b1 [iv aC, .slice aQ aR.length aK, iv aU.row, iv aU.col, bv aV, iv aS, sv aT] 53] #[true, true, true, true, true, true, true] rfl rfl rfl (by kernel_rfl) (by kernel_rfl) (by kernel_rfl) (tri_store (us := [.int .u64 (bOp .or .u64 (out1.f 40) (IntKind.u64.wrap ((1 : Int) * 2 ^ (min ((t17 : Int)).toNat 64))))]) (cs' := cLks (out1.put 40 (bOp .or .u64 (out1.f 40) (IntKind.u64.wrap ((1 : Int) * 2 ^ (min ((t17 : Int)).toNat 64)))))) ty126 rfl rfl rfl 0 rfl rfl rfl rfl (cLks_put _ (by omega) _) (Nat.ble_eq_true_of_le (by show _ ≤ 41; omega))) (fun _ => (mk [false, true, true, true] rfl)) (fun _ => Foll.refl) fun _ => ?_
    refine JH_done (by kernel_rfl) ?_
    refine nx ?_
    refine J_region 2 rfl ?_
    refine ix rfl (det_add64 rfl rfl rfl rfl (by omega)) ?_
    refine ip 1 0 [(17, iv ((t17 : Int) + 1))] (by kernel_rfl) ?_
    refine JI_end ?_
    exact againL2 (z1 := t17) (z2 := out) (t17 + 1) (out1.put 40 (bOp .or .u64 (out1.f 40) (IntKind.u64.wrap ((1 : Int) * 2 ^ (min ((t17 : Int)).toNat 64))))) ⟨(by omega), hR⟩ (by (try dsimp only); omega) ⟨rfl, rfl, rfl, rfl, rfl, rfl, (by first | rfl | (simp only [List.length_set]; rfl) | (simp; done) | (simp; omega)), trivial⟩ (mk [true, true, true, true] rfl) (Foll.pick [1, 2, 3, 4, 5] rfl)
   ·replace hR := bf hR h16
    refine J_skip ?_
    refine nx ?_
    refine J_region 2 rfl ?_
    refine ix rfl (det_add64 rfl rfl rfl rfl (by omega)) ?_
    refine ip 1 0 [(17, iv ((t17 : Int) + 1))] (by kernel_rfl) ?_
    refine JI_end ?_
    exact againL2 (z1 := t17) (z2 := out) (t17 + 1) out1 ⟨(by omega), hR⟩ (by (try dsimp only); omega) ⟨rfl, rfl, rfl, rfl, rfl, rfl, (by first | rfl | (simp only [List.length_set]; rfl) | (simp; done) | (simp; omega)), trivial⟩ (mk [true, true, true, true] rfl) (Foll.pick [1, 2, 3, 4, 5] rfl)
 ·have h8p : ¬ ((t17 : Int) < (bR.length : Int)) := by simpa using h8
  rw [dropn h8p] at hR; replace hR := (shift_like_l3.eq_1 ..).symm.trans hR
  refine J_exit ?_
  refine nx ?_
  refine sr 2 rfl ?_
  refine ix rfl (det_own_agg (us := cLks out) ty128 rfl rfl 0 rfl rfl rfl) ?_
  refine it rfl (tri_store (us := cLks out) (cs' := cLks out) ty128 rfl rfl rfl 1 rfl rfl rfl rfl rfl rfl) fun _ => ?_
  refine ie ?_
  refine J_ret ?_
  subst hR
  exact ends_ret rfl ⟨hr, hD⟩ (by simp [hD]) (res1 rfl (resV_cell (us := cLks out) ty128 rfl 1 rfl rfl rfl)) () (by rfl) (mk [false, false, false, false] rfl) Foll.nil

def shift_likes_is (l : Lks) (row : Int) (other : Int) : Bool :=
 (bif (decide (row < 0)) then (decide ((bOp .and .u64 (Int.fdiv (l.f 40) (2 ^ (min (other).toNat 64))) 1) = 1)) else (decide ((bOp .and .u64 (Int.fdiv (l.f ((row).toNat)) (2 ^ (min (other).toNat 64))) 1) = 1)))

theorem shift_likes_is_c (l : Lks) (row : Int) (other : Int) (lb : Nat) (ho : 0 ≤ other ∧ other ≤ 40) (hr : row ≤ 40) (R : Bool) (hR : shift_likes_is l row other = R) : Con Tryz.prog 129 [pt lb 0, iv row, iv other] [bx lb (cLks l) 128] [] (Unit) (fun x => bv R) (fun x => [bx lb (cLks l) 128]) (fun x => []) := by
 refine con_of_J (n := 18) Tryz.func129 rfl (by kernel_rfl) rfl rfl [(0, pt lb 0), (1, iv row), (2, iv other)] ⟨rfl, rfl, rfl, trivial⟩ fun X hX hr hD => ?_
 replace hR := (shift_likes_is.eq_1 ..).symm.trans hR
 refine sr 1 rfl ?_
 refine ip 1 0 [] (by kernel_rfl) ?_
 refine ie ?_
 refine J_seq ?_
 refine sr 2 rfl ?_
 refine ip 2 0 [(8, bv (decide (row < 0)))] (by kernel_rfl) ?_
 refine ie ?_
 refine J_if rfl (fun h1 => ?_) (fun h1 => ?_)
 ·have h1p : row < 0 := by simpa using h1
  replace hR := bt hR h1
  refine J_region 1 rfl ?_
  refine ip 1 0 [(1, iv 40)] (by kernel_rfl) ?_
  refine JI_end ?_
  refine nx ?_
  refine sr 10 rfl ?_
  refine ip 3 7 [(10, iv 40), (11, pt lb 0)] (by kernel_rfl) ?_
  refine ix rfl (det_ix_ownk Tryz.underlying128 ty126 rfl rfl rfl 40 rfl (by omega)) ?_
  refine ix rfl (det_own_one (v := .int .u64 (l.f 40)) ty126 rfl rfl 0 rfl (by rw [Nat.mul_one]; exact cLks_get _ (by omega))) ?_
  refine ip 1 4 [(14, iv other)] (by kernel_rfl) ?_
  refine ix rfl (det_shr rfl rfl rfl (by omega) rfl) ?_
  refine ip 3 0 [(6, bv (decide ((bOp .and .u64 (Int.fdiv (l.f 40) (2 ^ (min (other).toNat 64))) 1) = 1)))] (by kernel_rfl) ?_
  refine ie ?_
  refine J_ret ?_
  subst hR
  exact ends_ret rfl ⟨hr, hD⟩ (by simp [hD]) (res1 rfl (resV_tmp rfl)) () (by rfl) (mk [true] rfl) Foll.nil
 ·have h1p : ¬ (row < 0) := by simpa using h1
  replace hR := bf hR h1
  refine J_skip ?_
  refine nx ?_
  refine sr 10 rfl ?_
  refine ip 3 7 [(10, iv row), (11, pt lb 0)] (by kernel_rfl) ?_
  refine ix rfl (det_ix_ownk Tryz.underlying128 ty126 rfl rfl rfl ((row).toNat) (by omega) (by omega)) ?_
  refine ix rfl (det_own_one (v := .int .u64 (l.f ((row).toNat))) ty126 rfl rfl 0 rfl (by rw [Nat.mul_one]; exact cLks_get _ (by omega))) ?_
  refine ip 1 4 [(14, iv other)] (by kernel_rfl) ?_
  refine ix rfl (det_shr rfl rfl rfl (by omega) rfl) ?_
  refine ip 3 0 [(6, bv (decide ((bOp .and .u64 (Int.fdiv (l.f ((row).toNat)) (2 ^ (min (other).toNat 64))) 1) = 1)))] (by kernel_rfl) ?_
  refine ie ?_
  refine J_ret ?_
  subst hR
  exact ends_ret rfl ⟨hr, hD⟩ (by simp [hD]) (res1 rfl (resV_tmp rfl)) () (by rfl) (mk [true] rfl) Foll.nil

def shIn (s : Shf) : Prop := 0 ≤ s.top ∧ s.top ≤ s.bottom ∧ s.bottom ≤ 39 ∧ -39 ≤ s.amt ∧ s.amt ≤ 39

def shift_gain_l0 (l : Lks) (s : Shf) : Nat → Int → Int → Int
 | 0, _, _ => 0
 | fu1 + 1, n, r => (bif (decide (r ≤ s.bottom)) then (bif ((shift_likes_is l (shift_source s r) r) && (!(shift_likes_is l r r))) then (bif ((shift_likes_is l r r) && (!(shift_likes_is l (shift_source s r) r))) then shift_gain_l0 l s fu1 ((n + 1) - 1) (r + 1) else shift_gain_l0 l s fu1 (n + 1) (r + 1)) else (bif ((shift_likes_is l r r) && (!(shift_likes_is l (shift_source s r) r))) then shift_gain_l0 l s fu1 (n - 1) (r + 1) else shift_gain_l0 l s fu1 n (r + 1))) else n)
def shift_gain (l : Lks) (s : Shf) : Int :=
 shift_gain_l0 l s ((s.bottom + 1 - s.top).toNat + 1) 0 s.top

theorem shift_gain_c (l : Lks) (s : Shf) (lb : Nat) (hg : 0 ≤ s.top ∧ s.top ≤ s.bottom ∧ s.bottom ≤ 39 ∧ -39 ≤ s.amt ∧ s.amt ≤ 39) (R : Int) (hR : shift_gain l s = R) : Con Tryz.prog 73 [pt lb 0, ag (cShf s)] [bx lb (cLks l) 128] [] (Unit) (fun x => iv R) (fun x => [bx lb (cLks l) 128]) (fun x => []) := by
 refine con_of_J (n := 45) Tryz.func73 rfl (by kernel_rfl) rfl rfl [(0, pt lb 0), (1, ag (cShf s))] ⟨rfl, rfl, trivial⟩ fun X hX hr hD => ?_
 replace hR := (shift_gain.eq_1 ..).symm.trans hR
 refine sr 2 rfl ?_
 refine it rfl (tri_box (cs := cShf s) rfl rfl rfl) fun b1 => ?_
 refine ip 1 0 [] (by kernel_rfl) ?_
 refine ie ?_
 refine sr 4 rfl ?_
 refine ip 4 0 [(5, .func (.func 129) #[pt lb 0] #[]), (6, iv 0)] (by kernel_rfl) ?_
 refine ie ?_
 refine J_seq ?_
 refine sr 3 rfl ?_
 refine ip 1 2 [(12, pt b1 0)] (by kernel_rfl) ?_
 refine ix rfl (det_own_one (v := iv s.top) ty3 rfl rfl 0 rfl rfl) ?_
 refine ip 1 0 [(7, iv s.top)] (by kernel_rfl) ?_
 refine ie ?_
 refine J_block ?_
 refine JL3 (fun (fu : Nat) (n : Int) (r : Int) => (s.bottom + 1 - r).toNat < fu ∧ shift_gain_l0 l s fu n r = R ∧ s.top ≤ r ∧ r ≤ s.bottom + 1 ∧ -(r - s.top) ≤ n ∧ n ≤ r - s.top) (fun (fu : Nat) (n : Int) (r : Int) => [(3, pt b1 0), (5, .func (.func 129) #[pt lb 0] #[]), (6, iv n), (7, iv r)]) (fun (fu : Nat) (n : Int) (r : Int) => [bx b1 (cShf s) 55, bx lb (cLks l) 128]) (fun (fu : Nat) (n : Int) (r : Int) => []) (fun (fu : Nat) (n : Int) (r : Int) => fu) ((s.bottom + 1 - s.top).toNat + 1) 0 s.top ⟨(Nat.lt_succ_self _), hR, (by omega), (by omega)⟩ ⟨rfl, rfl, (by first | rfl | (simp only [List.length_set]; rfl) | (simp; done) | (simp; omega)), (by first | rfl | (simp only [List.length_set]; rfl) | (simp; done) | (simp; omega)), trivial⟩ (mk [true, true] rfl) Foll.nil ?_
 rintro fu n r ⟨hm2, hR, hrr, hn⟩
 obtain ⟨fu1, rfl⟩ : ∃ m, fu = m + 1 := ⟨fu - 1, by omega⟩
 replace hR := (shift_gain_l0.eq_2 ..).symm.trans hR
 refine J_seq ?_
 refine sr 4 rfl ?_
 refine ip 2 2 [(14, iv r), (15, pt b1 1)] (by kernel_rfl) ?_
 refine ix rfl (det_own_one (v := iv s.bottom) ty3 rfl rfl 0 rfl rfl) ?_
 refine ip 1 0 [(17, bv (decide (r ≤ s.bottom)))] (by kernel_rfl) ?_
 refine ie ?_
 refine J_if rfl (fun h3 => ?_) (fun h3 => ?_)
 ·have h3p : r ≤ s.bottom := by simpa using h3
  replace hR := bt hR h3
  refine J_skip ?_
  refine nx ?_
  refine J_seq ?_
  refine J_block ?_
  refine sh 12 [(12, [bx b1 (cShf s) 55]), (12, [bx lb (cLks l) 128])] [] [bx b1 (cShf s) 55, bx lb (cLks l) 128] #[false, false, false, false, false, false, false, false, false, false, false, false] (by kernel_rfl) rfl (by kernel_rfl) (by kernel_rfl) (by kernel_rfl) (mk [true, true] rfl) Foll.refl ?_
  refine hpur [0, 1, 2, 4, 6, 8] 6 #[true, true, true, false, true, false, true, false, true, false, false, false] [(20, .func (.func 129) #[pt lb 0] #[]), (21, iv r), (22, iv r), (24, .func (.func 129) #[pt lb 0] #[]), (26, iv r), (28, iv r)] (by kernel_rfl) ?_
  refine htak 5 [bx b1 (cShf s) 55, bx lb (cLks l) 128] #[true, true, true, false, true, true, true, false, true, false, false, false] rfl rfl rfl (by kernel_rfl) (by kernel_rfl) (by kernel_rfl) (det_own_agg (us := cShf s) ty55 rfl rfl 0 rfl rfl rfl) ?_
  refine hone 3 [bx b1 (cShf s) 55, bx lb (cLks l) 128] #[true, true, true, true, true, true, true, false, true, false, false, false] rfl rfl rfl (by kernel_rfl) (by kernel_rfl) (by kernel_rfl) (tri_callP (L2 := [bx b1 (cShf s) 55]) (shift_likes_is_c l r r lb (by first | omega | (simp <;> omega)) (by first | omega | (have := (shift_source_le s r).2 41 (by omega) (by omega) (by omega); omega)) _ rfl) rfl rfl rfl rfl rfl Foll.nil (permC [[bx b1 (cShf s) 55], [bx lb (cLks l) 128]] [1, 0] 2 rfl (by decide) rfl [[bx lb (cLks l) 128], [bx b1 (cShf s) 55]] rfl (by first | rfl | simp only [List.flatten_cons, List.flatten_nil, List.append_nil, List.cons_append, List.nil_append, List.append_assoc])) (fun _ => [bx b1 (cShf s) 55, bx lb (cLks l) 128]) (fun _ => permC [[bx lb (cLks l) 128], [bx b1 (cShf s) 55]] [1, 0] 2 rfl (by decide) (by first | rfl | simp only [List.flatten_cons, List.flatten_nil, List.append_nil, List.cons_append, List.nil_append, List.append_assoc]) [[bx b1 (cShf s) 55], [bx lb (cLks l) 128]] rfl (by first | rfl | simp only [List.flatten_cons, List.flatten_nil, List.append_nil, List.cons_append, List.nil_append, List.append_assoc]))) (fun _ => (mk [true, true] rfl)) (fun _ => Foll.nil) fun _ => ?_
  refine hone 7 [bx b1 (cShf s) 55, bx lb (cLks l) 128] #[true, true, true, true, true, true, true, true, true, false, false, false] rfl rfl rfl (by kernel_rfl) (by kernel_rfl) (by kernel_rfl) (Det.tri (det_call (shift_source_c s r (by first | omega | (simp <;> omega)) (by first | omega | (simp <;> omega)) _ rfl) rfl rfl rfl rfl rfl Foll.nil)) (fun _ => (mk [true, true] rfl)) (fun _ => Foll.nil) fun _ => ?_
  have hsrc := shift_source_le s r
  refine hone 9 [bx b1 (cShf s) 55, bx lb (cLks l) 128] #[true, true, true, true, true, true, true, true, true, true, false, false] rfl rfl rfl (by kernel_rfl) (by kernel_rfl) (by kernel_rfl) (tri_callP (L2 := [bx b1 (cShf s) 55]) (shift_likes_is_c l (shift_source s r) r lb (by first | omega | (simp <;> omega)) (by first | omega | (have := (shift_source_le s r).2 41 (by omega) (by omega) (by omega); omega)) _ rfl) rfl rfl rfl rfl rfl Foll.nil (permC [[bx b1 (cShf s) 55], [bx lb (cLks l) 128]] [1, 0] 2 rfl (by decide) rfl [[bx lb (cLks l) 128], [bx b1 (cShf s) 55]] rfl (by first | rfl | simp only [List.flatten_cons, List.flatten_nil, List.append_nil, List.cons_append, List.nil_append, List.append_assoc])) (fun _ => [bx b1 (cShf s) 55, bx lb (cLks l) 128]) (fun _ => permC [[bx lb (cLks l) 128], [bx b1 (cShf s) 55]] [1, 0] 2 rfl (by decide) (by first | rfl | simp only [List.flatten_cons, List.flatten_nil, List.append_nil, List.cons_append, List.nil_append, List.append_assoc]) [[bx b1 (cShf s) 55], [bx lb (cLks l) 128]] rfl (by first | rfl | simp only [List.flatten_cons, List.flatten_nil, List.append_nil, List.cons_append, List.nil_append, List.append_assoc]))) (fun _ => (mk [true, true] rfl)) (fun _ => Foll.nil) fun _ => ?_
  refine hpur [10, 11] 0 #[true, true, true, true, true, true, true, true, true, true, true, true] [(8, bv (shift_likes_is l r r)), (9, bv (shift_likes_is l (shift_source s r) r))] (by kernel_rfl) ?_
  refine hend (by kernel_rfl) ?_
  refine J_seq ?_
  refine sr 5 rfl ?_
  refine ip 2 3 [(31, bv (shift_likes_is l (shift_source s r) r))] (by kernel_rfl) ?_
  refine iand 3 0 31 34 (!(shift_likes_is l r r)) rfl (by kernel_rfl) (fun g4 => ?_) ?_
  ·refine ip 3 0 [(34, bv (!(shift_likes_is l r r)))] (by kernel_rfl) ?_
   exact JI_end (armI 2 31 34 g4 Foll.nil (mk [true, true] rfl) rfl rfl rfl rfl rfl)
  refine ie ?_
  refine J_if rfl (fun h5 => ?_) (fun h5 => ?_)
  ·have h5p := h5; try simp at h5p
   replace hR := bt hR h5
   refine J_region 3 rfl ?_
   refine ip 1 2 [(35, iv n)] (by kernel_rfl) ?_
   refine ix rfl (det_add64 rfl rfl rfl rfl (by omega)) ?_
   refine ip 1 0 [(6, iv (n + 1))] (by kernel_rfl) ?_
   refine JI_end ?_
   refine nx ?_
   refine sr 5 rfl ?_
   refine ip 2 3 [(38, bv (shift_likes_is l r r))] (by kernel_rfl) ?_
   refine iand 3 0 38 41 (!(shift_likes_is l (shift_source s r) r)) rfl (by kernel_rfl) (fun g6 => ?_) ?_
   ·refine ip 3 0 [(41, bv (!(shift_likes_is l (shift_source s r) r)))] (by kernel_rfl) ?_
    exact JI_end (armI 2 38 41 g6 Foll.nil (mk [true, true] rfl) rfl rfl rfl rfl rfl)
   refine ie ?_
   refine J_if rfl (fun h7 => ?_) (fun h7 => ?_)
   ·have h7p := h7; try simp at h7p
    replace hR := bt hR h7
    refine J_region 3 rfl ?_
    refine ip 1 2 [(42, iv (n + 1))] (by kernel_rfl) ?_
    refine ix rfl (det_sub64 rfl rfl rfl rfl (by omega)) ?_
    refine ip 1 0 [(6, iv ((n + 1) - 1))] (by kernel_rfl) ?_
    refine JI_end ?_
    refine nx ?_
    refine J_region 3 rfl ?_
    refine ip 1 2 [(18, iv r)] (by kernel_rfl) ?_
    refine ix rfl (det_add64 rfl rfl rfl rfl (by omega)) ?_
    refine ip 1 0 [(7, iv (r + 1))] (by kernel_rfl) ?_
    refine JI_end ?_
    exact againL3 (z1 := (fu1 + 1)) (z2 := n) (z3 := r) fu1 ((n + 1) - 1) (r + 1) ⟨(by omega), hR, (by omega), (by omega)⟩ (Nat.lt_succ_self _) ⟨rfl, rfl, (by first | rfl | (simp only [List.length_set]; rfl) | (simp; done) | (simp; omega)), (by first | rfl | (simp only [List.length_set]; rfl) | (simp; done) | (simp; omega)), trivial⟩ (mk [true, true] rfl) Foll.nil
   ·have h7p := h7; try simp at h7p
    replace hR := bf hR h7
    refine J_skip ?_
    refine nx ?_
    refine J_region 3 rfl ?_
    refine ip 1 2 [(18, iv r)] (by kernel_rfl) ?_
    refine ix rfl (det_add64 rfl rfl rfl rfl (by omega)) ?_
    refine ip 1 0 [(7, iv (r + 1))] (by kernel_rfl) ?_
    refine JI_end ?_
    exact againL3 (z1 := (fu1 + 1)) (z2 := n) (z3 := r) fu1 (n + 1) (r + 1) ⟨(by omega), hR, (by omega), (by omega)⟩ (Nat.lt_succ_self _) ⟨rfl, rfl, (by first | rfl | (simp only [List.length_set]; rfl) | (simp; done) | (simp; omega)), (by first | rfl | (simp only [List.length_set]; rfl) | (simp; done) | (simp; omega)), trivial⟩ (mk [true, true] rfl) Foll.nil
  ·have h5p := h5; try simp at h5p
   replace hR := bf hR h5
   refine J_skip ?_
   refine nx ?_
   refine sr 5 rfl ?_
   refine ip 2 3 [(38, bv (shift_likes_is l r r))] (by kernel_rfl) ?_
   refine iand 3 0 38 41 (!(shift_likes_is l (shift_source s r) r)) rfl (by kernel_rfl) (fun g8 => ?_) ?_
   ·refine ip 3 0 [(41, bv (!(shift_likes_is l (shift_source s r) r)))] (by kernel_rfl) ?_
    exact JI_end (armI 2 38 41 g8 Foll.nil (mk [true, true] rfl) rfl rfl rfl rfl rfl)
   refine ie ?_
   refine J_if rfl (fun h9 => ?_) (fun h9 => ?_)
   ·have h9p := h9; try simp at h9p
    replace hR := bt hR h9
    refine J_region 3 rfl ?_
    refine ip 1 2 [(42, iv n)] (by kernel_rfl) ?_
    refine ix rfl (det_sub64 rfl rfl rfl rfl (by omega)) ?_
    refine ip 1 0 [(6, iv (n - 1))] (by kernel_rfl) ?_
    refine JI_end ?_
    refine nx ?_
    refine J_region 3 rfl ?_
    refine ip 1 2 [(18, iv r)] (by kernel_rfl) ?_
    refine ix rfl (det_add64 rfl rfl rfl rfl (by omega)) ?_
    refine ip 1 0 [(7, iv (r + 1))] (by kernel_rfl) ?_
    refine JI_end ?_
    exact againL3 (z1 := (fu1 + 1)) (z2 := n) (z3 := r) fu1 (n - 1) (r + 1) ⟨(by omega), hR, (by omega), (by omega)⟩ (Nat.lt_succ_self _) ⟨rfl, rfl, (by first | rfl | (simp only [List.length_set]; rfl) | (simp; done) | (simp; omega)), (by first | rfl | (simp only [List.length_set]; rfl) | (simp; done) | (simp; omega)), trivial⟩ (mk [true, true] rfl) Foll.nil
   ·have h9p := h9; try simp at h9p
    replace hR := bf hR h9
    refine J_skip ?_
    refine nx ?_
    refine J_region 3 rfl ?_
    refine ip 1 2 [(18, iv r)] (by kernel_rfl) ?_
    refine ix rfl (det_add64 rfl rfl rfl rfl (by omega)) ?_
    refine ip 1 0 [(7, iv (r + 1))] (by kernel_rfl) ?_
    refine JI_end ?_
    exact againL3 (z1 := (fu1 + 1)) (z2 := n) (z3 := r) fu1 n (r + 1) ⟨(by omega), hR, (by omega), (by omega)⟩ (Nat.lt_succ_self _) ⟨rfl, rfl, rfl, (by first | rfl | (simp only [List.length_set]; rfl) | (simp; done) | (simp; omega)), trivial⟩ (mk [true, true] rfl) Foll.nil
 ·have h3p : ¬ (r ≤ s.bottom) := by simpa using h3
  replace hR := bf hR h3
  refine J_exit ?_
  refine nx ?_
  refine sr 2 rfl ?_
  refine ip 2 0 [(4, iv n)] (by kernel_rfl) ?_
  refine ie ?_
  refine J_ret ?_
  subst hR
  exact ends_ret rfl ⟨hr, hD⟩ (by simp [hD]) (res1 rfl (resV_tmp rfl)) () (by rfl) (mk [false, true] rfl) Foll.nil

def shift_Gain (aC : Int) (aR : List (List Cel)) (aU : Plc) (aV : Bool) (aS : Int) (aT : List UInt8) (bC : Int) (bR : List (List Cel)) (bU : Plc) (bV : Bool) (bS : Int) (bT : List UInt8) (s : Shf) : Int × Int :=
 (bif (!decide ((shift_sized aC aR aU aV aS aT bC bR bU bV bS bT) = 0)) then (0, (shift_sized aC aR aU aV aS aT bC bR bU bV bS bT)) else (bif (!decide ((shift_Check s (aR.length : Int)) = 0)) then (0, (shift_Check s (aR.length : Int))) else ((shift_gain (shift_like aC aR aU aV aS aT bC bR bU bV bS bT) s), 0)))

theorem shift_Gain_c (aC : Int) (aR : List (List Cel)) (aU : Plc) (aV : Bool) (aS : Int) (aT : List UInt8) (bC : Int) (bR : List (List Cel)) (bU : Plc) (bV : Bool) (bS : Int) (bT : List UInt8) (s : Shf) (aQ : Option Addr) (aZ : List Slc) (aK : Nat) (bQ : Option Addr) (bZ : List Slc) (bK : Nat) (hrowsaRowsrs : RowsOk aZ aR) (hlaRows : aR.length ≤ 9223372036854775807) (hcaRows : aR.length ≤ aK) (hrowsbRowsrs : RowsOk bZ bR) (hlbRows : bR.length ≤ 9223372036854775807) (hcbRows : bR.length ≤ bK) (hT : aT.length ≤ 100000000) (hT2 : bT.length ≤ 100000000) (R : Int × Int) (hR : shift_Gain aC aR aU aV aS aT bC bR bU bV bS bT s = R) : ConV Tryz.prog 34 [ag [iv aC, .slice aQ aR.length aK, iv aU.row, iv aU.col, bv aV, iv aS, sv aT], ag [iv bC, .slice bQ bR.length bK, iv bU.row, iv bU.col, bv bV, iv bS, sv bT], ag (cShf s)] [sl cSlc aQ aZ, rowsF cCel aZ aR, sl cSlc bQ bZ, rowsF cCel bZ bR, sl cSpn (some ⟨0, 0, none⟩) tab0, sl cSpn (some ⟨1, 0, none⟩) tab1] (.tuple #[iv R.1, iv R.2]) := by
 refine con_of_J (n := 30) Tryz.func34 rfl (by kernel_rfl) rfl rfl [(0, ag [iv aC, .slice aQ aR.length aK, iv aU.row, iv aU.col, bv aV, iv aS, sv aT]), (1, ag [iv bC, .slice bQ bR.length bK, iv bU.row, iv bU.col, bv bV, iv bS, sv bT]), (2, ag (cShf s))] ⟨rfl, rfl, rfl, trivial⟩ fun X hX hr hD => ?_
 replace hR := (shift_Gain.eq_1 ..).symm.trans hR
 have := hrowsaRowsrs.1
 have := hrowsbRowsrs.1
 refine sr 5 rfl ?_
 refine it rfl (tri_box (cs := [iv aC, .slice aQ aR.length aK, iv aU.row, iv aU.col, bv aV, iv aS, sv aT]) rfl rfl rfl) fun b1 => ?_
 refine it rfl (tri_box (cs := [iv bC, .slice bQ bR.length bK, iv bU.row, iv bU.col, bv bV, iv bS, sv bT]) rfl rfl rfl) fun b2 => ?_
 refine it rfl (tri_box (cs := cShf s) rfl rfl rfl) fun b3 => ?_
 refine ip 2 0 [] (by kernel_rfl) ?_
 refine ie ?_
 refine J_seq ?_
 refine sr 4 rfl ?_
 refine ix rfl (det_own_agg (us := [iv aC, .slice aQ aR.length aK, iv aU.row, iv aU.col, bv aV, iv aS, sv aT]) ty53 rfl rfl 2 rfl rfl rfl) ?_
 refine ix rfl (det_own_agg (us := [iv bC, .slice bQ bR.length bK, iv bU.row, iv bU.col, bv bV, iv bS, sv bT]) ty53 rfl rfl 1 rfl rfl rfl) ?_
 refine ixc rfl (det_call (shift_sized_c aC aR aU aV aS aT bC bR bU bV bS bT aQ aZ aK bQ bZ bK hrowsaRowsrs (by first | omega | (simp <;> omega) | (dsimp only; omega) | decide) (by first | omega | (simp <;> omega) | (dsimp only; omega) | decide) hrowsbRowsrs (by first | omega | (simp <;> omega) | (dsimp only; omega) | decide) (by first | omega | (simp <;> omega) | (dsimp only; omega) | decide) (by first | omega | (simp <;> omega)) (by first | omega | (simp <;> omega)) _ rfl) rfl rfl rfl rfl rfl Foll.refl) ?_
 refine ip 1 0 [(8, iv (shift_sized aC aR aU aV aS aT bC bR bU bV bS bT))] (by kernel_rfl) ?_
 refine ie ?_
 refine sr 2 rfl ?_
 refine ip 2 0 [(15, bv (!decide ((shift_sized aC aR aU aV aS aT bC bR bU bV bS bT) = 0)))] (by kernel_rfl) ?_
 refine ie ?_
 refine J_if rfl (fun h4 => ?_) (fun h4 => ?_)
 ·have h4p : ¬ (shift_sized aC aR aU aV aS aT bC bR bU bV bS bT) = 0 := by simpa using h4
  replace hR := bt hR h4
  refine sr 3 rfl ?_
  refine ip 3 0 [(6, iv 0), (7, iv (shift_sized aC aR aU aV aS aT bC bR bU bV bS bT))] (by kernel_rfl) ?_
  refine ie ?_
  refine J_ret ?_
  subst hR
  exact ends_ret rfl ⟨hr, hD⟩ (by simp [hD]) (res2 rfl (resV_tmp rfl) (resV_tmp rfl)) () (by rfl) (mk [false, false, false] rfl) Foll.nil
 ·have h4p : ¬ (¬ (shift_sized aC aR aU aV aS aT bC bR bU bV bS bT) = 0) := by simpa using h4
  replace hR := bf hR h4
  have hz : (damage_Spans aC aR aU aV aS aT bC bR bU bV bS bT).2 = 0 := Classical.not_not.1 h4p
  have hchk := damage_checked_ok (damage_Spans_ok rfl hz)
  have hra := hchk.1.2.2.2.2
  have hrb := hchk.2.1.2.2.2.2
  refine J_skip ?_
  refine nx ?_
  refine J_seq ?_
  refine sr 6 rfl ?_
  refine ix rfl (det_own_agg (us := cShf s) ty55 rfl rfl 0 rfl rfl rfl) ?_
  refine ip 1 4 [(18, pt b1 1)] (by kernel_rfl) ?_
  refine ix rfl (det_own_one (v := .slice aQ aR.length aK) ty49 rfl rfl 2 rfl rfl) ?_
  refine ip 1 2 [(20, iv (aR.length : Int))] (by kernel_rfl) ?_
  refine ixc rfl (det_call (shift_Check_c s (aR.length : Int) _ rfl) rfl rfl rfl rfl rfl Foll.nil) ?_
  refine ip 1 0 [(9, iv (shift_Check s (aR.length : Int)))] (by kernel_rfl) ?_
  refine ie ?_
  refine sr 2 rfl ?_
  refine ip 2 0 [(23, bv (!decide ((shift_Check s (aR.length : Int)) = 0)))] (by kernel_rfl) ?_
  refine ie ?_
  refine J_if rfl (fun h5 => ?_) (fun h5 => ?_)
  ·have h5p : ¬ (shift_Check s (aR.length : Int)) = 0 := by simpa using h5
   replace hR := bt hR h5
   refine sr 3 rfl ?_
   refine ip 3 0 [(6, iv 0), (7, iv (shift_Check s (aR.length : Int)))] (by kernel_rfl) ?_
   refine ie ?_
   refine J_ret ?_
   subst hR
   exact ends_ret rfl ⟨hr, hD⟩ (by simp [hD]) (res2 rfl (resV_tmp rfl) (resV_tmp rfl)) () (by rfl) (mk [false, false, false] rfl) Foll.nil
  ·have h5p : ¬ (¬ (shift_Check s (aR.length : Int)) = 0) := by simpa using h5
   replace hR := bf hR h5
   have hsc := shift_Check_ok (by simpa using h5)
   refine J_skip ?_
   refine nx ?_
   refine sr 5 rfl ?_
   refine ix rfl (det_own_agg (us := [iv aC, .slice aQ aR.length aK, iv aU.row, iv aU.col, bv aV, iv aS, sv aT]) ty53 rfl rfl 2 rfl rfl rfl) ?_
   refine ix rfl (det_own_agg (us := [iv bC, .slice bQ bR.length bK, iv bU.row, iv bU.col, bv bV, iv bS, sv bT]) ty53 rfl rfl 1 rfl rfl rfl) ?_
   refine ixc rfl (det_call (shift_like_c aC aR aU aV aS aT bC bR bU bV bS bT aQ aZ aK bQ bZ bK hrowsaRowsrs (by first | omega | (simp <;> omega) | (dsimp only; omega) | decide) (by first | omega | (simp <;> omega) | (dsimp only; omega) | decide) hrowsbRowsrs (by first | omega | (simp <;> omega) | (dsimp only; omega) | decide) (by first | omega | (simp <;> omega) | (dsimp only; omega) | decide) (by first | omega | (simp <;> omega)) (by first | omega | (simp <;> omega)) _ rfl) rfl rfl rfl rfl rfl (Foll.pick [0, 1, 2, 3] rfl)) ?_
   refine it rfl (tri_alloc (cs := cLks Lks.zero) zero128 rfl) fun b6 => ?_
   refine it rfl (tri_store (us := cLks (shift_like aC aR aU aV aS aT bC bR bU bV bS bT)) (cs' := cLks (shift_like aC aR aU aV aS aT bC bR bU bV bS bT)) ty128 rfl rfl rfl 0 rfl rfl rfl rfl rfl rfl) fun _ => ?_
   refine ie ?_
   refine sr 4 rfl ?_
   refine ix rfl (det_own_agg (us := cShf s) ty55 rfl rfl 1 rfl rfl rfl) ?_
   refine it rfl (tri_callN (L2 := [bx b3 (cShf s) 55, bx b2 [iv bC, .slice bQ bR.length bK, iv bU.row, iv bU.col, bv bV, iv bS, sv bT] 53, bx b1 [iv aC, .slice aQ aR.length aK, iv aU.row, iv aU.col, bv aV, iv aS, sv aT] 53]) (shift_gain_c (shift_like aC aR aU aV aS aT bC bR bU bV bS bT) s b6 (by first | omega | (have := hsh _ (List.mem_cons_self ..); unfold shIn at this; omega)) _ rfl) rfl rfl rfl rfl rfl Foll.nil (permC [[bx b6 (cLks (shift_like aC aR aU aV aS aT bC bR bU bV bS bT)) 128], [bx b3 (cShf s) 55], [bx b2 [iv bC, .slice bQ bR.length bK, iv bU.row, iv bU.col, bv bV, iv bS, sv bT] 53], [bx b1 [iv aC, .slice aQ aR.length aK, iv aU.row, iv aU.col, bv aV, iv aS, sv aT] 53]] [0, 1, 2, 3] 4 rfl (by decide) rfl [[bx b6 (cLks (shift_like aC aR aU aV aS aT bC bR bU bV bS bT)) 128], [bx b3 (cShf s) 55], [bx b2 [iv bC, .slice bQ bR.length bK, iv bU.row, iv bU.col, bv bV, iv bS, sv bT] 53], [bx b1 [iv aC, .slice aQ aR.length aK, iv aU.row, iv aU.col, bv aV, iv aS, sv aT] 53]] rfl (by first | rfl | simp only [List.flatten_cons, List.flatten_nil, List.append_nil, List.cons_append, List.nil_append, List.append_assoc])) (fun _ => [bx b6 (cLks (shift_like aC aR aU aV aS aT bC bR bU bV bS bT)) 128, bx b3 (cShf s) 55, bx b2 [iv bC, .slice bQ bR.length bK, iv bU.row, iv bU.col, bv bV, iv bS, sv bT] 53, bx b1 [iv aC, .slice aQ aR.length aK, iv aU.row, iv aU.col, bv aV, iv aS, sv aT] 53]) (fun _ => rfl)) fun _ => ?_
   refine ip 2 0 [(6, iv (shift_gain (shift_like aC aR aU aV aS aT bC bR bU bV bS bT) s)), (7, iv 0)] (by kernel_rfl) ?_
   refine ie ?_
   refine J_ret ?_
   subst hR
   exact ends_ret rfl ⟨hr, hD⟩ (by simp [hD]) (res2 rfl (resV_tmp rfl) (resV_tmp rfl)) () (by rfl) (mk [false, false, false, false] rfl) Foll.nil

def shift_Actions_j0 (s : Shf) (scroll : Act) : List Act × Int :=
 (([{ Act.zero with kind := 38, n := (s.top + 1), m := (s.bottom + 1) }, scroll, { Act.zero with kind := 38 }] : List Act), 0)
def shift_Actions (s : Shf) (rows : Int) : List Act × Int :=
 (bif (!decide ((shift_Check s rows) = 0)) then (([] : List Act), (shift_Check s rows)) else (bif (decide (s.amt < 0)) then shift_Actions_j0 s ({ Act.zero with kind := 33, m := (-s.amt), n := 1 }) else shift_Actions_j0 s ({ Act.zero with kind := 33, m := s.amt })))

theorem shift_Actions_c (s : Shf) (rows : Int) (R : List Act × Int) (hR : shift_Actions s rows = R) : Con Tryz.prog 27 [ag (cShf s), iv rows] [] [] ({t : Option Addr × Nat // R.1.length ≤ t.2 ∧ R.1.length ≤ 9223372036854775807}) (fun x => .tuple #[.slice x.1.1 R.1.length x.1.2, iv R.2]) (fun x => []) (fun x => [sl cAct x.1.1 R.1]) := by
 refine con_of_J (n := 35) Tryz.func27 rfl (by kernel_rfl) rfl rfl [(0, ag (cShf s)), (1, iv rows)] ⟨rfl, rfl, trivial⟩ fun X hX hr hD => ?_
 replace hR := (shift_Actions.eq_1 ..).symm.trans hR
 refine sr 3 rfl ?_
 refine it rfl (tri_box (cs := cShf s) rfl rfl rfl) fun b1 => ?_
 refine ip 2 0 [] (by kernel_rfl) ?_
 refine ie ?_
 refine J_seq ?_
 refine sr 4 rfl ?_
 refine ix rfl (det_own_agg (us := cShf s) ty55 rfl rfl 0 rfl rfl rfl) ?_
 refine ip 1 2 [(9, iv rows)] (by kernel_rfl) ?_
 refine ixc rfl (det_call (shift_Check_c s rows _ rfl) rfl rfl rfl rfl rfl Foll.nil) ?_
 refine ip 1 0 [(6, iv (shift_Check s rows))] (by kernel_rfl) ?_
 refine ie ?_
 refine sr 2 rfl ?_
 refine ip 2 0 [(12, bv (!decide ((shift_Check s rows) = 0)))] (by kernel_rfl) ?_
 refine ie ?_
 refine J_if rfl (fun h2 => ?_) (fun h2 => ?_)
 ·have h2p : ¬ (shift_Check s rows) = 0 := by simpa using h2
  replace hR := bt hR h2
  refine sr 3 rfl ?_
  refine ip 3 0 [(4, .slice none 0 0), (5, iv (shift_Check s rows))] (by kernel_rfl) ?_
  refine ie ?_
  refine J_ret ?_
  subst hR
  exact ends_ret rfl ⟨hr, hD⟩ (by simp [hD]) (res2 rfl (resV_tmp rfl) (resV_tmp rfl)) ⟨(none, 0), (by first | omega | (simp <;> omega) | (dsimp only; omega) | decide), (by first | omega | (simp <;> omega) | (dsimp only; omega) | decide)⟩ (by rfl) (mk [false] rfl) (Foll.con1 sl_nil Foll.nil)
 ·have h2p : ¬ (¬ (shift_Check s rows) = 0) := by simpa using h2
  replace hR := bf hR h2
  have hsc := shift_Check_ok (by simpa using h2)
  refine J_skip ?_
  refine nx ?_
  refine sr 5 rfl ?_
  refine ip 1 4 [(14, pt b1 2)] (by kernel_rfl) ?_
  refine ix rfl (det_own_one (v := iv s.amt) ty3 rfl rfl 0 rfl rfl) ?_
  refine ix rfl (det_build (cs := cAct ({ Act.zero with kind := 33, m := s.amt })) rfl rfl (by kernel_rfl)) ?_
  refine it rfl (tri_alloc (cs := cAct Act.zero) zero26 rfl) fun b3 => ?_
  refine it rfl (tri_store (us := cAct ({ Act.zero with kind := 33, m := s.amt })) (cs' := cAct ({ Act.zero with kind := 33, m := s.amt })) ty26 rfl rfl rfl 0 rfl rfl rfl rfl rfl rfl) fun _ => ?_
  refine ie ?_
  refine JS1 (fun (scroll : Act) => shift_Actions_j0 s scroll = R) (fun (scroll : Act) => [(2, pt b1 0), (7, pt b3 0)]) (fun (scroll : Act) => [bx b3 (cAct scroll) 26, bx b1 (cShf s) 55]) (fun (scroll : Act) => []) ?_ ?_
  ·refine sr 3 rfl ?_
   refine ip 1 2 [(17, pt b1 2)] (by kernel_rfl) ?_
   refine ix rfl (det_own_one (v := iv s.amt) ty3 rfl rfl 1 rfl rfl) ?_
   refine ip 1 0 [(19, bv (decide (s.amt < 0)))] (by kernel_rfl) ?_
   refine ie ?_
   refine J_if rfl (fun h4 => ?_) (fun h4 => ?_)
   ·have h4p : s.amt < 0 := by simpa using h4
    replace hR := bt hR h4
    refine sh' 7 [(4, [bx b3 (cAct ({ Act.zero with kind := 33, m := s.amt })) 26]), (7, [bx b1 (cShf s) 55])] [] [bx b3 (cAct ({ Act.zero with kind := 33, m := s.amt })) 26, bx b1 (cShf s) 55] #[false, false, false, false, false, false, false] (by kernel_rfl) rfl (by kernel_rfl) (by kernel_rfl) (by kernel_rfl) (mk [true, true] rfl) Foll.refl ?_
    refine hpur [0, 3] 5 #[true, false, false, true, false, false, false] [(20, pt b1 2), (23, pt b3 1)] (by kernel_rfl) ?_
    refine htak 1 [bx b1 (cShf s) 55] #[true, true, false, true, false, false, false] rfl rfl rfl (by kernel_rfl) (by kernel_rfl) (by kernel_rfl) (det_own_one (v := iv s.amt) ty3 rfl rfl 0 rfl rfl) ?_
    refine htak 2 [bx b1 (cShf s) 55] #[true, true, true, true, false, false, false] rfl rfl rfl (by kernel_rfl) (by kernel_rfl) (by kernel_rfl) (det_neg64 rfl rfl rfl (by omega)) ?_
    refine hone 4 [bx b1 (cShf s) 55] #[true, true, true, true, true, false, false] rfl rfl rfl (by kernel_rfl) (by kernel_rfl) (by kernel_rfl) (tri_store (us := [iv 1]) (cs' := cAct ({ Act.zero with kind := 33, m := s.amt, n := 1 })) ty3 rfl rfl rfl 0 rfl rfl rfl rfl rfl rfl) (fun _ => (mk [false, true] rfl)) (fun _ => Foll.nil) fun _ => ?_
    refine hpur [5] 1 #[true, true, true, true, true, true, false] [(24, pt b3 2)] (by kernel_rfl) ?_
    refine hone 6 [bx b1 (cShf s) 55] #[true, true, true, true, true, true, true] rfl rfl rfl (by kernel_rfl) (by kernel_rfl) (by kernel_rfl) (tri_store (us := [iv (-s.amt)]) (cs' := cAct ({ Act.zero with kind := 33, m := (-s.amt), n := 1 })) ty3 rfl rfl rfl 0 rfl rfl rfl rfl rfl rfl) (fun _ => (mk [false, true] rfl)) (fun _ => Foll.nil) fun _ => ?_
    refine JH_done (by kernel_rfl) ?_
    exact meet1 ({ Act.zero with kind := 33, m := (-s.amt), n := 1 }) hR ⟨rfl, rfl, trivial⟩ (mk [true, true] rfl) Foll.nil
   ·have h4p : ¬ (s.amt < 0) := by simpa using h4
    replace hR := bf hR h4
    refine J_skip ?_
    exact meet1 ({ Act.zero with kind := 33, m := s.amt }) hR ⟨rfl, rfl, trivial⟩ (mk [true, true] rfl) Foll.nil
  ·intro scroll
   rintro hR
   replace hR := (shift_Actions_j0.eq_1 ..).symm.trans hR
   refine sr 12 rfl ?_
   refine ip 1 11 [(25, pt b1 0)] (by kernel_rfl) ?_
   refine ix rfl (det_own_one (v := iv s.top) ty3 rfl rfl 1 rfl rfl) ?_
   refine ix rfl (det_add64 rfl rfl rfl rfl (by omega)) ?_
   refine ip 1 8 [(28, pt b1 1)] (by kernel_rfl) ?_
   refine ix rfl (det_own_one (v := iv s.bottom) ty3 rfl rfl 1 rfl rfl) ?_
   refine ix rfl (det_add64 rfl rfl rfl rfl (by omega)) ?_
   refine ix rfl (det_build (cs := cAct ({ Act.zero with kind := 38, n := (s.top + 1), m := (s.bottom + 1) })) rfl rfl (by kernel_rfl)) ?_
   refine ix rfl (det_own_agg (us := cAct scroll) ty26 rfl rfl 0 rfl rfl rfl) ?_
   refine ix rfl (det_build (cs := cAct ({ Act.zero with kind := 38 })) rfl rfl (by kernel_rfl)) ?_
   refine it rfl (tri_buildSl (c := cAct) (xs := ([{ Act.zero with kind := 38, n := (s.top + 1), m := (s.bottom + 1) }, scroll, { Act.zero with kind := 38 }] : List Act)) slt27 rfl rfl rfl (by kernel_rfl)) fun b5 => ?_
   have : ([{ Act.zero with kind := 38, n := (s.top + 1), m := (s.bottom + 1) }, scroll, { Act.zero with kind := 38 }] : List Act).length = 3 := rfl
   refine ip 2 0 [(4, .slice (some ⟨b5, 0, none⟩) 3 3), (5, iv 0)] (by kernel_rfl) ?_
   refine ie ?_
   refine J_ret ?_
   subst hR
   exact ends_ret rfl ⟨hr, hD⟩ (by simp [hD]) (res2 rfl (resV_tmp rfl) (resV_tmp rfl)) ⟨(some ⟨b5, 0, none⟩, 3), (by first | omega | (simp <;> omega) | (dsimp only; omega) | decide), (by first | omega | (simp <;> omega) | (dsimp only; omega) | decide)⟩ (by rfl) (mk [false, false] rfl) (Foll.con1 (at_of 0 rfl) Foll.nil)

end Go.Proofs.YtinkdfnpmoljfaaGreatDoor

