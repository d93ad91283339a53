import Derived.Test.YtinkdfnpmoljfaaGreatDoorD2
import Derived.Test.YtinkdfnpmoljfaaGreatDoorFenX
import Derived.Test.YtinkdfnpmoljfaaGreatDoorIto
import Derived.Test.YtinkdfnpmoljfaaGreatDoorProg
import Derived.Test.YtinkdfnpmoljfaaGreatDoorP1
import Derived.Test.YtinkdfnpmoljfaaGreatDoorP2
import Derived.Test.YtinkdfnpmoljfaaGreatDoorP3
import Derived.Test.YtinkdfnpmoljfaaGreatDoorP4
import Derived.Test.YtinkdfnpmoljfaaGreatDoorP5
import Derived.Test.YtinkdfnpmoljfaaGreatDoorP6
import Derived.Test.YtinkdfnpmoljfaaGreatDoorP7
set_option linter.unusedVariables false
set_option linter.unusedSimpArgs false
set_option linter.unnecessarySimpa false
set_option maxRecDepth 100000
namespace Go.Proofs.YtinkdfnpmoljfaaGreatDoor
open Go Go.Fen

def law26_PenLeast_l0 (from_ : Sty) (to : Sty) (y1 : List Act × Int) (y3 : List Act × Int) (y0 : Int × Int) (y5 : Int × Int) (y6 : Int × Int) : List Act → Nat → Bool
 | [], t116 => (((decide (y0.1 ≤ y5.1)) && (decide (y0.1 ≤ y6.1))) && ((decide ((y1.1.length : Int) = 0)) == (decide (from_ = to))))
 | hd_l0 :: tl_l0, t116 => (bif (!(decide (hd_l0 = (y3.1.getD t116 Act.zero)))) then false else law26_PenLeast_l0 from_ to y1 y3 y0 y5 y6 tl_l0 (t116 + 1))
def law26_PenLeast (from_ : Sty) (to : Sty) : Bool :=
 (bif (!law26_wakes) then false else (bindV (pen_Steps from_ to) fun (y1 : List Act × Int) => (bindV (pen_Changes from_ to) fun (y2 : List Act × Int) => (bindV (pen_Anew to) fun (y7 : List Act × Int) => (bindV (pen_Steps Sty.zero to) fun (y4 : List Act × Int) => (bif ((((!decide (y1.2 = 0)) || (!decide (y2.2 = 0))) || (!decide (y7.2 = 0))) || (!decide (y4.2 = 0))) then ((decide (y1.2 = y2.2)) && (decide (((y1.1.length : Int) + (y2.1.length : Int)) = 0))) else (bindV (pen_Changes Sty.zero to) fun (y3 : List Act × Int) => (bindV (pen_Cost y1.1) fun (y0 : Int × Int) => (bindV (pen_Cost y2.1) fun (y5 : Int × Int) => (bindV (pen_Cost y7.1) fun (y6 : Int × Int) => (bif (((((!decide (y3.2 = 0)) || (!decide (y0.2 = 0))) || (!decide (y5.2 = 0))) || (!decide (y6.2 = 0))) || (!decide ((y4.1.length : Int) = (y3.1.length : Int)))) then false else law26_PenLeast_l0 from_ to y1 y3 y0 y5 y6 y4.1 0)))))))))))

theorem law26_PenLeast_c (from_ : Sty) (to : Sty) (R : Bool) (hR : law26_PenLeast from_ to = R) : ConV Tryz.prog 13 [ag (cSty from_), ag (cSty to)] [sl cAtr (some ⟨2, 0, none⟩) tab2, tabP 5 pow10Cells] (bv R) := by
 refine con_of_J (n := 146) Tryz.func13 rfl (by kernel_rfl) rfl rfl [(0, ag (cSty from_)), (1, ag (cSty to))] ⟨rfl, rfl, trivial⟩ fun X hX hr hD => ?_
 replace hR := (law26_PenLeast.eq_1 ..).symm.trans hR
 refine sr 3 rfl ?_
 refine it rfl (tri_box (cs := cSty from_) rfl rfl rfl) fun b1 => ?_
 refine it rfl (tri_box (cs := cSty to) rfl rfl rfl) fun b2 => ?_
 refine ip 1 0 [] (by kernel_rfl) ?_
 refine ie ?_
 refine J_seq ?_
 refine sr 2 rfl ?_
 refine ixc rfl (det_call (law26_wakes_c _ rfl) rfl rfl rfl rfl rfl Foll.refl) ?_
 refine ip 1 0 [(23, bv (!law26_wakes))] (by kernel_rfl) ?_
 refine ie ?_
 refine J_if rfl (fun h3 => ?_) (fun h3 => ?_)
 ·replace hR := bt hR h3
  refine sr 1 rfl ?_
  refine ip 1 0 [(4, bv false)] (by kernel_rfl) ?_
  refine ie ?_
  refine J_ret ?_
  subst hR
  exact ends_ret rfl ⟨hr, hD⟩ (by simp [hD]) (res1 rfl (resV_tmp rfl)) () (by rfl) (mk [false, false] rfl) Foll.nil
 ·replace hR := bf hR h3
  refine J_skip ?_
  refine nx ?_
  refine sr 8 rfl ?_
  refine ix rfl (det_own_agg (us := cSty from_) ty70 rfl rfl 1 rfl rfl rfl) ?_
  refine ix rfl (det_own_agg (us := cSty to) ty70 rfl rfl 0 rfl rfl rfl) ?_
  have hQ := bindVx hR; clear hR; obtain ⟨y1, hy1, hR⟩ := hQ
  refine it rfl (tri_callN (L2 := [bx b2 (cSty to) 70, bx b1 (cSty from_) 70]) (pen_Steps_c from_ to y1 hy1) rfl rfl rfl rfl rfl Foll.refl (List.Perm.refl _) (fun ⟨⟨q4, k5⟩, hp6⟩ => [bx b2 (cSty to) 70, bx b1 (cSty from_) 70]) (fun _ => rfl)) fun ⟨⟨q4, k5⟩, hp6⟩ => ?_
  obtain ⟨hc7, hl8⟩ := hp6
  have := pen_Steps_len from_ to; try rw [hy1] at this
  have := pen_Steps_pen from_ to; try rw [hy1] at this
  refine ip 5 0 [(5, .slice q4 y1.1.length k5), (6, iv y1.2)] (by kernel_rfl) ?_
  refine ie ?_
  refine sr 8 rfl ?_
  refine ix rfl (det_own_agg (us := cSty from_) ty70 rfl rfl 1 rfl rfl rfl) ?_
  refine ix rfl (det_own_agg (us := cSty to) ty70 rfl rfl 0 rfl rfl rfl) ?_
  have hQ := bindVx hR; clear hR; obtain ⟨y2, hy2, hR⟩ := hQ
  refine it rfl (tri_callP (L2 := [bx b2 (cSty to) 70, bx b1 (cSty from_) 70]) (pen_Changes_c from_ to y2 hy2) rfl rfl rfl rfl rfl Foll.nil (List.Perm.refl _) (fun ⟨r9, hk10⟩ => (bx b2 (cSty to) 70 :: bx b1 (cSty from_) 70 :: (vo cAct 26 r9 y2.1) ++ ([]))) (fun ⟨r9, hk10⟩ => permC [vo cAct 26 r9 y2.1, [bx b2 (cSty to) 70], [bx b1 (cSty from_) 70]] [1, 2, 0] 3 rfl (by decide) (by first | rfl | simp only [List.flatten_cons, List.flatten_nil, List.append_nil, List.cons_append, List.nil_append, List.append_assoc]) [[bx b2 (cSty to) 70], [bx b1 (cSty from_) 70], vo cAct 26 r9 y2.1] rfl (by first | rfl | simp only [List.flatten_cons, List.flatten_nil, List.append_nil, List.cons_append, List.nil_append, List.append_assoc]))) fun ⟨r9, hk10⟩ => ?_
  have := VOk.le hk10
  have := VOk.cap hk10
  have := pen_Changes_len from_ to; try rw [hy2] at this
  have := pen_Changes_pen from_ to; try rw [hy2] at this
  refine JI_seal [bx b2 (cSty to) 70, bx b1 (cSty from_) 70] [] (T := 26) (c := cAct) (r := r9) (xs := y2.1) hk10 (by first | rfl | simp only [List.cons_append, List.append_assoc, List.nil_append, List.append_nil]) ?_
  refine ip 5 0 [(7, .slice (va r9.q) y2.1.length r9.k), (8, iv y2.2)] (by kernel_rfl) ?_
  refine ie ?_
  refine sr 7 rfl ?_
  refine ix rfl (det_own_agg (us := cSty to) ty70 rfl rfl 0 rfl rfl rfl) ?_
  have hQ := bindVx hR; clear hR; obtain ⟨y7, hy7, hR⟩ := hQ
  refine it rfl (tri_callN (L2 := [bx b2 (cSty to) 70, bx b1 (cSty from_) 70]) (pen_Anew_c to y7 hy7) rfl rfl rfl rfl rfl Foll.nil (List.Perm.refl _) (fun ⟨⟨q11, k12⟩, hp13⟩ => [bx b2 (cSty to) 70, bx b1 (cSty from_) 70]) (fun _ => rfl)) fun ⟨⟨q11, k12⟩, hp13⟩ => ?_
  obtain ⟨hc14, hl15⟩ := hp13
  have := pen_Anew_len to; try rw [hy7] at this
  have := pen_Anew_pen to; try rw [hy7] at this
  refine ip 5 0 [(9, .slice q11 y7.1.length k12), (10, iv y7.2)] (by kernel_rfl) ?_
  refine ie ?_
  refine sr 8 rfl ?_
  refine ix rfl (det_build (cs := cSty Sty.zero) rfl rfl (by kernel_rfl)) ?_
  refine ix rfl (det_own_agg (us := cSty to) ty70 rfl rfl 0 rfl rfl rfl) ?_
  have hQ := bindVx hR; clear hR; obtain ⟨y4, hy4, hR⟩ := hQ
  refine it rfl (tri_callN (L2 := [bx b2 (cSty to) 70, bx b1 (cSty from_) 70]) (pen_Steps_c Sty.zero to y4 hy4) rfl rfl rfl rfl rfl (Foll.pick [3, 4] rfl) (List.Perm.refl _) (fun ⟨⟨q16, k17⟩, hp18⟩ => [bx b2 (cSty to) 70, bx b1 (cSty from_) 70]) (fun _ => rfl)) fun ⟨⟨q16, k17⟩, hp18⟩ => ?_
  obtain ⟨hc19, hl20⟩ := hp18
  have := pen_Steps_len Sty.zero to; try rw [hy4] at this
  have := pen_Steps_pen Sty.zero to; try rw [hy4] at this
  refine ip 5 0 [(11, .slice q16 y4.1.length k17), (12, iv y4.2)] (by kernel_rfl) ?_
  refine ie ?_
  refine J_seq ?_
  refine sr 14 rfl ?_
  refine ip 3 11 [(49, bv (!decide (y1.2 = 0)))] (by kernel_rfl) ?_
  refine ior 3 8 49 52 (!decide (y2.2 = 0)) rfl (by kernel_rfl) (fun g21 => ?_) ?_
  ·have g21p : ¬ (¬ y1.2 = 0) := by simpa using g21
   refine ip 3 0 [(52, bv (!decide (y2.2 = 0)))] (by kernel_rfl) ?_
   exact JI_end (armI 2 49 52 g21 Foll.refl (mk [true, true] rfl) rfl rfl rfl rfl rfl)
  refine ip 1 7 [(53, bv ((!decide (y1.2 = 0)) || (!decide (y2.2 = 0))))] (by kernel_rfl) ?_
  refine ior 3 4 53 56 (!decide (y7.2 = 0)) rfl (by kernel_rfl) (fun g22 => ?_) ?_
  ·have g22p : ¬ ((¬ y1.2 = 0) ∨ (¬ y2.2 = 0)) := by simpa using g22
   refine ip 3 0 [(56, bv (!decide (y7.2 = 0)))] (by kernel_rfl) ?_
   exact JI_end (armI 2 53 56 g22 Foll.refl (mk [true, true] rfl) rfl rfl rfl rfl rfl)
  refine ip 1 3 [(57, bv (((!decide (y1.2 = 0)) || (!decide (y2.2 = 0))) || (!decide (y7.2 = 0))))] (by kernel_rfl) ?_
  refine ior 3 0 57 60 (!decide (y4.2 = 0)) rfl (by kernel_rfl) (fun g23 => ?_) ?_
  ·have g23p : ¬ (((¬ y1.2 = 0) ∨ (¬ y2.2 = 0)) ∨ (¬ y7.2 = 0)) := by simpa using g23
   refine ip 3 0 [(60, bv (!decide (y4.2 = 0)))] (by kernel_rfl) ?_
   exact JI_end (armI 2 57 60 g23 Foll.refl (mk [true, true] rfl) rfl rfl rfl rfl rfl)
  refine ie ?_
  refine J_if rfl (fun h24 => ?_) (fun h24 => ?_)
  ·have h24p : (((¬ y1.2 = 0) ∨ (¬ y2.2 = 0)) ∨ (¬ y7.2 = 0)) ∨ (¬ y4.2 = 0) := by simpa using h24
   replace hR := bt hR h24
   refine sr 12 rfl ?_
   refine ip 4 8 [(64, bv (decide (y1.2 = y2.2)))] (by kernel_rfl) ?_
   refine iand 7 1 64 71 (decide (((y1.1.length : Int) + (y2.1.length : Int)) = 0)) rfl (by kernel_rfl) (fun g25 => ?_) ?_
   ·have g25p : y1.2 = y2.2 := by simpa using g25
    refine ip 4 3 [(66, iv (y1.1.length : Int)), (68, iv (y2.1.length : Int))] (by kernel_rfl) ?_
    refine ix rfl (det_add64 rfl rfl rfl rfl (by omega)) ?_
    refine ip 2 0 [(71, bv (decide (((y1.1.length : Int) + (y2.1.length : Int)) = 0)))] (by kernel_rfl) ?_
    exact JI_end (armI 5 64 71 g25 Foll.refl (mk [true, true] rfl) rfl rfl rfl rfl rfl)
   refine ip 1 0 [(4, bv ((decide (y1.2 = y2.2)) && (decide (((y1.1.length : Int) + (y2.1.length : Int)) = 0))))] (by kernel_rfl) ?_
   refine ie ?_
   refine J_ret ?_
   subst hR
   exact ends_ret rfl ⟨hr, hD⟩ (by simp [hD]) (res1 rfl (resV_tmp rfl)) () (by rfl) (mk [false, false] rfl) Foll.nil
  ·have h24p : ¬ ((((¬ y1.2 = 0) ∨ (¬ y2.2 = 0)) ∨ (¬ y7.2 = 0)) ∨ (¬ y4.2 = 0)) := by simpa using h24
   replace hR := bf hR h24
   refine J_skip ?_
   refine nx ?_
   refine sr 8 rfl ?_
   refine ix rfl (det_build (cs := cSty Sty.zero) rfl rfl (by kernel_rfl)) ?_
   refine ix rfl (det_own_agg (us := cSty to) ty70 rfl rfl 0 rfl rfl rfl) ?_
   have hQ := bindVx hR; clear hR; obtain ⟨y3, hy3, hR⟩ := hQ
   refine it rfl (tri_callP (L2 := [bx b2 (cSty to) 70, bx b1 (cSty from_) 70]) (pen_Changes_c Sty.zero to y3 hy3) rfl rfl rfl rfl rfl Foll.nil (List.Perm.refl _) (fun ⟨r26, hk27⟩ => (bx b2 (cSty to) 70 :: bx b1 (cSty from_) 70 :: (vo cAct 26 r26 y3.1) ++ ([]))) (fun ⟨r26, hk27⟩ => permC [vo cAct 26 r26 y3.1, [bx b2 (cSty to) 70], [bx b1 (cSty from_) 70]] [1, 2, 0] 3 rfl (by decide) (by first | rfl | simp only [List.flatten_cons, List.flatten_nil, List.append_nil, List.cons_append, List.nil_append, List.append_assoc]) [[bx b2 (cSty to) 70], [bx b1 (cSty from_) 70], vo cAct 26 r26 y3.1] rfl (by first | rfl | simp only [List.flatten_cons, List.flatten_nil, List.append_nil, List.cons_append, List.nil_append, List.append_assoc]))) fun ⟨r26, hk27⟩ => ?_
   have := VOk.le hk27
   have := VOk.cap hk27
   have := pen_Changes_len Sty.zero to; try rw [hy3] at this
   have := pen_Changes_pen Sty.zero to; try rw [hy3] at this
   refine JI_seal [bx b2 (cSty to) 70, bx b1 (cSty from_) 70] [] (T := 26) (c := cAct) (r := r26) (xs := y3.1) hk27 (by first | rfl | simp only [List.cons_append, List.append_assoc, List.nil_append, List.append_nil]) ?_
   refine ip 5 0 [(13, .slice (va r26.q) y3.1.length r26.k), (14, iv y3.2)] (by kernel_rfl) ?_
   refine ie ?_
   refine sr 7 rfl ?_
   refine ip 1 6 [(79, .slice q4 y1.1.length k5)] (by kernel_rfl) ?_
   have hQ := bindVx hR; clear hR; obtain ⟨y0, hy0, hR⟩ := hQ
   refine ixc rfl (det_call (pen_Cost_c y1.1 q4 k5 (by first | omega | (simp <;> omega) | (dsimp only; omega) | decide) (by first | omega | (simp <;> omega) | (dsimp only; omega) | decide) (by first | assumption | omega) (by first | omega | (simp <;> omega)) y0 hy0) rfl rfl rfl rfl rfl (Foll.pick [4, 5, 6] rfl)) ?_
   refine ip 5 0 [(15, iv y0.1), (16, iv y0.2)] (by kernel_rfl) ?_
   refine ie ?_
   refine sr 7 rfl ?_
   refine ip 1 6 [(84, .slice (va r9.q) y2.1.length r9.k)] (by kernel_rfl) ?_
   have hQ := bindVx hR; clear hR; obtain ⟨y5, hy5, hR⟩ := hQ
   refine ixc rfl (det_call (pen_Cost_c y2.1 (va r9.q) r9.k (by first | omega | (simp <;> omega) | (dsimp only; omega) | decide) (by first | omega | (simp <;> omega) | (dsimp only; omega) | decide) (by first | assumption | omega) (by first | omega | (simp <;> omega)) y5 hy5) rfl rfl rfl rfl rfl (Foll.pick [3, 5, 6] rfl)) ?_
   refine ip 5 0 [(17, iv y5.1), (18, iv y5.2)] (by kernel_rfl) ?_
   refine ie ?_
   refine sr 7 rfl ?_
   refine ip 1 6 [(89, .slice q11 y7.1.length k12)] (by kernel_rfl) ?_
   have hQ := bindVx hR; clear hR; obtain ⟨y6, hy6, hR⟩ := hQ
   refine ixc rfl (det_call (pen_Cost_c y7.1 q11 k12 (by first | omega | (simp <;> omega) | (dsimp only; omega) | decide) (by first | omega | (simp <;> omega) | (dsimp only; omega) | decide) (by first | assumption | omega) (by first | omega | (simp <;> omega)) y6 hy6) rfl rfl rfl rfl rfl (Foll.pick [2, 5, 6] rfl)) ?_
   refine ip 5 0 [(19, iv y6.1), (20, iv y6.2)] (by kernel_rfl) ?_
   refine ie ?_
   refine J_seq ?_
   refine sr 21 rfl ?_
   refine ip 3 18 [(95, bv (!decide (y3.2 = 0)))] (by kernel_rfl) ?_
   refine ior 3 15 95 98 (!decide (y0.2 = 0)) rfl (by kernel_rfl) (fun g28 => ?_) ?_
   ·have g28p : ¬ (¬ y3.2 = 0) := by simpa using g28
    refine ip 3 0 [(98, bv (!decide (y0.2 = 0)))] (by kernel_rfl) ?_
    exact JI_end (armI 2 95 98 g28 Foll.refl (mk [true, true] rfl) rfl rfl rfl rfl rfl)
   refine ip 1 14 [(99, bv ((!decide (y3.2 = 0)) || (!decide (y0.2 = 0))))] (by kernel_rfl) ?_
   refine ior 3 11 99 102 (!decide (y5.2 = 0)) rfl (by kernel_rfl) (fun g29 => ?_) ?_
   ·have g29p : ¬ ((¬ y3.2 = 0) ∨ (¬ y0.2 = 0)) := by simpa using g29
    refine ip 3 0 [(102, bv (!decide (y5.2 = 0)))] (by kernel_rfl) ?_
    exact JI_end (armI 2 99 102 g29 Foll.refl (mk [true, true] rfl) rfl rfl rfl rfl rfl)
   refine ip 1 10 [(103, bv (((!decide (y3.2 = 0)) || (!decide (y0.2 = 0))) || (!decide (y5.2 = 0))))] (by kernel_rfl) ?_
   refine ior 3 7 103 106 (!decide (y6.2 = 0)) rfl (by kernel_rfl) (fun g30 => ?_) ?_
   ·have g30p : ¬ (((¬ y3.2 = 0) ∨ (¬ y0.2 = 0)) ∨ (¬ y5.2 = 0)) := by simpa using g30
    refine ip 3 0 [(106, bv (!decide (y6.2 = 0)))] (by kernel_rfl) ?_
    exact JI_end (armI 2 103 106 g30 Foll.refl (mk [true, true] rfl) rfl rfl rfl rfl rfl)
   refine ip 1 6 [(107, bv ((((!decide (y3.2 = 0)) || (!decide (y0.2 = 0))) || (!decide (y5.2 = 0))) || (!decide (y6.2 = 0))))] (by kernel_rfl) ?_
   refine ior 6 0 107 113 (!decide ((y4.1.length : Int) = (y3.1.length : Int))) rfl (by kernel_rfl) (fun g31 => ?_) ?_
   ·have g31p : ¬ ((((¬ y3.2 = 0) ∨ (¬ y0.2 = 0)) ∨ (¬ y5.2 = 0)) ∨ (¬ y6.2 = 0)) := by simpa using g31
    refine ip 6 0 [(113, bv (!decide ((y4.1.length : Int) = (y3.1.length : Int))))] (by kernel_rfl) ?_
    exact JI_end (armI 2 107 113 g31 Foll.refl (mk [true, true] rfl) rfl rfl rfl rfl rfl)
   refine ie ?_
   refine J_if rfl (fun h32 => ?_) (fun h32 => ?_)
   ·have h32p : ((((¬ y3.2 = 0) ∨ (¬ y0.2 = 0)) ∨ (¬ y5.2 = 0)) ∨ (¬ y6.2 = 0)) ∨ (¬ (y4.1.length : Int) = (y3.1.length : Int)) := by simpa using h32
    replace hR := bt hR h32
    refine sr 1 rfl ?_
    refine ip 1 0 [(4, bv false)] (by kernel_rfl) ?_
    refine ie ?_
    refine J_ret ?_
    subst hR
    exact ends_ret rfl ⟨hr, hD⟩ (by simp [hD]) (res1 rfl (resV_tmp rfl)) () (by rfl) (mk [false, false] rfl) Foll.nil
   ·have h32p : ¬ (((((¬ y3.2 = 0) ∨ (¬ y0.2 = 0)) ∨ (¬ y5.2 = 0)) ∨ (¬ y6.2 = 0)) ∨ (¬ (y4.1.length : Int) = (y3.1.length : Int))) := by simpa using h32
    replace hR := bf hR h32
    refine J_skip ?_
    refine nx ?_
    refine J_seq ?_
    refine sr 3 rfl ?_
    refine ip 3 0 [(115, iv (y4.1.length : Int)), (116, iv 0)] (by kernel_rfl) ?_
    refine ie ?_
    refine J_block ?_
    refine JL1 (fun (t116 : Nat) => t116 ≤ y4.1.length ∧ law26_PenLeast_l0 from_ to y1 y3 y0 y5 y6 (y4.1.drop t116) t116 = R) (fun (t116 : Nat) => [(2, pt b1 0), (3, pt b2 0), (5, .slice q4 y1.1.length k5), (11, .slice q16 y4.1.length k17), (13, .slice (va r26.q) y3.1.length r26.k), (15, iv y0.1), (17, iv y5.1), (19, iv y6.1), (115, iv (y4.1.length : Int)), (116, iv (t116 : Int))]) (fun (t116 : Nat) => [bx b2 (cSty to) 70, bx b1 (cSty from_) 70]) (fun (t116 : Nat) => [sl cAct (va r26.q) y3.1, sl cAct q16 y4.1, sl cAct q11 y7.1, sl cAct (va r9.q) y2.1, sl cAct q4 y1.1, sl cAtr (some ⟨2, 0, none⟩) tab2, tabP 5 pow10Cells]) (fun (t116 : Nat) => y4.1.length - t116) 0 ⟨(by omega), hR⟩ ⟨rfl, rfl, rfl, rfl, rfl, rfl, rfl, rfl, rfl, (by first | rfl | (simp only [List.length_set]; rfl) | (simp; done) | (simp; omega)), trivial⟩ (mk [true, true] rfl) Foll.refl ?_
    rintro t116 ⟨hm33, hR⟩
    refine sr 1 rfl ?_
    refine ip 1 0 [(117, bv (decide ((t116 : Int) < (y4.1.length : Int))))] (by kernel_rfl) ?_
    refine ie ?_
    refine J_seq ?_
    refine J_if rfl (fun h34 => ?_) (fun h34 => ?_)
    ·have h34p : (t116 : Int) < (y4.1.length : Int) := by simpa using h34
     rw [dropc Act.zero (show t116 < y4.1.length by omega)] at hR; replace hR := (law26_PenLeast_l0.eq_2 ..).symm.trans hR
     refine J_skip ?_
     refine nx ?_
     refine J_seq ?_
     refine J_block ?_
     refine sr 2 rfl ?_
     refine ip 2 0 [(21, iv (t116 : Int))] (by kernel_rfl) ?_
     refine ie ?_
     refine sd 9 rfl (by kernel_rfl) rfl ?_
     refine dp 2 7 [(119, .slice q16 y4.1.length k17), (120, iv (t116 : Int))] (by kernel_rfl) ?_
     refine JD_base 1 rfl (by omega) fun a35 hq36 => ?_
     refine dd rfl (det_ixq slt27 rfl rfl hq36 rfl t116 rfl (by omega)) ?_
     refine dd rfl (det_ld_agg (us := cAct (y4.1.getD t116 Act.zero)) ty26 rfl rfl (at_slq (c := cAct) (sz := 6) hq36 (fun _ => rfl) 1 rfl (gd Act.zero (by omega))) rfl) ?_
     refine dp 2 3 [(123, .slice (va r26.q) y3.1.length r26.k), (124, iv (t116 : Int))] (by kernel_rfl) ?_
     refine JD_base 0 rfl (by omega) fun a37 hq38 => ?_
     refine dd rfl (det_ixq slt27 rfl rfl hq38 rfl t116 rfl (by omega)) ?_
     refine dd rfl (det_ld_agg (us := cAct (y3.1.getD t116 Act.zero)) ty26 rfl rfl (at_slq (c := cAct) (sz := 6) hq38 (fun _ => rfl) 0 rfl (gd Act.zero (by omega))) rfl) ?_
     refine dd rfl (det_nes (a := (y4.1.getD t116 Act.zero)) (b := (y3.1.getD t116 Act.zero)) eqt26 rfl rfl rfl) ?_
     refine de ?_
     refine J_if rfl (fun h39 => ?_) (fun h39 => ?_)
     ·have h39p : ¬ (y4.1.getD t116 Act.zero) = (y3.1.getD t116 Act.zero) := by simpa using h39
      replace hR := bt hR h39
      refine sr 1 rfl ?_
      refine ip 1 0 [(4, bv false)] (by kernel_rfl) ?_
      refine ie ?_
      refine J_ret ?_
      subst hR
      exact ends_ret rfl ⟨hr, hD⟩ (by simp [hD]) (res1 rfl (resV_tmp rfl)) () (by rfl) (mk [false, false] rfl) Foll.nil
     ·have h39p : ¬ (¬ (y4.1.getD t116 Act.zero) = (y3.1.getD t116 Act.zero)) := by simpa using h39
      replace hR := bf hR h39
      refine J_skip ?_
      refine nx ?_
      refine J_region 2 rfl ?_
      refine ix rfl (det_add64 rfl rfl rfl rfl (by omega)) ?_
      refine ip 1 0 [(116, iv ((t116 : Int) + 1))] (by kernel_rfl) ?_
      refine JI_end ?_
      exact againL1 (z1 := t116) (t116 + 1) ⟨(by omega), hR⟩ (by (try dsimp only); omega) ⟨rfl, rfl, rfl, rfl, rfl, rfl, rfl, rfl, rfl, (by first | rfl | (simp only [List.length_set]; rfl) | (simp; done) | (simp; omega)), trivial⟩ (mk [true, true] rfl) Foll.refl
    ·have h34p : ¬ ((t116 : Int) < (y4.1.length : Int)) := by simpa using h34
     rw [dropn h34p] at hR; replace hR := (law26_PenLeast_l0.eq_1 ..).symm.trans hR
     refine J_exit ?_
     refine nx ?_
     refine sr 18 rfl ?_
     refine ip 4 14 [(132, bv (decide (y0.1 ≤ y5.1)))] (by kernel_rfl) ?_
     refine iand 4 10 132 136 (decide (y0.1 ≤ y6.1)) rfl (by kernel_rfl) (fun g40 => ?_) ?_
     ·have g40p : y0.1 ≤ y5.1 := by simpa using g40
      refine ip 4 0 [(136, bv (decide (y0.1 ≤ y6.1)))] (by kernel_rfl) ?_
      exact JI_end (armI 2 132 136 g40 Foll.refl (mk [true, true] rfl) rfl rfl rfl rfl rfl)
     refine ip 1 9 [(137, bv ((decide (y0.1 ≤ y5.1)) && (decide (y0.1 ≤ y6.1))))] (by kernel_rfl) ?_
     refine iand 8 1 137 145 ((decide ((y1.1.length : Int) = 0)) == (decide (from_ = to))) rfl (by kernel_rfl) (fun g41 => ?_) ?_
     ·have g41p : (y0.1 ≤ y5.1) ∧ (y0.1 ≤ y6.1) := by simpa using g41
      refine ip 3 5 [(140, bv (decide ((y1.1.length : Int) = 0)))] (by kernel_rfl) ?_
      refine ix rfl (det_own_agg (us := cSty from_) ty70 rfl rfl 1 rfl rfl rfl) ?_
      refine ix rfl (det_own_agg (us := cSty to) ty70 rfl rfl 0 rfl rfl rfl) ?_
      refine ix rfl (det_eqs (a := from_) (b := to) eqt70 rfl rfl rfl) ?_
      refine ix rfl (det_eqb Tryz.underlying4 rfl rfl rfl) ?_
      refine ip 1 0 [(145, bv ((decide ((y1.1.length : Int) = 0)) == (decide (from_ = to))))] (by kernel_rfl) ?_
      exact JI_end (armI 7 137 145 g41 Foll.refl (mk [true, true] rfl) rfl rfl rfl rfl rfl)
     refine ip 1 0 [(4, bv (((decide (y0.1 ≤ y5.1)) && (decide (y0.1 ≤ y6.1))) && ((decide ((y1.1.length : Int) = 0)) == (decide (from_ = to)))))] (by kernel_rfl) ?_
     refine ie ?_
     refine J_ret ?_
     subst hR
     exact ends_ret rfl ⟨hr, hD⟩ (by simp [hD]) (res1 rfl (resV_tmp rfl)) () (by rfl) (mk [false, false] rfl) Foll.nil

end Go.Proofs.YtinkdfnpmoljfaaGreatDoor

