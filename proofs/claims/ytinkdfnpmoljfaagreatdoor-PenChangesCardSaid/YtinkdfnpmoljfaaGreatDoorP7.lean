import Derived.Test.YtinkdfnpmoljfaaGreatDoorD2
import Derived.Test.YtinkdfnpmoljfaaGreatDoorFenX
import Derived.Test.YtinkdfnpmoljfaaGreatDoorIto
import Derived.Test.YtinkdfnpmoljfaaGreatDoorProg
import Derived.Test.YtinkdfnpmoljfaaGreatDoorP1
import Derived.Test.YtinkdfnpmoljfaaGreatDoorP2
import Derived.Test.YtinkdfnpmoljfaaGreatDoorP3
import Derived.Test.YtinkdfnpmoljfaaGreatDoorP4
import Derived.Test.YtinkdfnpmoljfaaGreatDoorP5
import Derived.Test.YtinkdfnpmoljfaaGreatDoorP6
set_option linter.unusedVariables false
set_option linter.unusedSimpArgs false
set_option linter.unnecessarySimpa false
set_option maxRecDepth 100000
namespace Go.Proofs.YtinkdfnpmoljfaaGreatDoor
open Go Go.Fen

def law26_wakes : Bool :=
 (bindV (pen_Steps Sty.zero ({ Sty.zero with attr := 5 })) fun (y1 : List Act × Int) => (bindV (pen_Steps ({ Sty.zero with attr := 255 }) Sty.zero) fun (y3 : List Act × Int) => (bindV (pen_Steps ({ Sty.zero with under := 6 }) Sty.zero) fun (y4 : List Act × Int) => (((((decide (y1.2 = 0)) && (ref26_Same y1.1 ([{ Act.zero with kind := 39, n := 1, m := 1 }, { Act.zero with kind := 39, n := 1, m := 4 }] : List Act))) && (decide (y3.2 = 0))) && (ref26_Same y3.1 ([{ Act.zero with kind := 39, n := 0 }] : List Act))) && (!decide (y4.2 = 0))))))

theorem law26_wakes_c (R : Bool) (hR : law26_wakes = R) : ConV Tryz.prog 40 [] [sl cAtr (some ⟨2, 0, none⟩) tab2, tabP 5 pow10Cells] (bv R) := by
 refine con_of_J (n := 48) Tryz.func40 rfl (by kernel_rfl) rfl rfl [] trivial fun X hX hr hD => ?_
 replace hR := (law26_wakes.eq_1 ..).symm.trans hR
 refine sr 1 rfl ?_
 refine ip 1 0 [] (by kernel_rfl) ?_
 refine ie ?_
 refine sr 8 rfl ?_
 refine ix rfl (det_build (cs := cSty Sty.zero) rfl rfl (by kernel_rfl)) ?_
 refine ix rfl (det_build (cs := cSty ({ Sty.zero with attr := 5 })) rfl rfl (by kernel_rfl)) ?_
 have hQ := bindVx hR; clear hR; obtain ⟨y1, hy1, hR⟩ := hQ
 refine it rfl (tri_callN (L2 := []) (pen_Steps_c Sty.zero ({ Sty.zero with attr := 5 }) y1 hy1) rfl rfl rfl rfl rfl Foll.refl (List.Perm.refl _) (fun ⟨⟨q1, k2⟩, hp3⟩ => []) (fun _ => rfl)) fun ⟨⟨q1, k2⟩, hp3⟩ => ?_
 obtain ⟨hc4, hl5⟩ := hp3
 have := pen_Steps_len Sty.zero ({ Sty.zero with attr := 5 }); try rw [hy1] at this
 have := pen_Steps_pen Sty.zero ({ Sty.zero with attr := 5 }); try rw [hy1] at this
 refine ip 5 0 [(1, .slice q1 y1.1.length k2), (2, iv y1.2)] (by kernel_rfl) ?_
 refine ie ?_
 refine sr 8 rfl ?_
 refine ix rfl (det_build (cs := cSty ({ Sty.zero with attr := 255 })) rfl rfl (by kernel_rfl)) ?_
 refine ix rfl (det_build (cs := cSty Sty.zero) rfl rfl (by kernel_rfl)) ?_
 have hQ := bindVx hR; clear hR; obtain ⟨y3, hy3, hR⟩ := hQ
 refine it rfl (tri_callN (L2 := []) (pen_Steps_c ({ Sty.zero with attr := 255 }) Sty.zero y3 hy3) rfl rfl rfl rfl rfl (Foll.pick [1, 2] rfl) (List.Perm.refl _) (fun ⟨⟨q6, k7⟩, hp8⟩ => []) (fun _ => rfl)) fun ⟨⟨q6, k7⟩, hp8⟩ => ?_
 obtain ⟨hc9, hl10⟩ := hp8
 have := pen_Steps_len ({ Sty.zero with attr := 255 }) Sty.zero; try rw [hy3] at this
 have := pen_Steps_pen ({ Sty.zero with attr := 255 }) Sty.zero; try rw [hy3] at this
 refine ip 5 0 [(3, .slice q6 y3.1.length k7), (4, iv y3.2)] (by kernel_rfl) ?_
 refine ie ?_
 refine sr 8 rfl ?_
 refine ix rfl (det_build (cs := cSty ({ Sty.zero with under := 6 })) rfl rfl (by kernel_rfl)) ?_
 refine ix rfl (det_build (cs := cSty Sty.zero) rfl rfl (by kernel_rfl)) ?_
 have hQ := bindVx hR; clear hR; obtain ⟨y4, hy4, hR⟩ := hQ
 refine it rfl (tri_callN (L2 := []) (pen_Steps_c ({ Sty.zero with under := 6 }) Sty.zero y4 hy4) rfl rfl rfl rfl rfl (Foll.pick [2, 3] rfl) (List.Perm.refl _) (fun ⟨⟨q11, k12⟩, hp13⟩ => []) (fun _ => rfl)) fun ⟨⟨q11, k12⟩, hp13⟩ => ?_
 obtain ⟨hc14, hl15⟩ := hp13
 have := pen_Steps_len ({ Sty.zero with under := 6 }) Sty.zero; try rw [hy4] at this
 have := pen_Steps_pen ({ Sty.zero with under := 6 }) Sty.zero; try rw [hy4] at this
 refine ip 5 0 [(6, iv y4.2)] (by kernel_rfl) ?_
 refine ie ?_
 refine sr 24 rfl ?_
 refine ip 3 21 [(27, bv (decide (y1.2 = 0)))] (by kernel_rfl) ?_
 refine iand 6 15 27 33 (ref26_Same y1.1 ([{ Act.zero with kind := 39, n := 1, m := 1 }, { Act.zero with kind := 39, n := 1, m := 4 }] : List Act)) rfl (by kernel_rfl) (fun g16 => ?_) ?_
 ·have g16p : y1.2 = 0 := by simpa using g16
  refine ip 1 5 [(28, .slice q1 y1.1.length k2)] (by kernel_rfl) ?_
  refine ix rfl (det_build (cs := cAct ({ Act.zero with kind := 39, n := 1, m := 1 })) rfl rfl (by kernel_rfl)) ?_
  refine ix rfl (det_build (cs := cAct ({ Act.zero with kind := 39, n := 1, m := 4 })) rfl rfl (by kernel_rfl)) ?_
  refine it rfl (tri_buildSl (c := cAct) (xs := ([{ Act.zero with kind := 39, n := 1, m := 1 }, { Act.zero with kind := 39, n := 1, m := 4 }] : List Act)) slt27 rfl rfl rfl (by kernel_rfl)) fun b17 => ?_
  have : ([{ Act.zero with kind := 39, n := 1, m := 1 }, { Act.zero with kind := 39, n := 1, m := 4 }] : List Act).length = 2 := rfl
  refine ixc rfl (det_call (ref26_Same_c y1.1 ([{ Act.zero with kind := 39, n := 1, m := 1 }, { Act.zero with kind := 39, n := 1, m := 4 }] : List Act) q1 k2 (some ⟨b17, 0, none⟩) 2 (by first | omega | (simp <;> omega) | (dsimp only; omega) | decide) (by first | omega | (simp <;> omega) | (dsimp only; omega) | decide) (by first | omega | (simp <;> omega) | (dsimp only; omega) | decide) (by first | omega | (simp <;> omega) | (dsimp only; omega) | decide) _ rfl) rfl rfl rfl rfl rfl (Foll.pick [3, 0] rfl)) ?_
  refine ip 1 0 [(33, bv (ref26_Same y1.1 ([{ Act.zero with kind := 39, n := 1, m := 1 }, { Act.zero with kind := 39, n := 1, m := 4 }] : List Act)))] (by kernel_rfl) ?_
  exact JI_end (armI 7 27 33 g16 (Foll.pick [1, 2, 3, 4, 5] rfl) (mk [] rfl) rfl rfl rfl rfl rfl)
 refine ip 1 14 [(34, bv ((decide (y1.2 = 0)) && (ref26_Same y1.1 ([{ Act.zero with kind := 39, n := 1, m := 1 }, { Act.zero with kind := 39, n := 1, m := 4 }] : List Act))))] (by kernel_rfl) ?_
 refine iand 3 11 34 37 (decide (y3.2 = 0)) rfl (by kernel_rfl) (fun g18 => ?_) ?_
 ·have g18p := g18; try simp at g18p
  refine ip 3 0 [(37, bv (decide (y3.2 = 0)))] (by kernel_rfl) ?_
  exact JI_end (armI 2 34 37 g18 Foll.refl (mk [] rfl) rfl rfl rfl rfl rfl)
 refine ip 1 10 [(38, bv (((decide (y1.2 = 0)) && (ref26_Same y1.1 ([{ Act.zero with kind := 39, n := 1, m := 1 }, { Act.zero with kind := 39, n := 1, m := 4 }] : List Act))) && (decide (y3.2 = 0))))] (by kernel_rfl) ?_
 refine iand 5 5 38 43 (ref26_Same y3.1 ([{ Act.zero with kind := 39, n := 0 }] : List Act)) rfl (by kernel_rfl) (fun g19 => ?_) ?_
 ·have g19p := g19; try simp at g19p
  refine ip 1 4 [(39, .slice q6 y3.1.length k7)] (by kernel_rfl) ?_
  refine ix rfl (det_build (cs := cAct ({ Act.zero with kind := 39, n := 0 })) rfl rfl (by kernel_rfl)) ?_
  refine it rfl (tri_buildSl (c := cAct) (xs := ([{ Act.zero with kind := 39, n := 0 }] : List Act)) slt27 rfl rfl rfl (by kernel_rfl)) fun b20 => ?_
  have : ([{ Act.zero with kind := 39, n := 0 }] : List Act).length = 1 := rfl
  refine ixc rfl (det_call (ref26_Same_c y3.1 ([{ Act.zero with kind := 39, n := 0 }] : List Act) q6 k7 (some ⟨b20, 0, none⟩) 1 (by first | omega | (simp <;> omega) | (dsimp only; omega) | decide) (by first | omega | (simp <;> omega) | (dsimp only; omega) | decide) (by first | omega | (simp <;> omega) | (dsimp only; omega) | decide) (by first | omega | (simp <;> omega) | (dsimp only; omega) | decide) _ rfl) rfl rfl rfl rfl rfl (Foll.pick [2, 0] rfl)) ?_
  refine ip 1 0 [(43, bv (ref26_Same y3.1 ([{ Act.zero with kind := 39, n := 0 }] : List Act)))] (by kernel_rfl) ?_
  exact JI_end (armI 6 38 43 g19 (Foll.pick [1, 2, 3, 4, 5] rfl) (mk [] rfl) rfl rfl rfl rfl rfl)
 refine ip 1 4 [(44, bv ((((decide (y1.2 = 0)) && (ref26_Same y1.1 ([{ Act.zero with kind := 39, n := 1, m := 1 }, { Act.zero with kind := 39, n := 1, m := 4 }] : List Act))) && (decide (y3.2 = 0))) && (ref26_Same y3.1 ([{ Act.zero with kind := 39, n := 0 }] : List Act))))] (by kernel_rfl) ?_
 refine iand 3 1 44 47 (!decide (y4.2 = 0)) rfl (by kernel_rfl) (fun g21 => ?_) ?_
 ·have g21p := g21; try simp at g21p
  refine ip 3 0 [(47, bv (!decide (y4.2 = 0)))] (by kernel_rfl) ?_
  exact JI_end (armI 2 44 47 g21 Foll.refl (mk [] rfl) rfl rfl rfl rfl rfl)
 refine ip 1 0 [(0, bv (((((decide (y1.2 = 0)) && (ref26_Same y1.1 ([{ Act.zero with kind := 39, n := 1, m := 1 }, { Act.zero with kind := 39, n := 1, m := 4 }] : List Act))) && (decide (y3.2 = 0))) && (ref26_Same y3.1 ([{ Act.zero with kind := 39, n := 0 }] : List Act))) && (!decide (y4.2 = 0))))] (by kernel_rfl) ?_
 refine ie ?_
 refine J_ret ?_
 subst hR
 exact ends_ret rfl ⟨hr, hD⟩ (by simp [hD]) (res1 rfl (resV_tmp rfl)) () (by rfl) (mk [] rfl) Foll.nil

def law26_PenChanges (from_ : Sty) (to : Sty) : Bool :=
 (bif (!law26_wakes) then false else (bindV (pen_Changes from_ to) fun (y0 : List Act × Int) => (bindV (pen_Anew to) fun (y2 : List Act × Int) => (bif (((!((ref04_Right to) == (decide (y2.2 = 0)))) || (!decide (y2.2 = (style_Check to)))) || ((!decide (y2.2 = 0)) && (decide ((0 : Int) < (y2.1.length : Int))))) then false else (bif ((decide (y2.2 = 0)) && (!(ref26_Same y2.1 (ref26_Anew to)))) then false else (bif (!(ref04_Right from_)) then (((decide (y0.2 = (style_Check from_))) && (!decide (y0.2 = 0))) && (decide ((y0.1.length : Int) = 0))) else ((decide (y0.2 = y2.2)) && (((decide (y0.2 = 0)) && (ref26_Same y0.1 (ref26_Changes from_ to))) || ((!decide (y0.2 = 0)) && (decide ((y0.1.length : Int) = 0)))))))))))

theorem law26_PenChanges_c (from_ : Sty) (to : Sty) (R : Bool) (hR : law26_PenChanges from_ to = R) : ConV Tryz.prog 12 [ag (cSty from_), ag (cSty to)] [sl cAtr (some ⟨2, 0, none⟩) tab2, tabP 5 pow10Cells] (bv R) := by
 refine con_of_J (n := 90) Tryz.func12 rfl (by kernel_rfl) rfl rfl [(0, ag (cSty from_)), (1, ag (cSty to))] ⟨rfl, rfl, trivial⟩ fun X hX hr hD => ?_
 replace hR := (law26_PenChanges.eq_1 ..).symm.trans hR
 refine sr 3 rfl ?_
 refine it rfl (tri_box (cs := cSty from_) rfl rfl rfl) fun b1 => ?_
 refine it rfl (tri_box (cs := cSty to) rfl rfl rfl) fun b2 => ?_
 refine ip 1 0 [] (by kernel_rfl) ?_
 refine ie ?_
 refine J_seq ?_
 refine sr 2 rfl ?_
 refine ixc rfl (det_call (law26_wakes_c _ rfl) rfl rfl rfl rfl rfl Foll.refl) ?_
 refine ip 1 0 [(10, bv (!law26_wakes))] (by kernel_rfl) ?_
 refine ie ?_
 refine J_if rfl (fun h3 => ?_) (fun h3 => ?_)
 ·replace hR := bt hR h3
  refine sr 1 rfl ?_
  refine ip 1 0 [(4, bv false)] (by kernel_rfl) ?_
  refine ie ?_
  refine J_ret ?_
  subst hR
  exact ends_ret rfl ⟨hr, hD⟩ (by simp [hD]) (res1 rfl (resV_tmp rfl)) () (by rfl) (mk [false, false] rfl) Foll.nil
 ·replace hR := bf hR h3
  refine J_skip ?_
  refine nx ?_
  refine sr 8 rfl ?_
  refine ix rfl (det_own_agg (us := cSty from_) ty70 rfl rfl 1 rfl rfl rfl) ?_
  refine ix rfl (det_own_agg (us := cSty to) ty70 rfl rfl 0 rfl rfl rfl) ?_
  have hQ := bindVx hR; clear hR; obtain ⟨y0, hy0, hR⟩ := hQ
  refine it rfl (tri_callP (L2 := [bx b2 (cSty to) 70, bx b1 (cSty from_) 70]) (pen_Changes_c from_ to y0 hy0) rfl rfl rfl rfl rfl Foll.nil (List.Perm.refl _) (fun ⟨r4, hk5⟩ => (bx b2 (cSty to) 70 :: bx b1 (cSty from_) 70 :: (vo cAct 26 r4 y0.1) ++ ([]))) (fun ⟨r4, hk5⟩ => permC [vo cAct 26 r4 y0.1, [bx b2 (cSty to) 70], [bx b1 (cSty from_) 70]] [1, 2, 0] 3 rfl (by decide) (by first | rfl | simp only [List.flatten_cons, List.flatten_nil, List.append_nil, List.cons_append, List.nil_append, List.append_assoc]) [[bx b2 (cSty to) 70], [bx b1 (cSty from_) 70], vo cAct 26 r4 y0.1] rfl (by first | rfl | simp only [List.flatten_cons, List.flatten_nil, List.append_nil, List.cons_append, List.nil_append, List.append_assoc]))) fun ⟨r4, hk5⟩ => ?_
  have := VOk.le hk5
  have := VOk.cap hk5
  have := pen_Changes_len from_ to; try rw [hy0] at this
  have := pen_Changes_pen from_ to; try rw [hy0] at this
  refine JI_seal [bx b2 (cSty to) 70, bx b1 (cSty from_) 70] [] (T := 26) (c := cAct) (r := r4) (xs := y0.1) hk5 (by first | rfl | simp only [List.cons_append, List.append_assoc, List.nil_append, List.append_nil]) ?_
  refine ip 5 0 [(5, .slice (va r4.q) y0.1.length r4.k), (6, iv y0.2)] (by kernel_rfl) ?_
  refine ie ?_
  refine sr 7 rfl ?_
  refine ix rfl (det_own_agg (us := cSty to) ty70 rfl rfl 0 rfl rfl rfl) ?_
  have hQ := bindVx hR; clear hR; obtain ⟨y2, hy2, hR⟩ := hQ
  refine it rfl (tri_callN (L2 := [bx b2 (cSty to) 70, bx b1 (cSty from_) 70]) (pen_Anew_c to y2 hy2) rfl rfl rfl rfl rfl Foll.nil (List.Perm.refl _) (fun ⟨⟨q6, k7⟩, hp8⟩ => [bx b2 (cSty to) 70, bx b1 (cSty from_) 70]) (fun _ => rfl)) fun ⟨⟨q6, k7⟩, hp8⟩ => ?_
  obtain ⟨hc9, hl10⟩ := hp8
  have := pen_Anew_len to; try rw [hy2] at this
  have := pen_Anew_pen to; try rw [hy2] at this
  refine ip 5 0 [(7, .slice q6 y2.1.length k7), (8, iv y2.2)] (by kernel_rfl) ?_
  refine ie ?_
  refine J_seq ?_
  refine sr 20 rfl ?_
  refine ix rfl (det_own_agg (us := cSty to) ty70 rfl rfl 0 rfl rfl rfl) ?_
  refine ixc rfl (det_call (ref04_Right_c to _ rfl) rfl rfl rfl rfl rfl Foll.nil) ?_
  refine ip 2 16 [(25, bv (decide (y2.2 = 0)))] (by kernel_rfl) ?_
  refine ix rfl (det_neb Tryz.underlying4 rfl rfl rfl) ?_
  refine ip 1 14 [(27, bv (!((ref04_Right to) == (decide (y2.2 = 0)))))] (by kernel_rfl) ?_
  refine ior 5 9 27 32 (!decide (y2.2 = (style_Check to))) rfl (by kernel_rfl) (fun g11 => ?_) ?_
  ·refine ip 1 4 [(28, iv y2.2)] (by kernel_rfl) ?_
   refine ix rfl (det_own_agg (us := cSty to) ty70 rfl rfl 0 rfl rfl rfl) ?_
   refine ixc rfl (det_call (style_Check_c to _ rfl) rfl rfl rfl rfl rfl Foll.nil) ?_
   refine ip 2 0 [(32, bv (!decide (y2.2 = (style_Check to))))] (by kernel_rfl) ?_
   exact JI_end (armI 5 27 32 g11 Foll.refl (mk [true, true] rfl) rfl rfl rfl rfl rfl)
  refine ip 1 8 [(33, bv ((!((ref04_Right to) == (decide (y2.2 = 0)))) || (!decide (y2.2 = (style_Check to)))))] (by kernel_rfl) ?_
  refine ior 8 0 33 41 ((!decide (y2.2 = 0)) && (decide ((0 : Int) < (y2.1.length : Int)))) rfl (by kernel_rfl) (fun g12 => ?_) ?_
  ·have g12p := g12; try simp at g12p
   refine ip 3 5 [(36, bv (!decide (y2.2 = 0)))] (by kernel_rfl) ?_
   refine iand 4 1 36 40 (decide ((0 : Int) < (y2.1.length : Int))) rfl (by kernel_rfl) (fun g13 => ?_) ?_
   ·have g13p : ¬ y2.2 = 0 := by simpa using g13
    refine ip 4 0 [(40, bv (decide ((0 : Int) < (y2.1.length : Int))))] (by kernel_rfl) ?_
    exact JI_end (armI 2 36 40 g13 Foll.refl (mk [true, true] rfl) rfl rfl rfl rfl rfl)
   refine ip 1 0 [(41, bv ((!decide (y2.2 = 0)) && (decide ((0 : Int) < (y2.1.length : Int)))))] (by kernel_rfl) ?_
   exact JI_end (armI 4 33 41 g12 Foll.refl (mk [true, true] rfl) rfl rfl rfl rfl rfl)
  refine ie ?_
  refine J_if rfl (fun h14 => ?_) (fun h14 => ?_)
  ·have h14p := h14; try simp at h14p
   replace hR := bt hR h14
   refine sr 1 rfl ?_
   refine ip 1 0 [(4, bv false)] (by kernel_rfl) ?_
   refine ie ?_
   refine J_ret ?_
   subst hR
   exact ends_ret rfl ⟨hr, hD⟩ (by simp [hD]) (res1 rfl (resV_tmp rfl)) () (by rfl) (mk [false, false] rfl) Foll.nil
  ·have h14p := h14; try simp at h14p
   replace hR := bf hR h14
   refine J_skip ?_
   refine nx ?_
   refine J_seq ?_
   refine sr 9 rfl ?_
   refine ip 3 6 [(44, bv (decide (y2.2 = 0)))] (by kernel_rfl) ?_
   refine iand 6 0 44 50 (!(ref26_Same y2.1 (ref26_Anew to))) rfl (by kernel_rfl) (fun g15 => ?_) ?_
   ·have g15p : y2.2 = 0 := by simpa using g15
    refine ip 1 5 [(45, .slice q6 y2.1.length k7)] (by kernel_rfl) ?_
    refine ix rfl (det_own_agg (us := cSty to) ty70 rfl rfl 0 rfl rfl rfl) ?_
    refine it rfl (tri_callN (L2 := [bx b2 (cSty to) 70, bx b1 (cSty from_) 70]) (ref26_Anew_c to _ rfl) rfl rfl rfl rfl rfl Foll.nil (List.Perm.refl _) (fun ⟨⟨q16, k17⟩, hp18⟩ => [bx b2 (cSty to) 70, bx b1 (cSty from_) 70]) (fun _ => rfl)) fun ⟨⟨q16, k17⟩, hp18⟩ => ?_
    obtain ⟨hc19, hl20⟩ := hp18
    have := ref26_Anew_len to
    have := ref26_Anew_pen to
    refine ixc rfl (det_call (ref26_Same_c y2.1 (ref26_Anew to) q6 k7 q16 k17 (by first | omega | (simp <;> omega) | (dsimp only; omega) | decide) (by first | omega | (simp <;> omega) | (dsimp only; omega) | decide) (by first | omega | (simp <;> omega) | (dsimp only; omega) | decide) (by first | omega | (simp <;> omega) | (dsimp only; omega) | decide) _ rfl) rfl rfl rfl rfl rfl (Foll.pick [1, 0] rfl)) ?_
    refine ip 2 0 [(50, bv (!(ref26_Same y2.1 (ref26_Anew to))))] (by kernel_rfl) ?_
    exact JI_end (armI 6 44 50 g15 (Foll.pick [1, 2, 3, 4] rfl) (mk [true, true] rfl) rfl rfl rfl rfl rfl)
   refine ie ?_
   refine J_if rfl (fun h21 => ?_) (fun h21 => ?_)
   ·have h21p := h21; try simp at h21p
    replace hR := bt hR h21
    refine sr 1 rfl ?_
    refine ip 1 0 [(4, bv false)] (by kernel_rfl) ?_
    refine ie ?_
    refine J_ret ?_
    subst hR
    exact ends_ret rfl ⟨hr, hD⟩ (by simp [hD]) (res1 rfl (resV_tmp rfl)) () (by rfl) (mk [false, false] rfl) Foll.nil
   ·have h21p := h21; try simp at h21p
    replace hR := bf hR h21
    refine J_skip ?_
    refine nx ?_
    refine J_seq ?_
    refine sr 3 rfl ?_
    refine ix rfl (det_own_agg (us := cSty from_) ty70 rfl rfl 1 rfl rfl rfl) ?_
    refine ixc rfl (det_call (ref04_Right_c from_ _ rfl) rfl rfl rfl rfl rfl Foll.nil) ?_
    refine ip 1 0 [(53, bv (!(ref04_Right from_)))] (by kernel_rfl) ?_
    refine ie ?_
    refine J_if rfl (fun h22 => ?_) (fun h22 => ?_)
    ·replace hR := bt hR h22
     refine sr 14 rfl ?_
     refine ip 1 13 [(54, iv y0.2)] (by kernel_rfl) ?_
     refine ix rfl (det_own_agg (us := cSty from_) ty70 rfl rfl 1 rfl rfl rfl) ?_
     refine ixc rfl (det_call (style_Check_c from_ _ rfl) rfl rfl rfl rfl rfl Foll.nil) ?_
     refine ip 2 9 [(58, bv (decide (y0.2 = (style_Check from_))))] (by kernel_rfl) ?_
     refine iand 3 6 58 61 (!decide (y0.2 = 0)) rfl (by kernel_rfl) (fun g23 => ?_) ?_
     ·have g23p : y0.2 = (style_Check from_) := by simpa using g23
      refine ip 3 0 [(61, bv (!decide (y0.2 = 0)))] (by kernel_rfl) ?_
      exact JI_end (armI 2 58 61 g23 Foll.refl (mk [true, true] rfl) rfl rfl rfl rfl rfl)
     refine ip 1 5 [(62, bv ((decide (y0.2 = (style_Check from_))) && (!decide (y0.2 = 0))))] (by kernel_rfl) ?_
     refine iand 4 1 62 66 (decide ((y0.1.length : Int) = 0)) rfl (by kernel_rfl) (fun g24 => ?_) ?_
     ·have g24p : (y0.2 = (style_Check from_)) ∧ (¬ y0.2 = 0) := by simpa using g24
      refine ip 4 0 [(66, bv (decide ((y0.1.length : Int) = 0)))] (by kernel_rfl) ?_
      exact JI_end (armI 2 62 66 g24 Foll.refl (mk [true, true] rfl) rfl rfl rfl rfl rfl)
     refine ip 1 0 [(4, bv (((decide (y0.2 = (style_Check from_))) && (!decide (y0.2 = 0))) && (decide ((y0.1.length : Int) = 0))))] (by kernel_rfl) ?_
     refine ie ?_
     refine J_ret ?_
     subst hR
     exact ends_ret rfl ⟨hr, hD⟩ (by simp [hD]) (res1 rfl (resV_tmp rfl)) () (by rfl) (mk [false, false] rfl) Foll.nil
    ·replace hR := bf hR h22
     refine J_skip ?_
     refine nx ?_
     refine sr 24 rfl ?_
     refine ip 4 20 [(70, bv (decide (y0.2 = y2.2)))] (by kernel_rfl) ?_
     refine iand 19 1 70 89 (((decide (y0.2 = 0)) && (ref26_Same y0.1 (ref26_Changes from_ to))) || ((!decide (y0.2 = 0)) && (decide ((y0.1.length : Int) = 0)))) rfl (by kernel_rfl) (fun g25 => ?_) ?_
     ·have g25p : y0.2 = y2.2 := by simpa using g25
      refine ip 3 16 [(73, bv (decide (y0.2 = 0)))] (by kernel_rfl) ?_
      refine iand 6 10 73 79 (ref26_Same y0.1 (ref26_Changes from_ to)) rfl (by kernel_rfl) (fun g26 => ?_) ?_
      ·have g26p : y0.2 = 0 := by simpa using g26
       refine ip 1 5 [(74, .slice (va r4.q) y0.1.length r4.k)] (by kernel_rfl) ?_
       refine ix rfl (det_own_agg (us := cSty from_) ty70 rfl rfl 1 rfl rfl rfl) ?_
       refine ix rfl (det_own_agg (us := cSty to) ty70 rfl rfl 0 rfl rfl rfl) ?_
       refine it rfl (tri_callP (L2 := [bx b2 (cSty to) 70, bx b1 (cSty from_) 70]) (ref26_Changes_c from_ to _ rfl) rfl rfl rfl rfl rfl Foll.nil (List.Perm.refl _) (fun ⟨r27, hk28⟩ => (bx b2 (cSty to) 70 :: bx b1 (cSty from_) 70 :: (vo cAct 26 r27 (ref26_Changes from_ to)) ++ ([]))) (fun ⟨r27, hk28⟩ => permC [vo cAct 26 r27 (ref26_Changes from_ to), [bx b2 (cSty to) 70], [bx b1 (cSty from_) 70]] [1, 2, 0] 3 rfl (by decide) (by first | rfl | simp only [List.flatten_cons, List.flatten_nil, List.append_nil, List.cons_append, List.nil_append, List.append_assoc]) [[bx b2 (cSty to) 70], [bx b1 (cSty from_) 70], vo cAct 26 r27 (ref26_Changes from_ to)] rfl (by first | rfl | simp only [List.flatten_cons, List.flatten_nil, List.append_nil, List.cons_append, List.nil_append, List.append_assoc]))) fun ⟨r27, hk28⟩ => ?_
       have := VOk.le hk28
       have := VOk.cap hk28
       have := ref26_Changes_len from_ to
       have := ref26_Changes_pen from_ to
       refine JI_seal [bx b2 (cSty to) 70, bx b1 (cSty from_) 70] [] (T := 26) (c := cAct) (r := r27) (xs := (ref26_Changes from_ to)) hk28 (by first | rfl | simp only [List.cons_append, List.append_assoc, List.nil_append, List.append_nil]) ?_
       refine ixc rfl (det_call (ref26_Same_c y0.1 (ref26_Changes from_ to) (va r4.q) r4.k (va r27.q) r27.k (by first | omega | (simp <;> omega) | (dsimp only; omega) | decide) (by first | omega | (simp <;> omega) | (dsimp only; omega) | decide) (by first | omega | (simp <;> omega) | (dsimp only; omega) | decide) (by first | omega | (simp <;> omega) | (dsimp only; omega) | decide) _ rfl) rfl rfl rfl rfl rfl (Foll.pick [2, 0] rfl)) ?_
       refine ip 1 0 [(79, bv (ref26_Same y0.1 (ref26_Changes from_ to)))] (by kernel_rfl) ?_
       exact JI_end (armI 7 73 79 g26 (Foll.pick [1, 2, 3, 4] rfl) (mk [true, true] rfl) rfl rfl rfl rfl rfl)
      refine ip 1 9 [(80, bv ((decide (y0.2 = 0)) && (ref26_Same y0.1 (ref26_Changes from_ to))))] (by kernel_rfl) ?_
      refine ior 8 1 80 88 ((!decide (y0.2 = 0)) && (decide ((y0.1.length : Int) = 0))) rfl (by kernel_rfl) (fun g29 => ?_) ?_
      ·have g29p := g29; try simp at g29p
       refine ip 3 5 [(83, bv (!decide (y0.2 = 0)))] (by kernel_rfl) ?_
       refine iand 4 1 83 87 (decide ((y0.1.length : Int) = 0)) rfl (by kernel_rfl) (fun g30 => ?_) ?_
       ·have g30p : ¬ y0.2 = 0 := by simpa using g30
        refine ip 4 0 [(87, bv (decide ((y0.1.length : Int) = 0)))] (by kernel_rfl) ?_
        exact JI_end (armI 2 83 87 g30 Foll.refl (mk [true, true] rfl) rfl rfl rfl rfl rfl)
       refine ip 1 0 [(88, bv ((!decide (y0.2 = 0)) && (decide ((y0.1.length : Int) = 0))))] (by kernel_rfl) ?_
       exact JI_end (armI 4 80 88 g29 Foll.refl (mk [true, true] rfl) rfl rfl rfl rfl rfl)
      refine ip 1 0 [(89, bv (((decide (y0.2 = 0)) && (ref26_Same y0.1 (ref26_Changes from_ to))) || ((!decide (y0.2 = 0)) && (decide ((y0.1.length : Int) = 0)))))] (by kernel_rfl) ?_
      exact JI_end (armI 6 70 89 g25 Foll.refl (mk [true, true] rfl) rfl rfl rfl rfl rfl)
     refine ip 1 0 [(4, bv ((decide (y0.2 = y2.2)) && (((decide (y0.2 = 0)) && (ref26_Same y0.1 (ref26_Changes from_ to))) || ((!decide (y0.2 = 0)) && (decide ((y0.1.length : Int) = 0))))))] (by kernel_rfl) ?_
     refine ie ?_
     refine J_ret ?_
     subst hR
     exact ends_ret rfl ⟨hr, hD⟩ (by simp [hD]) (res1 rfl (resV_tmp rfl)) () (by rfl) (mk [false, false] rfl) Foll.nil

end Go.Proofs.YtinkdfnpmoljfaaGreatDoor

