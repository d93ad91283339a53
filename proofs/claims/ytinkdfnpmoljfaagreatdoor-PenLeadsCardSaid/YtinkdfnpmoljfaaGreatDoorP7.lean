import Derived.Test.YtinkdfnpmoljfaaGreatDoorD2
import Derived.Test.YtinkdfnpmoljfaaGreatDoorFenX
import Derived.Test.YtinkdfnpmoljfaaGreatDoorIto
import Derived.Test.YtinkdfnpmoljfaaGreatDoorProg
import Derived.Test.YtinkdfnpmoljfaaGreatDoorP1
import Derived.Test.YtinkdfnpmoljfaaGreatDoorP2
import Derived.Test.YtinkdfnpmoljfaaGreatDoorP3
import Derived.Test.YtinkdfnpmoljfaaGreatDoorP4
import Derived.Test.YtinkdfnpmoljfaaGreatDoorP5
import Derived.Test.YtinkdfnpmoljfaaGreatDoorP6
set_option linter.unusedVariables false
set_option linter.unusedSimpArgs false
set_option linter.unnecessarySimpa false
set_option maxRecDepth 100000
namespace Go.Proofs.YtinkdfnpmoljfaaGreatDoor
open Go Go.Fen

def law26_wakes : Bool :=
 (bindV (pen_Steps Sty.zero ({ Sty.zero with attr := 5 })) fun (y0 : List Act × Int) => (bindV (pen_Steps ({ Sty.zero with attr := 255 }) Sty.zero) fun (y1 : List Act × Int) => (bindV (pen_Steps ({ Sty.zero with under := 6 }) Sty.zero) fun (y2 : List Act × Int) => (((((decide (y0.2 = 0)) && (ref26_Same y0.1 ([{ Act.zero with kind := 39, n := 1, m := 1 }, { Act.zero with kind := 39, n := 1, m := 4 }] : List Act))) && (decide (y1.2 = 0))) && (ref26_Same y1.1 ([{ Act.zero with kind := 39, n := 0 }] : List Act))) && (!decide (y2.2 = 0))))))

theorem law26_wakes_c (R : Bool) (hR : law26_wakes = R) : ConV Tryz.prog 40 [] [sl cAtr (some ⟨2, 0, none⟩) tab2, tabP 5 pow10Cells] (bv R) := by
 refine con_of_J (n := 48) Tryz.func40 rfl (by kernel_rfl) rfl rfl [] trivial fun X hX hr hD => ?_
 replace hR := (law26_wakes.eq_1 ..).symm.trans hR
 refine sr 1 rfl ?_
 refine ip 1 0 [] (by kernel_rfl) ?_
 refine ie ?_
 refine sr 8 rfl ?_
 refine ix rfl (det_build (cs := cSty Sty.zero) rfl rfl (by kernel_rfl)) ?_
 refine ix rfl (det_build (cs := cSty ({ Sty.zero with attr := 5 })) rfl rfl (by kernel_rfl)) ?_
 have hQ := bindVx hR; clear hR; obtain ⟨y0, hy0, hR⟩ := hQ
 refine it rfl (tri_callN (L2 := []) (pen_Steps_c Sty.zero ({ Sty.zero with attr := 5 }) y0 hy0) rfl rfl rfl rfl rfl Foll.refl (List.Perm.refl _) (fun ⟨⟨q1, k2⟩, hp3⟩ => []) (fun _ => rfl)) fun ⟨⟨q1, k2⟩, hp3⟩ => ?_
 obtain ⟨hc4, hl5⟩ := hp3
 have := pen_Steps_len Sty.zero ({ Sty.zero with attr := 5 }); try rw [hy0] at this
 have := pen_Steps_pen Sty.zero ({ Sty.zero with attr := 5 }); try rw [hy0] at this
 refine ip 5 0 [(1, .slice q1 y0.1.length k2), (2, iv y0.2)] (by kernel_rfl) ?_
 refine ie ?_
 refine sr 8 rfl ?_
 refine ix rfl (det_build (cs := cSty ({ Sty.zero with attr := 255 })) rfl rfl (by kernel_rfl)) ?_
 refine ix rfl (det_build (cs := cSty Sty.zero) rfl rfl (by kernel_rfl)) ?_
 have hQ := bindVx hR; clear hR; obtain ⟨y1, hy1, hR⟩ := hQ
 refine it rfl (tri_callN (L2 := []) (pen_Steps_c ({ Sty.zero with attr := 255 }) Sty.zero y1 hy1) rfl rfl rfl rfl rfl (Foll.pick [1, 2] rfl) (List.Perm.refl _) (fun ⟨⟨q6, k7⟩, hp8⟩ => []) (fun _ => rfl)) fun ⟨⟨q6, k7⟩, hp8⟩ => ?_
 obtain ⟨hc9, hl10⟩ := hp8
 have := pen_Steps_len ({ Sty.zero with attr := 255 }) Sty.zero; try rw [hy1] at this
 have := pen_Steps_pen ({ Sty.zero with attr := 255 }) Sty.zero; try rw [hy1] at this
 refine ip 5 0 [(3, .slice q6 y1.1.length k7), (4, iv y1.2)] (by kernel_rfl) ?_
 refine ie ?_
 refine sr 8 rfl ?_
 refine ix rfl (det_build (cs := cSty ({ Sty.zero with under := 6 })) rfl rfl (by kernel_rfl)) ?_
 refine ix rfl (det_build (cs := cSty Sty.zero) rfl rfl (by kernel_rfl)) ?_
 have hQ := bindVx hR; clear hR; obtain ⟨y2, hy2, hR⟩ := hQ
 refine it rfl (tri_callN (L2 := []) (pen_Steps_c ({ Sty.zero with under := 6 }) Sty.zero y2 hy2) rfl rfl rfl rfl rfl (Foll.pick [2, 3] rfl) (List.Perm.refl _) (fun ⟨⟨q11, k12⟩, hp13⟩ => []) (fun _ => rfl)) fun ⟨⟨q11, k12⟩, hp13⟩ => ?_
 obtain ⟨hc14, hl15⟩ := hp13
 have := pen_Steps_len ({ Sty.zero with under := 6 }) Sty.zero; try rw [hy2] at this
 have := pen_Steps_pen ({ Sty.zero with under := 6 }) Sty.zero; try rw [hy2] at this
 refine ip 5 0 [(6, iv y2.2)] (by kernel_rfl) ?_
 refine ie ?_
 refine sr 24 rfl ?_
 refine ip 3 21 [(27, bv (decide (y0.2 = 0)))] (by kernel_rfl) ?_
 refine iand 6 15 27 33 (ref26_Same y0.1 ([{ Act.zero with kind := 39, n := 1, m := 1 }, { Act.zero with kind := 39, n := 1, m := 4 }] : List Act)) rfl (by kernel_rfl) (fun g16 => ?_) ?_
 ·have g16p : y0.2 = 0 := by simpa using g16
  refine ip 1 5 [(28, .slice q1 y0.1.length k2)] (by kernel_rfl) ?_
  refine ix rfl (det_build (cs := cAct ({ Act.zero with kind := 39, n := 1, m := 1 })) rfl rfl (by kernel_rfl)) ?_
  refine ix rfl (det_build (cs := cAct ({ Act.zero with kind := 39, n := 1, m := 4 })) rfl rfl (by kernel_rfl)) ?_
  refine it rfl (tri_buildSl (c := cAct) (xs := ([{ Act.zero with kind := 39, n := 1, m := 1 }, { Act.zero with kind := 39, n := 1, m := 4 }] : List Act)) slt27 rfl rfl rfl (by kernel_rfl)) fun b17 => ?_
  have : ([{ Act.zero with kind := 39, n := 1, m := 1 }, { Act.zero with kind := 39, n := 1, m := 4 }] : List Act).length = 2 := rfl
  refine ixc rfl (det_call (ref26_Same_c y0.1 ([{ Act.zero with kind := 39, n := 1, m := 1 }, { Act.zero with kind := 39, n := 1, m := 4 }] : List Act) q1 k2 (some ⟨b17, 0, none⟩) 2 (by first | omega | (simp <;> omega) | (dsimp only; omega) | decide) (by first | omega | (simp <;> omega) | (dsimp only; omega) | decide) (by first | omega | (simp <;> omega) | (dsimp only; omega) | decide) (by first | omega | (simp <;> omega) | (dsimp only; omega) | decide) _ rfl) rfl rfl rfl rfl rfl (Foll.pick [3, 0] rfl)) ?_
  refine ip 1 0 [(33, bv (ref26_Same y0.1 ([{ Act.zero with kind := 39, n := 1, m := 1 }, { Act.zero with kind := 39, n := 1, m := 4 }] : List Act)))] (by kernel_rfl) ?_
  exact JI_end (armI 7 27 33 g16 (Foll.pick [1, 2, 3, 4, 5] rfl) (mk [] rfl) rfl rfl rfl rfl rfl)
 refine ip 1 14 [(34, bv ((decide (y0.2 = 0)) && (ref26_Same y0.1 ([{ Act.zero with kind := 39, n := 1, m := 1 }, { Act.zero with kind := 39, n := 1, m := 4 }] : List Act))))] (by kernel_rfl) ?_
 refine iand 3 11 34 37 (decide (y1.2 = 0)) rfl (by kernel_rfl) (fun g18 => ?_) ?_
 ·have g18p := g18; try simp at g18p
  refine ip 3 0 [(37, bv (decide (y1.2 = 0)))] (by kernel_rfl) ?_
  exact JI_end (armI 2 34 37 g18 Foll.refl (mk [] rfl) rfl rfl rfl rfl rfl)
 refine ip 1 10 [(38, bv (((decide (y0.2 = 0)) && (ref26_Same y0.1 ([{ Act.zero with kind := 39, n := 1, m := 1 }, { Act.zero with kind := 39, n := 1, m := 4 }] : List Act))) && (decide (y1.2 = 0))))] (by kernel_rfl) ?_
 refine iand 5 5 38 43 (ref26_Same y1.1 ([{ Act.zero with kind := 39, n := 0 }] : List Act)) rfl (by kernel_rfl) (fun g19 => ?_) ?_
 ·have g19p := g19; try simp at g19p
  refine ip 1 4 [(39, .slice q6 y1.1.length k7)] (by kernel_rfl) ?_
  refine ix rfl (det_build (cs := cAct ({ Act.zero with kind := 39, n := 0 })) rfl rfl (by kernel_rfl)) ?_
  refine it rfl (tri_buildSl (c := cAct) (xs := ([{ Act.zero with kind := 39, n := 0 }] : List Act)) slt27 rfl rfl rfl (by kernel_rfl)) fun b20 => ?_
  have : ([{ Act.zero with kind := 39, n := 0 }] : List Act).length = 1 := rfl
  refine ixc rfl (det_call (ref26_Same_c y1.1 ([{ Act.zero with kind := 39, n := 0 }] : List Act) q6 k7 (some ⟨b20, 0, none⟩) 1 (by first | omega | (simp <;> omega) | (dsimp only; omega) | decide) (by first | omega | (simp <;> omega) | (dsimp only; omega) | decide) (by first | omega | (simp <;> omega) | (dsimp only; omega) | decide) (by first | omega | (simp <;> omega) | (dsimp only; omega) | decide) _ rfl) rfl rfl rfl rfl rfl (Foll.pick [2, 0] rfl)) ?_
  refine ip 1 0 [(43, bv (ref26_Same y1.1 ([{ Act.zero with kind := 39, n := 0 }] : List Act)))] (by kernel_rfl) ?_
  exact JI_end (armI 6 38 43 g19 (Foll.pick [1, 2, 3, 4, 5] rfl) (mk [] rfl) rfl rfl rfl rfl rfl)
 refine ip 1 4 [(44, bv ((((decide (y0.2 = 0)) && (ref26_Same y0.1 ([{ Act.zero with kind := 39, n := 1, m := 1 }, { Act.zero with kind := 39, n := 1, m := 4 }] : List Act))) && (decide (y1.2 = 0))) && (ref26_Same y1.1 ([{ Act.zero with kind := 39, n := 0 }] : List Act))))] (by kernel_rfl) ?_
 refine iand 3 1 44 47 (!decide (y2.2 = 0)) rfl (by kernel_rfl) (fun g21 => ?_) ?_
 ·have g21p := g21; try simp at g21p
  refine ip 3 0 [(47, bv (!decide (y2.2 = 0)))] (by kernel_rfl) ?_
  exact JI_end (armI 2 44 47 g21 Foll.refl (mk [] rfl) rfl rfl rfl rfl rfl)
 refine ip 1 0 [(0, bv (((((decide (y0.2 = 0)) && (ref26_Same y0.1 ([{ Act.zero with kind := 39, n := 1, m := 1 }, { Act.zero with kind := 39, n := 1, m := 4 }] : List Act))) && (decide (y1.2 = 0))) && (ref26_Same y1.1 ([{ Act.zero with kind := 39, n := 0 }] : List Act))) && (!decide (y2.2 = 0))))] (by kernel_rfl) ?_
 refine ie ?_
 refine J_ret ?_
 subst hR
 exact ends_ret rfl ⟨hr, hD⟩ (by simp [hD]) (res1 rfl (resV_tmp rfl)) () (by rfl) (mk [] rfl) Foll.nil

end Go.Proofs.YtinkdfnpmoljfaaGreatDoor

