import Derived.Test.YtinkdfnpmoljfaaGreatDoorD2
import Derived.Test.YtinkdfnpmoljfaaGreatDoorFenX
import Derived.Test.YtinkdfnpmoljfaaGreatDoorIto
import Derived.Test.YtinkdfnpmoljfaaGreatDoorProg
import Derived.Test.YtinkdfnpmoljfaaGreatDoorP1
import Derived.Test.YtinkdfnpmoljfaaGreatDoorP2
import Derived.Test.YtinkdfnpmoljfaaGreatDoorP3
import Derived.Test.YtinkdfnpmoljfaaGreatDoorP4
import Derived.Test.YtinkdfnpmoljfaaGreatDoorP5
import Derived.Test.YtinkdfnpmoljfaaGreatDoorP6
import Derived.Test.YtinkdfnpmoljfaaGreatDoorP7
import Derived.Test.YtinkdfnpmoljfaaGreatDoorP9
import Derived.Test.YtinkdfnpmoljfaaGreatDoorP10
set_option linter.unusedVariables false
set_option linter.unusedSimpArgs false
set_option linter.unnecessarySimpa false
set_option maxRecDepth 100000
namespace Go.Proofs.YtinkdfnpmoljfaaGreatDoor
open Go Go.Fen

def ref26_Cost (l : List Act) : Int :=
 (bindV (ref11_Bytes l) fun (y4 : List UInt8) => (y4.length : Int))

theorem ref26_Cost_c (l : List Act) (lq : Option Addr) (lk : Nat) (hll : l.length ≤ 9223372036854775807) (hcl : l.length ≤ lk) (hpen : ∀ a ∈ l, penA a) (hlen : l.length ≤ 2000) (R : Int) (hR : ref26_Cost l = R) : ConV Tryz.prog 45 [.slice lq l.length lk] [sl cAct lq l] (iv R) := by
 refine con_of_J (n := 6) Tryz.func45 rfl (by kernel_rfl) rfl rfl [(0, .slice lq l.length lk)] ⟨rfl, trivial⟩ fun X hX hr hD => ?_
 replace hR := (ref26_Cost.eq_1 ..).symm.trans hR
 refine sr 1 rfl ?_
 refine ip 1 0 [] (by kernel_rfl) ?_
 refine ie ?_
 refine sr 4 rfl ?_
 refine ip 1 3 [(3, .slice lq l.length lk)] (by kernel_rfl) ?_
 have hQ := bindVx hR; clear hR; obtain ⟨y4, hy4, hR⟩ := hQ
 refine it rfl (tri_callN (L2 := []) (ref11_Bytes_c l lq lk (by first | omega | (simp <;> omega) | (dsimp only; omega) | decide) (by first | omega | (simp <;> omega) | (dsimp only; omega) | decide) (by first | assumption | omega) (by first | omega | (simp <;> omega)) y4 hy4) rfl rfl rfl rfl rfl Foll.refl (List.Perm.refl _) (fun ⟨r1, hk2⟩ => ((vo cU8 5 r1 y4) ++ ([]))) (fun _ => by first | rfl | simp only [List.append_nil, List.cons_append, List.nil_append, List.append_assoc])) fun ⟨r1, hk2⟩ => ?_
 have := VOk.le hk2
 have := VOk.cap hk2
 refine ip 2 0 [(2, iv (y4.length : Int))] (by kernel_rfl) ?_
 refine ie ?_
 refine J_ret ?_
 subst hR
 exact ends_ret rfl ⟨hr, hD⟩ (by simp [hD]) (res1 rfl (resV_tmp rfl)) () (by rfl) (List.nil_sublist _) Foll.nil

def ref26_Steps (from_ : Sty) (to : Sty) : List Act :=
 (bif (decide (from_ = to)) then ([] : List Act) else (bindV (ref26_Changes from_ to) fun (y1 : List Act) => (bindV (ref26_Anew to) fun (y3 : List Act) => (bif (decide ((ref26_Cost y1) ≤ (ref26_Cost y3))) then y1 else y3))))

theorem ref26_Steps_c (from_ : Sty) (to : Sty) (R : List Act) (hR : ref26_Steps from_ to = R) : Con Tryz.prog 44 [ag (cSty from_), ag (cSty to)] [] [] ({t : Option Addr × Nat // R.length ≤ t.2 ∧ R.length ≤ 9223372036854775807}) (fun x => .slice x.1.1 R.length x.1.2) (fun x => []) (fun x => [sl cAct x.1.1 R]) := by
 refine con_of_J (n := 22) Tryz.func44 rfl (by kernel_rfl) rfl rfl [(0, ag (cSty from_)), (1, ag (cSty to))] ⟨rfl, rfl, trivial⟩ fun X hX hr hD => ?_
 replace hR := (ref26_Steps.eq_1 ..).symm.trans hR
 refine sr 3 rfl ?_
 refine it rfl (tri_box (cs := cSty from_) rfl rfl rfl) fun b1 => ?_
 refine it rfl (tri_box (cs := cSty to) rfl rfl rfl) fun b2 => ?_
 refine ip 1 0 [] (by kernel_rfl) ?_
 refine ie ?_
 refine J_seq ?_
 refine sr 3 rfl ?_
 refine ix rfl (det_own_agg (us := cSty from_) ty70 rfl rfl 1 rfl rfl rfl) ?_
 refine ix rfl (det_own_agg (us := cSty to) ty70 rfl rfl 0 rfl rfl rfl) ?_
 refine ix rfl (det_eqs (a := from_) (b := to) eqt70 rfl rfl rfl) ?_
 refine ie ?_
 refine J_if rfl (fun h3 => ?_) (fun h3 => ?_)
 ·have h3p : from_ = to := by simpa using h3
  replace hR := bt hR h3
  refine sr 1 rfl ?_
  refine ip 1 0 [(4, .slice none 0 0)] (by kernel_rfl) ?_
  refine ie ?_
  refine J_ret ?_
  subst hR
  exact ends_ret rfl ⟨hr, hD⟩ (by simp [hD]) (res1 rfl (resV_tmp rfl)) ⟨(none, 0), (by first | omega | (simp <;> omega) | (dsimp only; omega) | decide), (by first | omega | (simp <;> omega) | (dsimp only; omega) | decide)⟩ (by rfl) (mk [false, false] rfl) (Foll.con1 sl_nil Foll.nil)
 ·have h3p : ¬ (from_ = to) := by simpa using h3
  replace hR := bf hR h3
  refine J_skip ?_
  refine nx ?_
  refine sr 4 rfl ?_
  refine ix rfl (det_own_agg (us := cSty from_) ty70 rfl rfl 1 rfl rfl rfl) ?_
  refine ix rfl (det_own_agg (us := cSty to) ty70 rfl rfl 0 rfl rfl rfl) ?_
  have hQ := bindVx hR; clear hR; obtain ⟨y1, hy1, hR⟩ := hQ
  refine it rfl (tri_callP (L2 := [bx b2 (cSty to) 70, bx b1 (cSty from_) 70]) (ref26_Changes_c from_ to y1 hy1) rfl rfl rfl rfl rfl Foll.nil (List.Perm.refl _) (fun ⟨r4, hk5⟩ => (bx b2 (cSty to) 70 :: bx b1 (cSty from_) 70 :: (vo cAct 26 r4 y1) ++ ([]))) (fun ⟨r4, hk5⟩ => permC [vo cAct 26 r4 y1, [bx b2 (cSty to) 70], [bx b1 (cSty from_) 70]] [1, 2, 0] 3 rfl (by decide) (by first | rfl | simp only [List.flatten_cons, List.flatten_nil, List.append_nil, List.cons_append, List.nil_append, List.append_assoc]) [[bx b2 (cSty to) 70], [bx b1 (cSty from_) 70], vo cAct 26 r4 y1] rfl (by first | rfl | simp only [List.flatten_cons, List.flatten_nil, List.append_nil, List.cons_append, List.nil_append, List.append_assoc]))) fun ⟨r4, hk5⟩ => ?_
  have := VOk.le hk5
  have := VOk.cap hk5
  have := ref26_Changes_len from_ to; try rw [hy1] at this
  have := ref26_Changes_pen from_ to; try rw [hy1] at this
  refine ip 1 0 [(5, .slice (va r4.q) y1.length r4.k)] (by kernel_rfl) ?_
  refine ie ?_
  refine sr 3 rfl ?_
  refine ix rfl (det_own_agg (us := cSty to) ty70 rfl rfl 0 rfl rfl rfl) ?_
  have hQ := bindVx hR; clear hR; obtain ⟨y3, hy3, hR⟩ := hQ
  refine it rfl (tri_callN (L2 := (bx b2 (cSty to) 70 :: bx b1 (cSty from_) 70 :: (vo cAct 26 r4 y1) ++ ([]))) (ref26_Anew_c to y3 hy3) rfl rfl rfl rfl rfl Foll.nil (List.Perm.refl _) (fun ⟨⟨q6, k7⟩, hp8⟩ => (bx b2 (cSty to) 70 :: bx b1 (cSty from_) 70 :: (vo cAct 26 r4 y1) ++ ([]))) (fun _ => by first | rfl | simp only [List.append_nil, List.cons_append, List.nil_append, List.append_assoc])) fun ⟨⟨q6, k7⟩, hp8⟩ => ?_
  obtain ⟨hc9, hl10⟩ := hp8
  have := ref26_Anew_len to; try rw [hy3] at this
  have := ref26_Anew_pen to; try rw [hy3] at this
  refine ip 1 0 [(6, .slice q6 y3.length k7)] (by kernel_rfl) ?_
  refine ie ?_
  refine J_seq ?_
  refine sr 5 rfl ?_
  refine ip 1 4 [(15, .slice (va r4.q) y1.length r4.k)] (by kernel_rfl) ?_
  have := VOk.cap hk5
  have := VOk.le hk5
  refine JI_seal [bx b2 (cSty to) 70, bx b1 (cSty from_) 70] [] (T := 26) (c := cAct) (r := r4) (xs := y1) hk5 (by first | rfl | simp only [List.cons_append, List.append_assoc, List.nil_append, List.append_nil]) ?_
  refine ixc rfl (det_call (ref26_Cost_c y1 (va r4.q) r4.k (by first | omega | (simp <;> omega) | (dsimp only; omega) | decide) (by first | omega | (simp <;> omega) | (dsimp only; omega) | decide) (by first | assumption | omega) (by first | omega | (simp <;> omega)) _ rfl) rfl rfl rfl rfl rfl (Foll.pick [0] rfl)) ?_
  refine ip 1 2 [(17, .slice q6 y3.length k7)] (by kernel_rfl) ?_
  refine ixc rfl (det_call (ref26_Cost_c y3 q6 k7 (by first | omega | (simp <;> omega) | (dsimp only; omega) | decide) (by first | omega | (simp <;> omega) | (dsimp only; omega) | decide) (by first | assumption | omega) (by first | omega | (simp <;> omega)) _ rfl) rfl rfl rfl rfl rfl (Foll.pick [1] rfl)) ?_
  refine ip 1 0 [(19, bv (decide ((ref26_Cost y1) ≤ (ref26_Cost y3))))] (by kernel_rfl) ?_
  refine ie ?_
  refine J_if rfl (fun h11 => ?_) (fun h11 => ?_)
  ·have h11p : (ref26_Cost y1) ≤ (ref26_Cost y3) := by simpa using h11
   replace hR := bt hR h11
   refine sr 2 rfl ?_
   refine ip 2 0 [(4, .slice (va r4.q) y1.length r4.k)] (by kernel_rfl) ?_
   refine ie ?_
   refine J_ret ?_
   subst hR
   exact ends_ret rfl ⟨hr, hD⟩ (by simp [hD]) (res1 rfl (resV_tmp rfl)) ⟨(va r4.q, r4.k), (by first | omega | (simp <;> omega) | (dsimp only; omega) | decide), (by first | omega | (simp <;> omega) | (dsimp only; omega) | decide)⟩ (by rfl) (mk [false, false] rfl) (Foll.con1 (at_of 0 rfl) Foll.nil)
  ·have h11p : ¬ ((ref26_Cost y1) ≤ (ref26_Cost y3)) := by simpa using h11
   replace hR := bf hR h11
   refine J_skip ?_
   refine nx ?_
   refine sr 2 rfl ?_
   refine ip 2 0 [(4, .slice q6 y3.length k7)] (by kernel_rfl) ?_
   refine ie ?_
   refine J_ret ?_
   subst hR
   exact ends_ret rfl ⟨hr, hD⟩ (by simp [hD]) (res1 rfl (resV_tmp rfl)) ⟨(q6, k7), (by first | omega | (simp <;> omega) | (dsimp only; omega) | decide), (by first | omega | (simp <;> omega) | (dsimp only; omega) | decide)⟩ (by rfl) (mk [false, false] rfl) (Foll.con1 (at_of 1 rfl) Foll.nil)

def law26_PenSteps (from_ : Sty) (to : Sty) : Bool :=
 (bif (!law26_wakes) then false else (bindV (pen_Steps from_ to) fun (y0 : List Act × Int) => (bif ((!(ref04_Right from_)) || (!(ref04_Right to))) then ((!decide (y0.2 = 0)) && (decide ((y0.1.length : Int) = 0))) else (bindV (pen_Cost y0.1) fun (y2 : Int × Int) => ((((decide (y0.2 = 0)) && (ref26_Same y0.1 (ref26_Steps from_ to))) && (decide (y2.2 = 0))) && (decide (y2.1 = (ref26_Cost y0.1))))))))

theorem law26_PenSteps_c (from_ : Sty) (to : Sty) (R : Bool) (hR : law26_PenSteps from_ to = R) : ConV Tryz.prog 11 [ag (cSty from_), ag (cSty to)] [sl cAtr (some ⟨2, 0, none⟩) tab2, tabP 5 pow10Cells] (bv R) := by
 refine con_of_J (n := 56) Tryz.func11 rfl (by kernel_rfl) rfl rfl [(0, ag (cSty from_)), (1, ag (cSty to))] ⟨rfl, rfl, trivial⟩ fun X hX hr hD => ?_
 replace hR := (law26_PenSteps.eq_1 ..).symm.trans hR
 refine sr 3 rfl ?_
 refine it rfl (tri_box (cs := cSty from_) rfl rfl rfl) fun b1 => ?_
 refine it rfl (tri_box (cs := cSty to) rfl rfl rfl) fun b2 => ?_
 refine ip 1 0 [] (by kernel_rfl) ?_
 refine ie ?_
 refine J_seq ?_
 refine sr 2 rfl ?_
 refine ixc rfl (det_call (law26_wakes_c _ rfl) rfl rfl rfl rfl rfl Foll.refl) ?_
 refine ip 1 0 [(10, bv (!law26_wakes))] (by kernel_rfl) ?_
 refine ie ?_
 refine J_if rfl (fun h3 => ?_) (fun h3 => ?_)
 ·replace hR := bt hR h3
  refine sr 1 rfl ?_
  refine ip 1 0 [(4, bv false)] (by kernel_rfl) ?_
  refine ie ?_
  refine J_ret ?_
  subst hR
  exact ends_ret rfl ⟨hr, hD⟩ (by simp [hD]) (res1 rfl (resV_tmp rfl)) () (by rfl) (mk [false, false] rfl) Foll.nil
 ·replace hR := bf hR h3
  refine J_skip ?_
  refine nx ?_
  refine sr 8 rfl ?_
  refine ix rfl (det_own_agg (us := cSty from_) ty70 rfl rfl 1 rfl rfl rfl) ?_
  refine ix rfl (det_own_agg (us := cSty to) ty70 rfl rfl 0 rfl rfl rfl) ?_
  have hQ := bindVx hR; clear hR; obtain ⟨y0, hy0, hR⟩ := hQ
  refine it rfl (tri_callN (L2 := [bx b2 (cSty to) 70, bx b1 (cSty from_) 70]) (pen_Steps_c from_ to y0 hy0) rfl rfl rfl rfl rfl Foll.refl (List.Perm.refl _) (fun ⟨⟨q4, k5⟩, hp6⟩ => [bx b2 (cSty to) 70, bx b1 (cSty from_) 70]) (fun _ => rfl)) fun ⟨⟨q4, k5⟩, hp6⟩ => ?_
  obtain ⟨hc7, hl8⟩ := hp6
  have := pen_Steps_len from_ to; try rw [hy0] at this
  have := pen_Steps_pen from_ to; try rw [hy0] at this
  refine ip 5 0 [(5, .slice q4 y0.1.length k5), (6, iv y0.2)] (by kernel_rfl) ?_
  refine ie ?_
  refine J_seq ?_
  refine sr 8 rfl ?_
  refine ix rfl (det_own_agg (us := cSty from_) ty70 rfl rfl 1 rfl rfl rfl) ?_
  refine ixc rfl (det_call (ref04_Right_c from_ _ rfl) rfl rfl rfl rfl rfl Foll.nil) ?_
  refine ip 2 4 [(20, bv (!(ref04_Right from_)))] (by kernel_rfl) ?_
  refine ior 4 0 20 24 (!(ref04_Right to)) rfl (by kernel_rfl) (fun g9 => ?_) ?_
  ·refine ix rfl (det_own_agg (us := cSty to) ty70 rfl rfl 0 rfl rfl rfl) ?_
   refine ixc rfl (det_call (ref04_Right_c to _ rfl) rfl rfl rfl rfl rfl Foll.nil) ?_
   refine ip 2 0 [(24, bv (!(ref04_Right to)))] (by kernel_rfl) ?_
   exact JI_end (armI 4 20 24 g9 Foll.refl (mk [true, true] rfl) rfl rfl rfl rfl rfl)
  refine ie ?_
  refine J_if rfl (fun h10 => ?_) (fun h10 => ?_)
  ·have h10p := h10; try simp at h10p
   replace hR := bt hR h10
   refine sr 8 rfl ?_
   refine ip 3 5 [(27, bv (!decide (y0.2 = 0)))] (by kernel_rfl) ?_
   refine iand 4 1 27 31 (decide ((y0.1.length : Int) = 0)) rfl (by kernel_rfl) (fun g11 => ?_) ?_
   ·have g11p : ¬ y0.2 = 0 := by simpa using g11
    refine ip 4 0 [(31, bv (decide ((y0.1.length : Int) = 0)))] (by kernel_rfl) ?_
    exact JI_end (armI 2 27 31 g11 Foll.refl (mk [true, true] rfl) rfl rfl rfl rfl rfl)
   refine ip 1 0 [(4, bv ((!decide (y0.2 = 0)) && (decide ((y0.1.length : Int) = 0))))] (by kernel_rfl) ?_
   refine ie ?_
   refine J_ret ?_
   subst hR
   exact ends_ret rfl ⟨hr, hD⟩ (by simp [hD]) (res1 rfl (resV_tmp rfl)) () (by rfl) (mk [false, false] rfl) Foll.nil
  ·have h10p := h10; try simp at h10p
   replace hR := bf hR h10
   refine J_skip ?_
   refine nx ?_
   refine sr 7 rfl ?_
   refine ip 1 6 [(33, .slice q4 y0.1.length k5)] (by kernel_rfl) ?_
   have hQ := bindVx hR; clear hR; obtain ⟨y2, hy2, hR⟩ := hQ
   refine ixc rfl (det_call (pen_Cost_c y0.1 q4 k5 (by first | omega | (simp <;> omega) | (dsimp only; omega) | decide) (by first | omega | (simp <;> omega) | (dsimp only; omega) | decide) (by first | assumption | omega) (by first | omega | (simp <;> omega)) y2 hy2) rfl rfl rfl rfl rfl Foll.refl) ?_
   refine ip 5 0 [(7, iv y2.1), (8, iv y2.2)] (by kernel_rfl) ?_
   refine ie ?_
   refine sr 20 rfl ?_
   refine ip 3 17 [(39, bv (decide (y0.2 = 0)))] (by kernel_rfl) ?_
   refine iand 6 11 39 45 (ref26_Same y0.1 (ref26_Steps from_ to)) rfl (by kernel_rfl) (fun g12 => ?_) ?_
   ·have g12p : y0.2 = 0 := by simpa using g12
    refine ip 1 5 [(40, .slice q4 y0.1.length k5)] (by kernel_rfl) ?_
    refine ix rfl (det_own_agg (us := cSty from_) ty70 rfl rfl 1 rfl rfl rfl) ?_
    refine ix rfl (det_own_agg (us := cSty to) ty70 rfl rfl 0 rfl rfl rfl) ?_
    refine it rfl (tri_callN (L2 := [bx b2 (cSty to) 70, bx b1 (cSty from_) 70]) (ref26_Steps_c from_ to _ rfl) rfl rfl rfl rfl rfl Foll.nil (List.Perm.refl _) (fun ⟨⟨q13, k14⟩, hp15⟩ => [bx b2 (cSty to) 70, bx b1 (cSty from_) 70]) (fun _ => rfl)) fun ⟨⟨q13, k14⟩, hp15⟩ => ?_
    obtain ⟨hc16, hl17⟩ := hp15
    refine ixc rfl (det_call (ref26_Same_c y0.1 (ref26_Steps from_ to) q4 k5 q13 k14 (by first | omega | (simp <;> omega) | (dsimp only; omega) | decide) (by first | omega | (simp <;> omega) | (dsimp only; omega) | decide) (by first | omega | (simp <;> omega) | (dsimp only; omega) | decide) (by first | omega | (simp <;> omega) | (dsimp only; omega) | decide) _ rfl) rfl rfl rfl rfl rfl (Foll.pick [1, 0] rfl)) ?_
    refine ip 1 0 [(45, bv (ref26_Same y0.1 (ref26_Steps from_ to)))] (by kernel_rfl) ?_
    exact JI_end (armI 7 39 45 g12 (Foll.pick [1, 2, 3] rfl) (mk [true, true] rfl) rfl rfl rfl rfl rfl)
   refine ip 1 10 [(46, bv ((decide (y0.2 = 0)) && (ref26_Same y0.1 (ref26_Steps from_ to))))] (by kernel_rfl) ?_
   refine iand 3 7 46 49 (decide (y2.2 = 0)) rfl (by kernel_rfl) (fun g18 => ?_) ?_
   ·have g18p := g18; try simp at g18p
    refine ip 3 0 [(49, bv (decide (y2.2 = 0)))] (by kernel_rfl) ?_
    exact JI_end (armI 2 46 49 g18 Foll.refl (mk [true, true] rfl) rfl rfl rfl rfl rfl)
   refine ip 1 6 [(50, bv (((decide (y0.2 = 0)) && (ref26_Same y0.1 (ref26_Steps from_ to))) && (decide (y2.2 = 0))))] (by kernel_rfl) ?_
   refine iand 5 1 50 55 (decide (y2.1 = (ref26_Cost y0.1))) rfl (by kernel_rfl) (fun g19 => ?_) ?_
   ·have g19p := g19; try simp at g19p
    refine ip 2 3 [(51, iv y2.1), (52, .slice q4 y0.1.length k5)] (by kernel_rfl) ?_
    refine ixc rfl (det_call (ref26_Cost_c y0.1 q4 k5 (by first | omega | (simp <;> omega) | (dsimp only; omega) | decide) (by first | omega | (simp <;> omega) | (dsimp only; omega) | decide) (by first | assumption | omega) (by first | omega | (simp <;> omega)) _ rfl) rfl rfl rfl rfl rfl (Foll.pick [0] rfl)) ?_
    refine ip 2 0 [(55, bv (decide (y2.1 = (ref26_Cost y0.1))))] (by kernel_rfl) ?_
    exact JI_end (armI 5 50 55 g19 Foll.refl (mk [true, true] rfl) rfl rfl rfl rfl rfl)
   refine ip 1 0 [(4, bv ((((decide (y0.2 = 0)) && (ref26_Same y0.1 (ref26_Steps from_ to))) && (decide (y2.2 = 0))) && (decide (y2.1 = (ref26_Cost y0.1)))))] (by kernel_rfl) ?_
   refine ie ?_
   refine J_ret ?_
   subst hR
   exact ends_ret rfl ⟨hr, hD⟩ (by simp [hD]) (res1 rfl (resV_tmp rfl)) () (by rfl) (mk [false, false] rfl) Foll.nil

end Go.Proofs.YtinkdfnpmoljfaaGreatDoor

