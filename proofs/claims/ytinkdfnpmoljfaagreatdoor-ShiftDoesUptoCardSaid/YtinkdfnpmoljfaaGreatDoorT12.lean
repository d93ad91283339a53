import Derived.Test.YtinkdfnpmoljfaaGreatDoorD2
import Derived.Test.YtinkdfnpmoljfaaGreatDoorFenX
import Derived.Test.YtinkdfnpmoljfaaGreatDoorProg
import Derived.Test.YtinkdfnpmoljfaaGreatDoorT4a
import Derived.Test.YtinkdfnpmoljfaaGreatDoorT4b
import Derived.Test.YtinkdfnpmoljfaaGreatDoorT5
import Derived.Test.YtinkdfnpmoljfaaGreatDoorT6
import Derived.Test.YtinkdfnpmoljfaaGreatDoorT7
import Derived.Test.YtinkdfnpmoljfaaGreatDoorT8
import Derived.Test.YtinkdfnpmoljfaaGreatDoorT9
import Derived.Test.YtinkdfnpmoljfaaGreatDoorT10
import Derived.Test.YtinkdfnpmoljfaaGreatDoorT11
set_option linter.unusedVariables false
set_option linter.unusedSimpArgs false
set_option linter.unnecessarySimpa false
set_option maxRecDepth 100000
namespace Go.Proofs.YtinkdfnpmoljfaaGreatDoor
open Go Go.Fen

def law28_ShiftDoes_j1 (fC : Int) (fR : List (List Cel)) (fU : Plc) (fV : Bool) (fS : Int) (fT : List UInt8) (s : Shf) : Bool :=
 (bindV (shift_Done fC fR fU fV fS fT s) fun (rshiftDone : Int × List (List Cel) × Int × Int × Bool × Int × List UInt8 × Int) => (bif (!(ref23_Right fC fR fU fV fS fT)) then ((decide (rshiftDone.2.2.2.2.2.2.2 = 330)) && (decide ((rshiftDone.2.1.length : Int) = 0))) else (bif (!(ref28_Is s (fR.length : Int))) then ((decide (rshiftDone.2.2.2.2.2.2.2 = 2)) && (decide ((rshiftDone.2.1.length : Int) = 0))) else (bif (decide (rshiftDone.2.2.2.2.2.2.2 = 0)) then (bindV (ref28_Done fC fR fU fV fS fT s) fun (rref28Done : Int × List (List Cel) × Int × Int × Bool × Int × List UInt8) => (ref23_Same rshiftDone.1 rshiftDone.2.1 (⟨rshiftDone.2.2.1, rshiftDone.2.2.2.1⟩ : Plc) rshiftDone.2.2.2.2.1 rshiftDone.2.2.2.2.2.1 rshiftDone.2.2.2.2.2.2.1 rref28Done.1 rref28Done.2.1 (⟨rref28Done.2.2.1, rref28Done.2.2.2.1⟩ : Plc) rref28Done.2.2.2.2.1 rref28Done.2.2.2.2.2.1 rref28Done.2.2.2.2.2.2)) else false))))
def law28_ShiftDoes_j2 (fC : Int) (fR : List (List Cel)) (fU : Plc) (fV : Bool) (fS : Int) (fT : List UInt8) (s : Shf) (rshiftActions : List Act × Int) (scroll : Act) : Bool :=
 (bif (!(ref26_Same rshiftActions.1 ([{ Act.zero with kind := 38, n := (IntKind.i64.wrap (s.top + (1 : Int))), m := (IntKind.i64.wrap (s.bottom + (1 : Int))) }, scroll, { Act.zero with kind := 38 }] : List Act))) then false else law28_ShiftDoes_j1 fC fR fU fV fS fT s)
def law28_ShiftDoes (fC : Int) (fR : List (List Cel)) (fU : Plc) (fV : Bool) (fS : Int) (fT : List UInt8) (s : Shf) (rows : Int) : Bool :=
 (bif (!law28_wakes) then false else (bindV (shift_Actions s rows) fun (rshiftActions : List Act × Int) => (bif (((!decide ((shift_Check s rows) = rshiftActions.2)) || (!((decide (rshiftActions.2 = 0)) == (ref28_Is s rows)))) || ((!(ref28_Is s rows)) && ((!decide (rshiftActions.2 = 2)) || (decide ((0 : Int) < (rshiftActions.1.length : Int)))))) then false else (bif (ref28_Is s rows) then (bif (decide (s.amt < 0)) then law28_ShiftDoes_j2 fC fR fU fV fS fT s rshiftActions ({ Act.zero with kind := 33, n := 1, m := (-s.amt) }) else law28_ShiftDoes_j2 fC fR fU fV fS fT s rshiftActions ({ Act.zero with kind := 33, n := 0, m := s.amt })) else law28_ShiftDoes_j1 fC fR fU fV fS fT s))))

theorem law28_ShiftDoes_c (fC : Int) (fR : List (List Cel)) (fU : Plc) (fV : Bool) (fS : Int) (fT : List UInt8) (s : Shf) (rows : Int) (fQ : Option Addr) (fZ : List Slc) (fK : Nat) (hrowsfRowsrs : RowsOk fZ fR) (hlfRows : fR.length ≤ 9223372036854775807) (hcfRows : fR.length ≤ fK) (hT : fT.length ≤ 100000000) (R : Bool) (hR : law28_ShiftDoes fC fR fU fV fS fT s rows = R) : ConV Tryz.prog 7 [ag [iv fC, .slice fQ fR.length fK, iv fU.row, iv fU.col, bv fV, iv fS, sv fT], ag (cShf s), iv rows] [sl cSlc fQ fZ, rowsF cCel fZ fR, sl cSpn (some ⟨0, 0, none⟩) tab0, sl cSpn (some ⟨1, 0, none⟩) tab1] (bv R) := by
 refine con_of_J (n := 113) Tryz.func7 rfl (by kernel_rfl) rfl rfl [(0, ag [iv fC, .slice fQ fR.length fK, iv fU.row, iv fU.col, bv fV, iv fS, sv fT]), (1, ag (cShf s)), (2, iv rows)] ⟨rfl, rfl, rfl, trivial⟩ fun X hX hr hD => ?_
 replace hR := (law28_ShiftDoes.eq_1 ..).symm.trans hR
 have := hrowsfRowsrs.1
 refine sr 3 rfl ?_
 refine it rfl (tri_box (cs := [iv fC, .slice fQ fR.length fK, iv fU.row, iv fU.col, bv fV, iv fS, sv fT]) rfl rfl rfl) fun b1 => ?_
 refine it rfl (tri_box (cs := cShf s) rfl rfl rfl) fun b2 => ?_
 refine ip 1 0 [] (by kernel_rfl) ?_
 refine ie ?_
 refine J_seq ?_
 refine sr 2 rfl ?_
 refine ixc rfl (det_call (law28_wakes_c _ rfl) rfl rfl rfl rfl rfl (Foll.pick [2, 3] rfl)) ?_
 refine ip 1 0 [(13, bv (!law28_wakes))] (by kernel_rfl) ?_
 refine ie ?_
 refine J_if rfl (fun h3 => ?_) (fun h3 => ?_)
 ·replace hR := bt hR h3
  try (with_reducible have hki := ref28_Is_ok h3)
  refine sr 1 rfl ?_
  refine ip 1 0 [(6, bv false)] (by kernel_rfl) ?_
  refine ie ?_
  refine J_ret ?_
  subst hR
  exact ends_ret rfl ⟨hr, hD⟩ (by simp [hD]) (res1 rfl (resV_tmp rfl)) () (by rfl) (mk [false, false] rfl) Foll.nil
 ·replace hR := bf hR h3
  try (have hq1 := h3; simp only [Bool.or_eq_false_iff, Bool.not_eq_false'] at hq1; with_reducible have hka := ref23_Right_ok hq1)
  try (have hq2 := h3; simp only [Bool.not_eq_false'] at hq2; with_reducible have hki := ref28_Is_ok hq2)
  refine J_skip ?_
  refine nx ?_
  refine sr 4 rfl ?_
  refine ix rfl (det_own_agg (us := cShf s) ty55 rfl rfl 0 rfl rfl rfl) ?_
  refine ip 1 2 [(15, iv rows)] (by kernel_rfl) ?_
  refine ixc rfl (det_call (ref28_Is_c s rows _ rfl) rfl rfl rfl rfl rfl Foll.nil) ?_
  refine ip 1 0 [(7, bv (ref28_Is s rows))] (by kernel_rfl) ?_
  refine ie ?_
  refine sr 8 rfl ?_
  refine ix rfl (det_own_agg (us := cShf s) ty55 rfl rfl 0 rfl rfl rfl) ?_
  refine ip 1 6 [(19, iv rows)] (by kernel_rfl) ?_
  have hQ := bindVx hR; clear hR; obtain ⟨rshiftActions, hrshiftActions, hR⟩ := hQ
  refine it rfl (tri_callN (L2 := [bx b2 (cShf s) 55, bx b1 [iv fC, .slice fQ fR.length fK, iv fU.row, iv fU.col, bv fV, iv fS, sv fT] 53]) (shift_Actions_c s rows rshiftActions hrshiftActions) rfl rfl rfl rfl rfl Foll.nil (List.Perm.refl _) (fun ⟨⟨q4, k5⟩, hp6⟩ => [bx b2 (cShf s) 55, bx b1 [iv fC, .slice fQ fR.length fK, iv fU.row, iv fU.col, bv fV, iv fS, sv fT] 53]) (fun _ => rfl)) fun ⟨⟨q4, k5⟩, hp6⟩ => ?_
  obtain ⟨hc7, hl8⟩ := hp6
  refine ip 5 0 [(8, .slice q4 rshiftActions.1.length k5), (9, iv rshiftActions.2)] (by kernel_rfl) ?_
  refine ie ?_
  refine J_seq ?_
  refine sr 24 rfl ?_
  refine ix rfl (det_own_agg (us := cShf s) ty55 rfl rfl 0 rfl rfl rfl) ?_
  refine ip 1 22 [(24, iv rows)] (by kernel_rfl) ?_
  refine ixc rfl (det_call (shift_Check_c s rows _ rfl) rfl rfl rfl rfl rfl Foll.nil) ?_
  refine ip 3 18 [(28, bv (!decide ((shift_Check s rows) = rshiftActions.2)))] (by kernel_rfl) ?_
  refine ior 5 13 28 33 (!((decide (rshiftActions.2 = 0)) == (ref28_Is s rows))) rfl (by kernel_rfl) (fun g9 => ?_) ?_
  ·have g9p : ¬ (¬ (shift_Check s rows) = rshiftActions.2) := by simpa using g9
   refine ip 3 2 [(30, bv (decide (rshiftActions.2 = 0))), (31, bv (ref28_Is s rows))] (by kernel_rfl) ?_
   refine ix rfl (det_neb Tryz.underlying4 rfl rfl rfl) ?_
   refine ip 1 0 [(33, bv (!((decide (rshiftActions.2 = 0)) == (ref28_Is s rows))))] (by kernel_rfl) ?_
   exact JI_end (armI 5 28 33 g9 Foll.refl (mk [true, true] rfl) rfl rfl rfl rfl rfl)
  refine ip 1 12 [(34, bv ((!decide ((shift_Check s rows) = rshiftActions.2)) || (!((decide (rshiftActions.2 = 0)) == (ref28_Is s rows)))))] (by kernel_rfl) ?_
  refine ior 12 0 34 46 ((!(ref28_Is s rows)) && ((!decide (rshiftActions.2 = 2)) || (decide ((0 : Int) < (rshiftActions.1.length : Int))))) rfl (by kernel_rfl) (fun g10 => ?_) ?_
  ·have g10p := g10; try simp at g10p
   refine ip 3 9 [(37, bv (!(ref28_Is s rows)))] (by kernel_rfl) ?_
   refine iand 8 1 37 45 ((!decide (rshiftActions.2 = 2)) || (decide ((0 : Int) < (rshiftActions.1.length : Int)))) rfl (by kernel_rfl) (fun g11 => ?_) ?_
   ·refine ip 3 5 [(40, bv (!decide (rshiftActions.2 = 2)))] (by kernel_rfl) ?_
    refine ior 4 1 40 44 (decide ((0 : Int) < (rshiftActions.1.length : Int))) rfl (by kernel_rfl) (fun g12 => ?_) ?_
    ·have g12p : ¬ (¬ rshiftActions.2 = 2) := by simpa using g12
     refine ip 4 0 [(44, bv (decide ((0 : Int) < (rshiftActions.1.length : Int))))] (by kernel_rfl) ?_
     exact JI_end (armI 2 40 44 g12 Foll.refl (mk [true, true] rfl) rfl rfl rfl rfl rfl)
    refine ip 1 0 [(45, bv ((!decide (rshiftActions.2 = 2)) || (decide ((0 : Int) < (rshiftActions.1.length : Int)))))] (by kernel_rfl) ?_
    exact JI_end (armI 4 37 45 g11 Foll.refl (mk [true, true] rfl) rfl rfl rfl rfl rfl)
   refine ip 1 0 [(46, bv ((!(ref28_Is s rows)) && ((!decide (rshiftActions.2 = 2)) || (decide ((0 : Int) < (rshiftActions.1.length : Int))))))] (by kernel_rfl) ?_
   exact JI_end (armI 4 34 46 g10 Foll.refl (mk [true, true] rfl) rfl rfl rfl rfl rfl)
  refine ie ?_
  refine J_if rfl (fun h13 => ?_) (fun h13 => ?_)
  ·have h13p := h13; try simp at h13p
   replace hR := bt hR h13
   try (with_reducible have hki := ref28_Is_ok h13)
   refine sr 1 rfl ?_
   refine ip 1 0 [(6, bv false)] (by kernel_rfl) ?_
   refine ie ?_
   refine J_ret ?_
   subst hR
   exact ends_ret rfl ⟨hr, hD⟩ (by simp [hD]) (res1 rfl (resV_tmp rfl)) () (by rfl) (mk [false, false] rfl) Foll.nil
  ·have h13p := h13; try simp at h13p
   replace hR := bf hR h13
   try (have hq1 := h13; simp only [Bool.or_eq_false_iff, Bool.not_eq_false'] at hq1; with_reducible have hka := ref23_Right_ok hq1)
   try (have hq2 := h13; simp only [Bool.not_eq_false'] at hq2; with_reducible have hki := ref28_Is_ok hq2)
   refine J_skip ?_
   refine nx ?_
   refine JS1 (fun (_ : Unit) => law28_ShiftDoes_j1 fC fR fU fV fS fT s = R) (fun (_ : Unit) => [(3, pt b1 0), (4, pt b2 0)]) (fun (_ : Unit) => [bx b2 (cShf s) 55, bx b1 [iv fC, .slice fQ fR.length fK, iv fU.row, iv fU.col, bv fV, iv fS, sv fT] 53]) (fun (_ : Unit) => [sl cAct q4 rshiftActions.1, sl cSlc fQ fZ, rowsF cCel fZ fR, sl cSpn (some ⟨0, 0, none⟩) tab0, sl cSpn (some ⟨1, 0, none⟩) tab1]) ?_ ?_
   ·refine sr 1 rfl ?_
    refine ip 1 0 [(47, bv (ref28_Is s rows))] (by kernel_rfl) ?_
    refine ie ?_
    refine J_if rfl (fun h14 => ?_) (fun h14 => ?_)
    ·replace hR := bt hR h14
     try (with_reducible have hki := ref28_Is_ok h14)
     refine sr 5 rfl ?_
     refine ip 1 4 [(48, pt b2 2)] (by kernel_rfl) ?_
     refine ix rfl (det_own_one (v := iv s.amt) ty3 rfl rfl 0 rfl rfl) ?_
     refine ix rfl (det_build (cs := cAct ({ Act.zero with kind := 33, n := 0, m := s.amt })) rfl rfl (by kernel_rfl)) ?_
     refine it rfl (tri_alloc (cs := cAct Act.zero) zero26 rfl) fun b15 => ?_
     refine it rfl (tri_store (us := cAct ({ Act.zero with kind := 33, n := 0, m := s.amt })) (cs' := cAct ({ Act.zero with kind := 33, n := 0, m := s.amt })) ty26 rfl rfl rfl 0 rfl rfl rfl rfl rfl rfl) fun _ => ?_
     refine ie ?_
     refine JS1 (fun (scroll : Act) => law28_ShiftDoes_j2 fC fR fU fV fS fT s rshiftActions scroll = R) (fun (scroll : Act) => [(3, pt b1 0), (4, pt b2 0), (8, .slice q4 rshiftActions.1.length k5), (10, pt b15 0)]) (fun (scroll : Act) => [bx b15 (cAct scroll) 26, bx b2 (cShf s) 55, bx b1 [iv fC, .slice fQ fR.length fK, iv fU.row, iv fU.col, bv fV, iv fS, sv fT] 53]) (fun (scroll : Act) => [sl cAct q4 rshiftActions.1, sl cSlc fQ fZ, rowsF cCel fZ fR, sl cSpn (some ⟨0, 0, none⟩) tab0, sl cSpn (some ⟨1, 0, none⟩) tab1]) ?_ ?_
     ·refine sr 3 rfl ?_
      refine ip 1 2 [(51, pt b2 2)] (by kernel_rfl) ?_
      refine ix rfl (det_own_one (v := iv s.amt) ty3 rfl rfl 1 rfl rfl) ?_
      refine ip 1 0 [(53, bv (decide (s.amt < 0)))] (by kernel_rfl) ?_
      refine ie ?_
      refine J_if rfl (fun h16 => ?_) (fun h16 => ?_)
      ·have h16p : s.amt < 0 := by simpa using h16
       replace hR := bt hR h16
       try (with_reducible have hki := ref28_Is_ok h16)
       refine J_region 5 rfl ?_
       refine ip 1 4 [(54, pt b2 2)] (by kernel_rfl) ?_
       refine ix rfl (det_own_one (v := iv s.amt) ty3 rfl rfl 1 rfl rfl) ?_
       refine ix rfl (det_neg64 rfl rfl rfl (by omega)) ?_
       refine ix rfl (det_build (cs := cAct ({ Act.zero with kind := 33, n := 1, m := (-s.amt) })) rfl rfl (by kernel_rfl)) ?_
       refine it rfl (tri_store (us := cAct ({ Act.zero with kind := 33, n := 1, m := (-s.amt) })) (cs' := cAct ({ Act.zero with kind := 33, n := 1, m := (-s.amt) })) ty26 rfl rfl rfl 0 rfl rfl rfl rfl rfl rfl) fun _ => ?_
       refine JI_end ?_
       exact meet1 ({ Act.zero with kind := 33, n := 1, m := (-s.amt) }) hR ⟨rfl, rfl, rfl, rfl, trivial⟩ (mk [true, true, true] rfl) Foll.refl
      ·have h16p : ¬ (s.amt < 0) := by simpa using h16
       replace hR := bf hR h16
       try (have hq1 := h16; simp only [Bool.or_eq_false_iff, Bool.not_eq_false'] at hq1; with_reducible have hka := ref23_Right_ok hq1)
       try (have hq2 := h16; simp only [Bool.not_eq_false'] at hq2; with_reducible have hki := ref28_Is_ok hq2)
       refine J_skip ?_
       exact meet1 ({ Act.zero with kind := 33, n := 0, m := s.amt }) hR ⟨rfl, rfl, rfl, rfl, trivial⟩ (mk [true, true, true] rfl) Foll.refl
     ·intro scroll
      rintro hR
      replace hR := (law28_ShiftDoes_j2.eq_1 ..).symm.trans hR
      refine sr 13 rfl ?_
      refine ip 2 11 [(58, .slice q4 rshiftActions.1.length k5), (59, pt b2 0)] (by kernel_rfl) ?_
      refine ix rfl (det_own_one (v := iv s.top) ty3 rfl rfl 1 rfl rfl) ?_
      refine ix rfl (DetR.pure rfl) ?_
      refine ip 1 8 [(62, pt b2 1)] (by kernel_rfl) ?_
      refine ix rfl (det_own_one (v := iv s.bottom) ty3 rfl rfl 1 rfl rfl) ?_
      refine ix rfl (DetR.pure rfl) ?_
      refine ix rfl (det_build (cs := cAct ({ Act.zero with kind := 38, n := (IntKind.i64.wrap (s.top + (1 : Int))), m := (IntKind.i64.wrap (s.bottom + (1 : Int))) })) rfl rfl (by kernel_rfl)) ?_
      refine ix rfl (det_own_agg (us := cAct scroll) ty26 rfl rfl 0 rfl rfl rfl) ?_
      refine ix rfl (det_build (cs := cAct ({ Act.zero with kind := 38 })) rfl rfl (by kernel_rfl)) ?_
      refine it rfl (tri_buildSl (c := cAct) (xs := ([{ Act.zero with kind := 38, n := (IntKind.i64.wrap (s.top + (1 : Int))), m := (IntKind.i64.wrap (s.bottom + (1 : Int))) }, scroll, { Act.zero with kind := 38 }] : List Act)) slt27 rfl rfl rfl (by kernel_rfl)) fun b17 => ?_
      have : ([{ Act.zero with kind := 38, n := (IntKind.i64.wrap (s.top + (1 : Int))), m := (IntKind.i64.wrap (s.bottom + (1 : Int))) }, scroll, { Act.zero with kind := 38 }] : List Act).length = 3 := rfl
      refine ixc rfl (det_call (ref26_Same_c rshiftActions.1 ([{ Act.zero with kind := 38, n := (IntKind.i64.wrap (s.top + (1 : Int))), m := (IntKind.i64.wrap (s.bottom + (1 : Int))) }, scroll, { Act.zero with kind := 38 }] : List Act) q4 k5 (some ⟨b17, 0, none⟩) 3 (by first | omega | (simp <;> omega) | (dsimp only; omega) | decide) (by first | omega | (simp <;> omega) | (dsimp only; omega) | decide) (by first | omega | (simp <;> omega) | (dsimp only; omega) | decide) (by first | omega | (simp <;> omega) | (dsimp only; omega) | decide) _ rfl) rfl rfl rfl rfl rfl (Foll.pick [1, 0] rfl)) ?_
      refine ip 1 0 [(70, bv (!(ref26_Same rshiftActions.1 ([{ Act.zero with kind := 38, n := (IntKind.i64.wrap (s.top + (1 : Int))), m := (IntKind.i64.wrap (s.bottom + (1 : Int))) }, scroll, { Act.zero with kind := 38 }] : List Act))))] (by kernel_rfl) ?_
      refine ie ?_
      refine J_if rfl (fun h18 => ?_) (fun h18 => ?_)
      ·replace hR := bt hR h18
       try (with_reducible have hki := ref28_Is_ok h18)
       refine sr 1 rfl ?_
       refine ip 1 0 [(6, bv false)] (by kernel_rfl) ?_
       refine ie ?_
       refine J_ret ?_
       subst hR
       exact ends_ret rfl ⟨hr, hD⟩ (by simp [hD]) (res1 rfl (resV_tmp rfl)) () (by rfl) (mk [false, false, false] rfl) Foll.nil
      ·replace hR := bf hR h18
       try (have hq1 := h18; simp only [Bool.or_eq_false_iff, Bool.not_eq_false'] at hq1; with_reducible have hka := ref23_Right_ok hq1)
       try (have hq2 := h18; simp only [Bool.not_eq_false'] at hq2; with_reducible have hki := ref28_Is_ok hq2)
       refine J_skip ?_
       exact meet1 () hR ⟨rfl, rfl, trivial⟩ (mk [false, true, true] rfl) (Foll.pick [1, 2, 3, 4, 5] rfl)
    ·replace hR := bf hR h14
     try (have hq1 := h14; simp only [Bool.or_eq_false_iff, Bool.not_eq_false'] at hq1; with_reducible have hka := ref23_Right_ok hq1)
     try (have hq2 := h14; simp only [Bool.not_eq_false'] at hq2; with_reducible have hki := ref28_Is_ok hq2)
     refine J_skip ?_
     exact meet1 () hR ⟨rfl, rfl, trivial⟩ (mk [true, true] rfl) Foll.refl
   ·intro _
    rintro hR
    replace hR := (law28_ShiftDoes_j1.eq_1 ..).symm.trans hR
    refine sr 9 rfl ?_
    refine ix rfl (det_own_agg (us := [iv fC, .slice fQ fR.length fK, iv fU.row, iv fU.col, bv fV, iv fS, sv fT]) ty53 rfl rfl 1 rfl rfl rfl) ?_
    refine ix rfl (det_own_agg (us := cShf s) ty55 rfl rfl 0 rfl rfl rfl) ?_
    have hQ := bindVx hR; clear hR; obtain ⟨rshiftDone, hrshiftDone, hR⟩ := hQ
    refine it rfl (tri_callP (L2 := [bx b2 (cShf s) 55, bx b1 [iv fC, .slice fQ fR.length fK, iv fU.row, iv fU.col, bv fV, iv fS, sv fT] 53]) (shift_Done_c fC fR fU fV fS fT s fQ fZ fK hrowsfRowsrs (by first | omega | (simp <;> omega) | (dsimp only; omega) | decide) (by first | omega | (simp <;> omega) | (dsimp only; omega) | decide) (by first | omega | (simp <;> omega)) rshiftDone hrshiftDone) rfl rfl rfl rfl rfl (Foll.pick [1, 2, 3, 4] rfl) (List.Perm.refl _) (fun ⟨⟨r19, rs20⟩, hp23⟩ => (bx b2 (cShf s) 55 :: bx b1 [iv fC, .slice fQ fR.length fK, iv fU.row, iv fU.col, bv fV, iv fS, sv fT] 53 :: (vo cSlc 67 r19 rs20) ++ ([]))) (fun ⟨⟨r19, rs20⟩, hp23⟩ => permC [vo cSlc 67 r19 rs20, [bx b2 (cShf s) 55], [bx b1 [iv fC, .slice fQ fR.length fK, iv fU.row, iv fU.col, bv fV, iv fS, sv fT] 53]] [1, 2, 0] 3 rfl (by decide) (by first | rfl | simp only [List.flatten_cons, List.flatten_nil, List.append_nil, List.cons_append, List.nil_append, List.append_assoc]) [[bx b2 (cShf s) 55], [bx b1 [iv fC, .slice fQ fR.length fK, iv fU.row, iv fU.col, bv fV, iv fS, sv fT] 53], vo cSlc 67 r19 rs20] rfl (by first | rfl | simp only [List.flatten_cons, List.flatten_nil, List.append_nil, List.cons_append, List.nil_append, List.append_assoc]))) fun ⟨⟨r19, rs20⟩, hp23⟩ => ?_
    try dsimp only at hp23
    obtain ⟨hk21, hw22⟩ := hp23
    have := VOk.le hk21
    have := VOk.cap hk21
    have := hw22.1
    have := shift_Done_title fC fR fU fV fS fT s; try rw [hrshiftDone] at this
    refine JI_seal [bx b2 (cShf s) 55, bx b1 [iv fC, .slice fQ fR.length fK, iv fU.row, iv fU.col, bv fV, iv fS, sv fT] 53] [] (T := 67) (c := cSlc) (r := r19) (xs := rs20) (VOk.cast hk21 (by rw [hw22.1])) (by first | rfl | simp only [List.cons_append, List.append_assoc, List.nil_append, List.append_nil]) ?_
    refine ip 3 3 [(75, ag [iv rshiftDone.1, .slice (va r19.q) rshiftDone.2.1.length r19.k, iv rshiftDone.2.2.1, iv rshiftDone.2.2.2.1, bv rshiftDone.2.2.2.2.1, iv rshiftDone.2.2.2.2.2.1, sv rshiftDone.2.2.2.2.2.2.1]), (76, iv rshiftDone.2.2.2.2.2.2.2)] (by kernel_rfl) ?_
    refine it rfl (tri_alloc (cs := [iv 0, .slice none 0 0, iv 0, iv 0, bv false, iv 0, sv ([] : List UInt8)]) zero53 rfl) fun b24 => ?_
    refine it rfl (tri_store (us := [iv rshiftDone.1, .slice (va r19.q) rshiftDone.2.1.length r19.k, iv rshiftDone.2.2.1, iv rshiftDone.2.2.2.1, bv rshiftDone.2.2.2.2.1, iv rshiftDone.2.2.2.2.2.1, sv rshiftDone.2.2.2.2.2.2.1]) (cs' := [iv rshiftDone.1, .slice (va r19.q) rshiftDone.2.1.length r19.k, iv rshiftDone.2.2.1, iv rshiftDone.2.2.2.1, bv rshiftDone.2.2.2.2.1, iv rshiftDone.2.2.2.2.2.1, sv rshiftDone.2.2.2.2.2.2.1]) ty53 rfl rfl rfl 0 rfl rfl rfl rfl rfl rfl) fun _ => ?_
    refine ip 1 0 [(9, iv rshiftDone.2.2.2.2.2.2.2)] (by kernel_rfl) ?_
    refine ie ?_
    refine J_seq ?_
    refine J_block ?_
    refine sr 4 rfl ?_
    refine ix rfl (det_own_agg (us := [iv fC, .slice fQ fR.length fK, iv fU.row, iv fU.col, bv fV, iv fS, sv fT]) ty53 rfl rfl 2 rfl rfl rfl) ?_
    refine ixc rfl (det_call (ref23_Right_c fC fR fU fV fS fT fQ fZ fK hrowsfRowsrs (by first | omega | (simp <;> omega) | (dsimp only; omega) | decide) (by first | omega | (simp <;> omega) | (dsimp only; omega) | decide) _ rfl) rfl rfl rfl rfl rfl (Foll.pick [3, 4] rfl)) ?_
    refine ip 2 0 [(77, bv (!(ref23_Right fC fR fU fV fS fT)))] (by kernel_rfl) ?_
    refine ie ?_
    refine J_if rfl (fun h25 => ?_) (fun h25 => ?_)
    ·replace hR := bt hR h25
     try (with_reducible have hki := ref28_Is_ok h25)
     refine sr 9 rfl ?_
     refine ip 3 6 [(83, bv (decide (rshiftDone.2.2.2.2.2.2.2 = 330)))] (by kernel_rfl) ?_
     refine iand 5 1 83 88 (decide ((rshiftDone.2.1.length : Int) = 0)) rfl (by kernel_rfl) (fun g26 => ?_) ?_
     ·have g26p : rshiftDone.2.2.2.2.2.2.2 = 330 := by simpa using g26
      refine ip 1 4 [(84, pt b24 1)] (by kernel_rfl) ?_
      refine ix rfl (det_own_one (v := .slice (va r19.q) rshiftDone.2.1.length r19.k) ty49 rfl rfl 0 rfl rfl) ?_
      refine ip 3 0 [(88, bv (decide ((rshiftDone.2.1.length : Int) = 0)))] (by kernel_rfl) ?_
      exact JI_end (armI 4 83 88 g26 Foll.refl (mk [true, true, true] rfl) rfl rfl rfl rfl rfl)
     refine ip 1 0 [(6, bv ((decide (rshiftDone.2.2.2.2.2.2.2 = 330)) && (decide ((rshiftDone.2.1.length : Int) = 0))))] (by kernel_rfl) ?_
     refine ie ?_
     refine J_ret ?_
     subst hR
     exact ends_ret rfl ⟨hr, hD⟩ (by simp [hD]) (res1 rfl (resV_tmp rfl)) () (by rfl) (mk [false, false, false] rfl) Foll.nil
    ·replace hR := bf hR h25
     try (have hq1 := h25; simp only [Bool.or_eq_false_iff, Bool.not_eq_false'] at hq1; with_reducible have hka := ref23_Right_ok hq1)
     try (have hq2 := h25; simp only [Bool.not_eq_false'] at hq2; with_reducible have hki := ref28_Is_ok hq2)
     refine sr 7 rfl ?_
     refine ix rfl (det_own_agg (us := cShf s) ty55 rfl rfl 1 rfl rfl rfl) ?_
     refine ip 1 5 [(91, pt b1 1)] (by kernel_rfl) ?_
     refine ix rfl (det_own_one (v := .slice fQ fR.length fK) ty49 rfl rfl 2 rfl rfl) ?_
     refine ip 1 3 [(93, iv (fR.length : Int))] (by kernel_rfl) ?_
     refine ixc rfl (det_call (ref28_Is_c s (fR.length : Int) _ rfl) rfl rfl rfl rfl rfl Foll.nil) ?_
     refine ip 2 0 [(89, bv (!(ref28_Is s (fR.length : Int))))] (by kernel_rfl) ?_
     refine ie ?_
     refine J_if rfl (fun h27 => ?_) (fun h27 => ?_)
     ·replace hR := bt hR h27
      try (with_reducible have hki := ref28_Is_ok h27)
      refine sr 9 rfl ?_
      refine ip 3 6 [(98, bv (decide (rshiftDone.2.2.2.2.2.2.2 = 2)))] (by kernel_rfl) ?_
      refine iand 5 1 98 103 (decide ((rshiftDone.2.1.length : Int) = 0)) rfl (by kernel_rfl) (fun g28 => ?_) ?_
      ·have g28p : rshiftDone.2.2.2.2.2.2.2 = 2 := by simpa using g28
       refine ip 1 4 [(99, pt b24 1)] (by kernel_rfl) ?_
       refine ix rfl (det_own_one (v := .slice (va r19.q) rshiftDone.2.1.length r19.k) ty49 rfl rfl 0 rfl rfl) ?_
       refine ip 3 0 [(103, bv (decide ((rshiftDone.2.1.length : Int) = 0)))] (by kernel_rfl) ?_
       exact JI_end (armI 4 98 103 g28 Foll.refl (mk [true, true, true] rfl) rfl rfl rfl rfl rfl)
      refine ip 1 0 [(6, bv ((decide (rshiftDone.2.2.2.2.2.2.2 = 2)) && (decide ((rshiftDone.2.1.length : Int) = 0))))] (by kernel_rfl) ?_
      refine ie ?_
      refine J_ret ?_
      subst hR
      exact ends_ret rfl ⟨hr, hD⟩ (by simp [hD]) (res1 rfl (resV_tmp rfl)) () (by rfl) (mk [false, false, false] rfl) Foll.nil
     ·replace hR := bf hR h27
      try (have hq1 := h27; simp only [Bool.or_eq_false_iff, Bool.not_eq_false'] at hq1; with_reducible have hka := ref23_Right_ok hq1)
      try (have hq2 := h27; simp only [Bool.not_eq_false'] at hq2; with_reducible have hki := ref28_Is_ok hq2)
      refine J_skip ?_
      refine nx ?_
      refine sh 10 [(10, [bx b24 [iv rshiftDone.1, .slice (va r19.q) rshiftDone.2.1.length r19.k, iv rshiftDone.2.2.1, iv rshiftDone.2.2.2.1, bv rshiftDone.2.2.2.2.1, iv rshiftDone.2.2.2.2.2.1, sv rshiftDone.2.2.2.2.2.2.1] 53]), (10, [bx b2 (cShf s) 55]), (10, [bx b1 [iv fC, .slice fQ fR.length fK, iv fU.row, iv fU.col, bv fV, iv fS, sv fT] 53])] [sl cSlc (va r19.q) rs20, rowsF cCel rs20 rshiftDone.2.1, sl cAct q4 rshiftActions.1, sl cSlc fQ fZ, rowsF cCel fZ fR, sl cSpn (some ⟨0, 0, none⟩) tab0, sl cSpn (some ⟨1, 0, none⟩) tab1] [bx b24 [iv rshiftDone.1, .slice (va r19.q) rshiftDone.2.1.length r19.k, iv rshiftDone.2.2.1, iv rshiftDone.2.2.2.1, bv rshiftDone.2.2.2.2.1, iv rshiftDone.2.2.2.2.2.1, sv rshiftDone.2.2.2.2.2.2.1] 53, bx b2 (cShf s) 55, bx b1 [iv fC, .slice fQ fR.length fK, iv fU.row, iv fU.col, bv fV, iv fS, sv fT] 53] #[false, false, false, false, false, false, false, false, false, false] (by kernel_rfl) rfl (by kernel_rfl) (by kernel_rfl) (by kernel_rfl) (mk [true, true, true] rfl) Foll.refl ?_
      refine hpur [0, 1, 2] 7 #[true, true, true, false, false, false, false, false, false, false] [(106, bv (decide (rshiftDone.2.2.2.2.2.2.2 = 0)))] (by kernel_rfl) ?_
      refine JH_cases 106 _ rfl (fun g29 => ?_) (fun g29 => ?_)
      ·have g29p : rshiftDone.2.2.2.2.2.2.2 = 0 := by simpa using g29
       replace hR := bt hR g29
       refine htak 3 [bx b24 [iv rshiftDone.1, .slice (va r19.q) rshiftDone.2.1.length r19.k, iv rshiftDone.2.2.1, iv rshiftDone.2.2.2.1, bv rshiftDone.2.2.2.2.1, iv rshiftDone.2.2.2.2.2.1, sv rshiftDone.2.2.2.2.2.2.1] 53, bx b2 (cShf s) 55, bx b1 [iv fC, .slice fQ fR.length fK, iv fU.row, iv fU.col, bv fV, iv fS, sv fT] 53] #[true, true, true, true, false, false, false, false, false, false] rfl rfl rfl (by kernel_rfl) (by kernel_rfl) (by kernel_rfl) (det_own_agg (us := [iv rshiftDone.1, .slice (va r19.q) rshiftDone.2.1.length r19.k, iv rshiftDone.2.2.1, iv rshiftDone.2.2.2.1, bv rshiftDone.2.2.2.2.1, iv rshiftDone.2.2.2.2.2.1, sv rshiftDone.2.2.2.2.2.2.1]) ty53 rfl rfl 0 rfl rfl rfl) ?_
       refine htak 4 [bx b24 [iv rshiftDone.1, .slice (va r19.q) rshiftDone.2.1.length r19.k, iv rshiftDone.2.2.1, iv rshiftDone.2.2.2.1, bv rshiftDone.2.2.2.2.1, iv rshiftDone.2.2.2.2.2.1, sv rshiftDone.2.2.2.2.2.2.1] 53, bx b2 (cShf s) 55, bx b1 [iv fC, .slice fQ fR.length fK, iv fU.row, iv fU.col, bv fV, iv fS, sv fT] 53] #[true, true, true, true, true, false, false, false, false, false] rfl rfl rfl (by kernel_rfl) (by kernel_rfl) (by kernel_rfl) (det_own_agg (us := [iv fC, .slice fQ fR.length fK, iv fU.row, iv fU.col, bv fV, iv fS, sv fT]) ty53 rfl rfl 2 rfl rfl rfl) ?_
       refine htak 5 [bx b24 [iv rshiftDone.1, .slice (va r19.q) rshiftDone.2.1.length r19.k, iv rshiftDone.2.2.1, iv rshiftDone.2.2.2.1, bv rshiftDone.2.2.2.2.1, iv rshiftDone.2.2.2.2.2.1, sv rshiftDone.2.2.2.2.2.2.1] 53, bx b2 (cShf s) 55, bx b1 [iv fC, .slice fQ fR.length fK, iv fU.row, iv fU.col, bv fV, iv fS, sv fT] 53] #[true, true, true, true, true, true, false, false, false, false] rfl rfl rfl (by kernel_rfl) (by kernel_rfl) (by kernel_rfl) (det_own_agg (us := cShf s) ty55 rfl rfl 1 rfl rfl rfl) ?_
       have hQ := bindVx hR; clear hR; obtain ⟨rref28Done, hrref28Done, hR⟩ := hQ
       refine hone 6 [bx b24 [iv rshiftDone.1, .slice (va r19.q) rshiftDone.2.1.length r19.k, iv rshiftDone.2.2.1, iv rshiftDone.2.2.2.1, bv rshiftDone.2.2.2.2.1, iv rshiftDone.2.2.2.2.2.1, sv rshiftDone.2.2.2.2.2.2.1] 53, bx b2 (cShf s) 55, bx b1 [iv fC, .slice fQ fR.length fK, iv fU.row, iv fU.col, bv fV, iv fS, sv fT] 53] #[true, true, true, true, true, true, true, false, false, false] rfl rfl rfl (by kernel_rfl) (by kernel_rfl) (by kernel_rfl) (tri_callP (L2 := [bx b24 [iv rshiftDone.1, .slice (va r19.q) rshiftDone.2.1.length r19.k, iv rshiftDone.2.2.1, iv rshiftDone.2.2.2.1, bv rshiftDone.2.2.2.2.1, iv rshiftDone.2.2.2.2.2.1, sv rshiftDone.2.2.2.2.2.2.1] 53, bx b2 (cShf s) 55, bx b1 [iv fC, .slice fQ fR.length fK, iv fU.row, iv fU.col, bv fV, iv fS, sv fT] 53]) (ref28_Done_c fC fR fU fV fS fT s fQ fZ fK hrowsfRowsrs (by first | omega | (simp <;> omega) | (dsimp only; omega) | decide) (by first | omega | (simp <;> omega) | (dsimp only; omega) | decide) (by first | omega | (simp <;> omega)) rref28Done hrref28Done) rfl rfl rfl rfl rfl (Foll.pick [3, 4] rfl) (List.Perm.refl _) (fun ⟨⟨r30, rs31⟩, hp34⟩ => (bx b24 [iv rshiftDone.1, .slice (va r19.q) rshiftDone.2.1.length r19.k, iv rshiftDone.2.2.1, iv rshiftDone.2.2.2.1, bv rshiftDone.2.2.2.2.1, iv rshiftDone.2.2.2.2.2.1, sv rshiftDone.2.2.2.2.2.2.1] 53 :: bx b2 (cShf s) 55 :: bx b1 [iv fC, .slice fQ fR.length fK, iv fU.row, iv fU.col, bv fV, iv fS, sv fT] 53 :: (vo cSlc 67 r30 rs31) ++ ([]))) (fun ⟨⟨r30, rs31⟩, hp34⟩ => permC [vo cSlc 67 r30 rs31, [bx b24 [iv rshiftDone.1, .slice (va r19.q) rshiftDone.2.1.length r19.k, iv rshiftDone.2.2.1, iv rshiftDone.2.2.2.1, bv rshiftDone.2.2.2.2.1, iv rshiftDone.2.2.2.2.2.1, sv rshiftDone.2.2.2.2.2.2.1] 53], [bx b2 (cShf s) 55], [bx b1 [iv fC, .slice fQ fR.length fK, iv fU.row, iv fU.col, bv fV, iv fS, sv fT] 53]] [1, 2, 3, 0] 4 rfl (by decide) (by first | rfl | simp only [List.flatten_cons, List.flatten_nil, List.append_nil, List.cons_append, List.nil_append, List.append_assoc]) [[bx b24 [iv rshiftDone.1, .slice (va r19.q) rshiftDone.2.1.length r19.k, iv rshiftDone.2.2.1, iv rshiftDone.2.2.2.1, bv rshiftDone.2.2.2.2.1, iv rshiftDone.2.2.2.2.2.1, sv rshiftDone.2.2.2.2.2.2.1] 53], [bx b2 (cShf s) 55], [bx b1 [iv fC, .slice fQ fR.length fK, iv fU.row, iv fU.col, bv fV, iv fS, sv fT] 53], vo cSlc 67 r30 rs31] rfl (by first | rfl | simp only [List.flatten_cons, List.flatten_nil, List.append_nil, List.cons_append, List.nil_append, List.append_assoc]))) (fun ⟨⟨r30, rs31⟩, hp34⟩ => (mc [[bx b24 [iv rshiftDone.1, .slice (va r19.q) rshiftDone.2.1.length r19.k, iv rshiftDone.2.2.1, iv rshiftDone.2.2.2.1, bv rshiftDone.2.2.2.2.1, iv rshiftDone.2.2.2.2.2.1, sv rshiftDone.2.2.2.2.2.2.1] 53], [bx b2 (cShf s) 55], [bx b1 [iv fC, .slice fQ fR.length fK, iv fU.row, iv fU.col, bv fV, iv fS, sv fT] 53], vo cSlc 67 r30 rs31] [true, true, true, false] rfl (by first | rfl | (simp only [List.length_set] <;> rfl)))) (fun ⟨⟨r30, rs31⟩, hp34⟩ => (Foll.pick [1, 2, 3, 4, 5, 6, 7] rfl)) fun ⟨⟨r30, rs31⟩, hp34⟩ => ?_
       try dsimp only at hp34
       obtain ⟨hk32, hw33⟩ := hp34
       have := VOk.le hk32
       have := VOk.cap hk32
       have := hw33.1
       have := VOk.cap hk32
       have := VOk.le hk32
       refine JH_seal [bx b24 [iv rshiftDone.1, .slice (va r19.q) rshiftDone.2.1.length r19.k, iv rshiftDone.2.2.1, iv rshiftDone.2.2.2.1, bv rshiftDone.2.2.2.2.1, iv rshiftDone.2.2.2.2.2.1, sv rshiftDone.2.2.2.2.2.2.1] 53, bx b2 (cShf s) 55, bx b1 [iv fC, .slice fQ fR.length fK, iv fU.row, iv fU.col, bv fV, iv fS, sv fT] 53] [] (T := 67) (c := cSlc) (r := r30) (xs := rs31) (VOk.cast hk32 (by rw [hw33.1])) (by first | rfl | simp only [List.cons_append, List.append_assoc, List.nil_append, List.append_nil]) [bx b24 [iv rshiftDone.1, .slice (va r19.q) rshiftDone.2.1.length r19.k, iv rshiftDone.2.2.1, iv rshiftDone.2.2.2.1, bv rshiftDone.2.2.2.2.1, iv rshiftDone.2.2.2.2.2.1, sv rshiftDone.2.2.2.2.2.2.1] 53, bx b2 (cShf s) 55, bx b1 [iv fC, .slice fQ fR.length fK, iv fU.row, iv fU.col, bv fV, iv fS, sv fT] 53] rfl (mk [true, true, true] rfl) ?_
       refine hone 7 [bx b24 [iv rshiftDone.1, .slice (va r19.q) rshiftDone.2.1.length r19.k, iv rshiftDone.2.2.1, iv rshiftDone.2.2.2.1, bv rshiftDone.2.2.2.2.1, iv rshiftDone.2.2.2.2.2.1, sv rshiftDone.2.2.2.2.2.2.1] 53, bx b2 (cShf s) 55, bx b1 [iv fC, .slice fQ fR.length fK, iv fU.row, iv fU.col, bv fV, iv fS, sv fT] 53] #[true, true, true, true, true, true, true, true, false, false] rfl rfl rfl (by kernel_rfl) (by kernel_rfl) (by kernel_rfl) (Det.tri (det_call (ref23_Same_c rshiftDone.1 rshiftDone.2.1 (⟨rshiftDone.2.2.1, rshiftDone.2.2.2.1⟩ : Plc) rshiftDone.2.2.2.2.1 rshiftDone.2.2.2.2.2.1 rshiftDone.2.2.2.2.2.2.1 rref28Done.1 rref28Done.2.1 (⟨rref28Done.2.2.1, rref28Done.2.2.2.1⟩ : Plc) rref28Done.2.2.2.2.1 rref28Done.2.2.2.2.2.1 rref28Done.2.2.2.2.2.2 (va r19.q) rs20 r19.k (va r30.q) rs31 r30.k hw22 (by first | omega | (simp <;> omega) | (dsimp only; omega) | decide) (by first | omega | (simp <;> omega) | (dsimp only; omega) | decide) hw33 (by first | omega | (simp <;> omega) | (dsimp only; omega) | decide) (by first | omega | (simp <;> omega) | (dsimp only; omega) | decide) _ rfl) rfl rfl rfl rfl rfl (Foll.pick [2, 3, 0, 1] rfl))) (fun _ => (mk [true, true, true] rfl)) (fun _ => (Foll.pick [2, 3, 4, 5, 6, 7, 8] rfl)) fun _ => ?_
       refine hpur [8, 9] 0 #[true, true, true, true, true, true, true, true, true, true] [(6, bv (ref23_Same rshiftDone.1 rshiftDone.2.1 (⟨rshiftDone.2.2.1, rshiftDone.2.2.2.1⟩ : Plc) rshiftDone.2.2.2.2.1 rshiftDone.2.2.2.2.2.1 rshiftDone.2.2.2.2.2.2.1 rref28Done.1 rref28Done.2.1 (⟨rref28Done.2.2.1, rref28Done.2.2.2.1⟩ : Plc) rref28Done.2.2.2.2.1 rref28Done.2.2.2.2.2.1 rref28Done.2.2.2.2.2.2))] (by kernel_rfl) ?_
       refine hend (by kernel_rfl) ?_
       refine J_ret ?_
       subst hR
       exact ends_ret rfl ⟨hr, hD⟩ (by simp [hD]) (res1 rfl (resV_tmp rfl)) () (by rfl) (mk [false, false, false] rfl) Foll.nil
      ·have g29p : ¬ (rshiftDone.2.2.2.2.2.2.2 = 0) := by simpa using g29
       replace hR := bf hR g29
       refine hpur [3, 4, 5, 6, 7, 8, 9] 0 #[true, true, true, true, true, true, true, true, true, true] [(6, bv false)] (by kernel_rfl) ?_
       refine hend (by kernel_rfl) ?_
       refine J_ret ?_
       subst hR
       exact ends_ret rfl ⟨hr, hD⟩ (by simp [hD]) (res1 rfl (resV_tmp rfl)) () (by rfl) (mk [false, false, false] rfl) Foll.nil

end Go.Proofs.YtinkdfnpmoljfaaGreatDoor

