import Derived.Test.YtinkdfnpmoljfaaGreatDoorD2
import Derived.Test.YtinkdfnpmoljfaaGreatDoorFenX
import Derived.Test.YtinkdfnpmoljfaaGreatDoorProg
import Derived.Test.YtinkdfnpmoljfaaGreatDoorT4a
import Derived.Test.YtinkdfnpmoljfaaGreatDoorT4b
import Derived.Test.YtinkdfnpmoljfaaGreatDoorT5
import Derived.Test.YtinkdfnpmoljfaaGreatDoorT6
import Derived.Test.YtinkdfnpmoljfaaGreatDoorT7
import Derived.Test.YtinkdfnpmoljfaaGreatDoorT8
import Derived.Test.YtinkdfnpmoljfaaGreatDoorT9
import Derived.Test.YtinkdfnpmoljfaaGreatDoorT10
import Derived.Test.YtinkdfnpmoljfaaGreatDoorT11
import Derived.Test.YtinkdfnpmoljfaaGreatDoorT12
import Derived.Test.YtinkdfnpmoljfaaGreatDoorT13
set_option linter.unusedVariables false
set_option linter.unusedSimpArgs false
set_option linter.unnecessarySimpa false
set_option maxRecDepth 100000
namespace Go.Proofs.YtinkdfnpmoljfaaGreatDoor
open Go Go.Fen

def law28_ShiftGains_j1 (aC : Int) (aR : List (List Cel)) (aU : Plc) (aV : Bool) (aS : Int) (aT : List UInt8) (bC : Int) (bR : List (List Cel)) (bU : Plc) (bV : Bool) (bS : Int) (bT : List UInt8) (y0 : Shf × Int × Int) : Bool :=
 (bif (decide ((9 : Int) < (aR.length : Int))) then (((decide (y0.2.2 = 0)) && (decide ((0 : Int) < y0.2.1))) || ((decide (y0.2.2 = 4)) && (decide (y0.2.1 = 0)))) else (bindV (ref28_Best aC aR aU aV aS aT bC bR bU bV bS bT) fun (y2 : Shf × Int) => (bif (decide (y2.2 = 0)) then (((decide (y0.1 = Shf.zero)) && (decide (y0.2.1 = 0))) && (decide (y0.2.2 = 4))) else (((decide (y0.1 = y2.1)) && (decide (y0.2.1 = y2.2))) && (decide (y0.2.2 = 0))))))
def law28_ShiftGains_j0 (aC : Int) (aR : List (List Cel)) (aU : Plc) (aV : Bool) (aS : Int) (aT : List UInt8) (bC : Int) (bR : List (List Cel)) (bU : Plc) (bV : Bool) (bS : Int) (bT : List UInt8) (s : Shf) (y1 : Int × Int) (y0 : Shf × Int × Int) (want : Nat) : Bool :=
 (bif (!decide ((want : Int) = 0)) then (((((decide (y1.1 = 0)) && (decide (y1.2 = (want : Int)))) && (decide (y0.1 = Shf.zero))) && (decide (y0.2.1 = 0))) && (decide (y0.2.2 = (want : Int)))) else (bif (!(ref28_Is s (aR.length : Int))) then (bif ((!decide (y1.1 = 0)) || (!decide (y1.2 = 2))) then false else law28_ShiftGains_j1 aC aR aU aV aS aT bC bR bU bV bS bT y0) else (bif ((!decide (y1.2 = 0)) || (!decide (y1.1 = (ref28_Gain aC aR aU aV aS aT bC bR bU bV bS bT s)))) then false else law28_ShiftGains_j1 aC aR aU aV aS aT bC bR bU bV bS bT y0)))
def law28_ShiftGains (aC : Int) (aR : List (List Cel)) (aU : Plc) (aV : Bool) (aS : Int) (aT : List UInt8) (bC : Int) (bR : List (List Cel)) (bU : Plc) (bV : Bool) (bS : Int) (bT : List UInt8) (s : Shf) : Bool :=
 (bif (!law28_wakes) then false else (bindV (shift_Gain aC aR aU aV aS aT bC bR bU bV bS bT s) fun (y1 : Int × Int) => (bindV (shift_Best aC aR aU aV aS aT bC bR bU bV bS bT) fun (y0 : Shf × Int × Int) => (bif ((!(ref23_Right aC aR aU aV aS aT)) || (!(ref23_Right bC bR bU bV bS bT))) then law28_ShiftGains_j0 aC aR aU aV aS aT bC bR bU bV bS bT s y1 y0 330 else (bif (!(ref24_Sizes aC aR aU aV aS aT bC bR bU bV bS bT)) then law28_ShiftGains_j0 aC aR aU aV aS aT bC bR bU bV bS bT s y1 y0 2 else law28_ShiftGains_j0 aC aR aU aV aS aT bC bR bU bV bS bT s y1 y0 0)))))

theorem law28_ShiftGains_c (aC : Int) (aR : List (List Cel)) (aU : Plc) (aV : Bool) (aS : Int) (aT : List UInt8) (bC : Int) (bR : List (List Cel)) (bU : Plc) (bV : Bool) (bS : Int) (bT : List UInt8) (s : Shf) (aQ : Option Addr) (aZ : List Slc) (aK : Nat) (bQ : Option Addr) (bZ : List Slc) (bK : Nat) (hrowsaRowsrs : RowsOk aZ aR) (hlaRows : aR.length ≤ 9223372036854775807) (hcaRows : aR.length ≤ aK) (hrowsbRowsrs : RowsOk bZ bR) (hlbRows : bR.length ≤ 9223372036854775807) (hcbRows : bR.length ≤ bK) (hT : aT.length ≤ 100000000) (hT2 : bT.length ≤ 100000000) (R : Bool) (hR : law28_ShiftGains aC aR aU aV aS aT bC bR bU bV bS bT s = R) : ConV Tryz.prog 9 [ag [iv aC, .slice aQ aR.length aK, iv aU.row, iv aU.col, bv aV, iv aS, sv aT], ag [iv bC, .slice bQ bR.length bK, iv bU.row, iv bU.col, bv bV, iv bS, sv bT], ag (cShf s)] [sl cSlc aQ aZ, rowsF cCel aZ aR, sl cSlc bQ bZ, rowsF cCel bZ bR, sl cSpn (some ⟨0, 0, none⟩) tab0, sl cSpn (some ⟨1, 0, none⟩) tab1] (bv R) := by
 refine con_of_J (n := 139) Tryz.func9 rfl (by kernel_rfl) rfl rfl [(0, ag [iv aC, .slice aQ aR.length aK, iv aU.row, iv aU.col, bv aV, iv aS, sv aT]), (1, ag [iv bC, .slice bQ bR.length bK, iv bU.row, iv bU.col, bv bV, iv bS, sv bT]), (2, ag (cShf s))] ⟨rfl, rfl, rfl, trivial⟩ fun X hX hr hD => ?_
 replace hR := (law28_ShiftGains.eq_1 ..).symm.trans hR
 have := hrowsaRowsrs.1
 have := hrowsbRowsrs.1
 refine sr 4 rfl ?_
 refine it rfl (tri_box (cs := [iv aC, .slice aQ aR.length aK, iv aU.row, iv aU.col, bv aV, iv aS, sv aT]) rfl rfl rfl) fun b1 => ?_
 refine it rfl (tri_box (cs := [iv bC, .slice bQ bR.length bK, iv bU.row, iv bU.col, bv bV, iv bS, sv bT]) rfl rfl rfl) fun b2 => ?_
 refine it rfl (tri_box (cs := cShf s) rfl rfl rfl) fun b3 => ?_
 refine ip 1 0 [] (by kernel_rfl) ?_
 refine ie ?_
 refine J_seq ?_
 refine sr 2 rfl ?_
 refine ixc rfl (det_call (law28_wakes_c _ rfl) rfl rfl rfl rfl rfl (Foll.pick [4, 5] rfl)) ?_
 refine ip 1 0 [(16, bv (!law28_wakes))] (by kernel_rfl) ?_
 refine ie ?_
 refine J_if rfl (fun h4 => ?_) (fun h4 => ?_)
 ·replace hR := bt hR h4
  refine sr 1 rfl ?_
  refine ip 1 0 [(6, bv false)] (by kernel_rfl) ?_
  refine ie ?_
  refine J_ret ?_
  subst hR
  exact ends_ret rfl ⟨hr, hD⟩ (by simp [hD]) (res1 rfl (resV_tmp rfl)) () (by rfl) (mk [false, false, false] rfl) Foll.nil
 ·replace hR := bf hR h4
  try (have hq2 := h4; simp only [Bool.not_eq_false'] at hq2; with_reducible have hki := ref28_Is_ok hq2)
  try (have hq := h4; simp only [Bool.or_eq_false_iff, Bool.not_eq_false'] at hq; with_reducible have hka := ref23_Right_ok hq.1)
  try (have hqs : aC = bC ∧ aR.length = bR.length := (by have q := h4; simp [ref24_Sizes] at q; omega))
  try (have hw1 := hw (by omega))
  refine J_skip ?_
  refine nx ?_
  refine sr 9 rfl ?_
  refine ix rfl (det_own_agg (us := [iv aC, .slice aQ aR.length aK, iv aU.row, iv aU.col, bv aV, iv aS, sv aT]) ty53 rfl rfl 2 rfl rfl rfl) ?_
  refine ix rfl (det_own_agg (us := [iv bC, .slice bQ bR.length bK, iv bU.row, iv bU.col, bv bV, iv bS, sv bT]) ty53 rfl rfl 1 rfl rfl rfl) ?_
  refine ix rfl (det_own_agg (us := cShf s) ty55 rfl rfl 0 rfl rfl rfl) ?_
  have hQ := bindVx hR; clear hR; obtain ⟨y1, hy1, hR⟩ := hQ
  refine ixc rfl (det_call (shift_Gain_c aC aR aU aV aS aT bC bR bU bV bS bT s aQ aZ aK bQ bZ bK hrowsaRowsrs (by first | omega | (simp <;> omega) | (dsimp only; omega) | decide) (by first | omega | (simp <;> omega) | (dsimp only; omega) | decide) hrowsbRowsrs (by first | omega | (simp <;> omega) | (dsimp only; omega) | decide) (by first | omega | (simp <;> omega) | (dsimp only; omega) | decide) (by first | omega | (simp <;> omega)) (by first | omega | (simp <;> omega)) y1 hy1) rfl rfl rfl rfl rfl Foll.refl) ?_
  refine ip 5 0 [(7, iv y1.1), (8, iv y1.2)] (by kernel_rfl) ?_
  refine ie ?_
  refine sr 11 rfl ?_
  refine ix rfl (det_own_agg (us := [iv aC, .slice aQ aR.length aK, iv aU.row, iv aU.col, bv aV, iv aS, sv aT]) ty53 rfl rfl 2 rfl rfl rfl) ?_
  refine ix rfl (det_own_agg (us := [iv bC, .slice bQ bR.length bK, iv bU.row, iv bU.col, bv bV, iv bS, sv bT]) ty53 rfl rfl 1 rfl rfl rfl) ?_
  have hQ := bindVx hR; clear hR; obtain ⟨y0, hy0, hR⟩ := hQ
  refine ixc rfl (det_call (shift_Best_c aC aR aU aV aS aT bC bR bU bV bS bT aQ aZ aK bQ bZ bK hrowsaRowsrs (by first | omega | (simp <;> omega) | (dsimp only; omega) | decide) (by first | omega | (simp <;> omega) | (dsimp only; omega) | decide) hrowsbRowsrs (by first | omega | (simp <;> omega) | (dsimp only; omega) | decide) (by first | omega | (simp <;> omega) | (dsimp only; omega) | decide) (by first | omega | (simp <;> omega)) (by first | omega | (simp <;> omega)) y0 hy0) rfl rfl rfl rfl rfl Foll.refl) ?_
  refine ip 4 4 [(28, ag (cShf y0.1)), (29, iv y0.2.1), (30, iv y0.2.2)] (by kernel_rfl) ?_
  refine it rfl (tri_alloc (cs := cShf Shf.zero) zero55 rfl) fun b5 => ?_
  refine it rfl (tri_store (us := cShf y0.1) (cs' := cShf y0.1) ty55 rfl rfl rfl 0 rfl rfl rfl rfl rfl rfl) fun _ => ?_
  refine ip 2 0 [(10, iv y0.2.1), (11, iv y0.2.2)] (by kernel_rfl) ?_
  refine ie ?_
  refine sr 1 rfl ?_
  refine ip 1 0 [(12, iv 0)] (by kernel_rfl) ?_
  refine ie ?_
  refine JS1 (fun (want : Nat) => law28_ShiftGains_j0 aC aR aU aV aS aT bC bR bU bV bS bT s y1 y0 want = R ∧ (want = 0 → 2 ≤ aC ∧ aC ≤ 80 ∧ aR.length ≤ 40 ∧ aR.length = bR.length)) (fun (want : Nat) => [(3, pt b1 0), (4, pt b2 0), (5, pt b3 0), (7, iv y1.1), (8, iv y1.2), (9, pt b5 0), (10, iv y0.2.1), (11, iv y0.2.2), (12, iv (want : Int))]) (fun (want : Nat) => [bx b5 (cShf y0.1) 55, bx b3 (cShf s) 55, bx b2 [iv bC, .slice bQ bR.length bK, iv bU.row, iv bU.col, bv bV, iv bS, sv bT] 53, bx b1 [iv aC, .slice aQ aR.length aK, iv aU.row, iv aU.col, bv aV, iv aS, sv aT] 53]) (fun (want : Nat) => [sl cSlc aQ aZ, rowsF cCel aZ aR, sl cSlc bQ bZ, rowsF cCel bZ bR, sl cSpn (some ⟨0, 0, none⟩) tab0, sl cSpn (some ⟨1, 0, none⟩) tab1]) ?_ ?_
  ·refine J_block ?_
   refine sr 9 rfl ?_
   refine ix rfl (det_own_agg (us := [iv aC, .slice aQ aR.length aK, iv aU.row, iv aU.col, bv aV, iv aS, sv aT]) ty53 rfl rfl 3 rfl rfl rfl) ?_
   refine ixc rfl (det_call (ref23_Right_c aC aR aU aV aS aT aQ aZ aK hrowsaRowsrs (by first | omega | (simp <;> omega) | (dsimp only; omega) | decide) (by first | omega | (simp <;> omega) | (dsimp only; omega) | decide) _ rfl) rfl rfl rfl rfl rfl (Foll.pick [0, 1] rfl)) ?_
   refine ip 2 5 [(35, bv (!(ref23_Right aC aR aU aV aS aT)))] (by kernel_rfl) ?_
   refine ior 4 1 35 39 (!(ref23_Right bC bR bU bV bS bT)) rfl (by kernel_rfl) (fun g6 => ?_) ?_
   ·refine ix rfl (det_own_agg (us := [iv bC, .slice bQ bR.length bK, iv bU.row, iv bU.col, bv bV, iv bS, sv bT]) ty53 rfl rfl 2 rfl rfl rfl) ?_
    refine ixc rfl (det_call (ref23_Right_c bC bR bU bV bS bT bQ bZ bK hrowsbRowsrs (by first | omega | (simp <;> omega) | (dsimp only; omega) | decide) (by first | omega | (simp <;> omega) | (dsimp only; omega) | decide) _ rfl) rfl rfl rfl rfl rfl (Foll.pick [2, 3] rfl)) ?_
    refine ip 2 0 [(39, bv (!(ref23_Right bC bR bU bV bS bT)))] (by kernel_rfl) ?_
    exact JI_end (armI 4 35 39 g6 Foll.refl (mk [true, true, true, true] rfl) rfl rfl rfl rfl rfl)
   refine ip 1 0 [(31, bv ((!(ref23_Right aC aR aU aV aS aT)) || (!(ref23_Right bC bR bU bV bS bT))))] (by kernel_rfl) ?_
   refine ie ?_
   refine J_if rfl (fun h7 => ?_) (fun h7 => ?_)
   ·have h7p := h7; try simp at h7p
    replace hR := bt hR h7
    refine J_region 1 rfl ?_
    refine ip 1 0 [(12, iv 330)] (by kernel_rfl) ?_
    refine JI_end ?_
    exact meet1 330 ⟨hR, (by (intro hw0; omega))⟩ ⟨rfl, rfl, rfl, rfl, rfl, rfl, rfl, rfl, (by first | rfl | (simp only [List.length_set]; rfl) | (simp; done) | (simp; omega)), trivial⟩ (mk [true, true, true, true] rfl) Foll.refl
   ·have h7p := h7; try simp at h7p
    replace hR := bf hR h7
    try (have hq2 := h7; simp only [Bool.not_eq_false'] at hq2; with_reducible have hki := ref28_Is_ok hq2)
    try (have hq := h7; simp only [Bool.or_eq_false_iff, Bool.not_eq_false'] at hq; with_reducible have hka := ref23_Right_ok hq.1)
    try (have hqs : aC = bC ∧ aR.length = bR.length := (by have q := h7; simp [ref24_Sizes] at q; omega))
    try (have hw1 := hw (by omega))
    refine sr 5 rfl ?_
    refine ix rfl (det_own_agg (us := [iv aC, .slice aQ aR.length aK, iv aU.row, iv aU.col, bv aV, iv aS, sv aT]) ty53 rfl rfl 3 rfl rfl rfl) ?_
    refine ix rfl (det_own_agg (us := [iv bC, .slice bQ bR.length bK, iv bU.row, iv bU.col, bv bV, iv bS, sv bT]) ty53 rfl rfl 2 rfl rfl rfl) ?_
    refine ixc rfl (det_call (ref24_Sizes_c aC aR aU aV aS aT bC bR bU bV bS bT aQ aZ aK bQ bZ bK hrowsaRowsrs (by first | omega | (simp <;> omega) | (dsimp only; omega) | decide) (by first | omega | (simp <;> omega) | (dsimp only; omega) | decide) hrowsbRowsrs (by first | omega | (simp <;> omega) | (dsimp only; omega) | decide) (by first | omega | (simp <;> omega) | (dsimp only; omega) | decide) _ rfl) rfl rfl rfl rfl rfl (Foll.pick [0, 1, 2, 3] rfl)) ?_
    refine ip 2 0 [(40, bv (!(ref24_Sizes aC aR aU aV aS aT bC bR bU bV bS bT)))] (by kernel_rfl) ?_
    refine ie ?_
    refine J_if rfl (fun h8 => ?_) (fun h8 => ?_)
    ·replace hR := bt hR h8
     refine J_region 1 rfl ?_
     refine ip 1 0 [(12, iv 2)] (by kernel_rfl) ?_
     refine JI_end ?_
     exact meet1 2 ⟨hR, (by (intro hw0; omega))⟩ ⟨rfl, rfl, rfl, rfl, rfl, rfl, rfl, rfl, (by first | rfl | (simp only [List.length_set]; rfl) | (simp; done) | (simp; omega)), trivial⟩ (mk [true, true, true, true] rfl) Foll.refl
    ·replace hR := bf hR h8
     try (have hq2 := h8; simp only [Bool.not_eq_false'] at hq2; with_reducible have hki := ref28_Is_ok hq2)
     try (have hq := h8; simp only [Bool.or_eq_false_iff, Bool.not_eq_false'] at hq; with_reducible have hka := ref23_Right_ok hq.1)
     try (have hqs : aC = bC ∧ aR.length = bR.length := (by have q := h8; simp [ref24_Sizes] at q; omega))
     try (have hw1 := hw (by omega))
     refine J_skip ?_
     exact meet1 0 ⟨hR, (by (intro hw0; omega))⟩ ⟨rfl, rfl, rfl, rfl, rfl, rfl, rfl, rfl, (by first | rfl | (simp only [List.length_set]; rfl) | (simp; done) | (simp; omega)), trivial⟩ (mk [true, true, true, true] rfl) Foll.refl
  ·intro want
   rintro ⟨hR, hw⟩
   replace hR := (law28_ShiftGains_j0.eq_1 ..).symm.trans hR
   refine J_seq ?_
   refine sr 2 rfl ?_
   refine ip 2 0 [(46, bv (!decide ((want : Int) = 0)))] (by kernel_rfl) ?_
   refine ie ?_
   refine J_if rfl (fun h9 => ?_) (fun h9 => ?_)
   ·have h9p : ¬ (want : Int) = 0 := by simpa using h9
    replace hR := bt hR h9
    refine sr 22 rfl ?_
    refine ip 3 19 [(49, bv (decide (y1.1 = 0)))] (by kernel_rfl) ?_
    refine iand 4 15 49 53 (decide (y1.2 = (want : Int))) rfl (by kernel_rfl) (fun g10 => ?_) ?_
    ·have g10p : y1.1 = 0 := by simpa using g10
     refine ip 4 0 [(53, bv (decide (y1.2 = (want : Int))))] (by kernel_rfl) ?_
     exact JI_end (armI 2 49 53 g10 Foll.refl (mk [true, true, true, true] rfl) rfl rfl rfl rfl rfl)
    refine ip 1 14 [(54, bv ((decide (y1.1 = 0)) && (decide (y1.2 = (want : Int)))))] (by kernel_rfl) ?_
    refine iand 4 10 54 58 (decide (y0.1 = Shf.zero)) rfl (by kernel_rfl) (fun g11 => ?_) ?_
    ·have g11p : (y1.1 = 0) ∧ (y1.2 = (want : Int)) := by simpa using g11
     refine ix rfl (det_own_agg (us := cShf y0.1) ty55 rfl rfl 0 rfl rfl rfl) ?_
     refine ix rfl (det_build (cs := cShf Shf.zero) rfl rfl (by kernel_rfl)) ?_
     refine ix rfl (det_eqs (a := y0.1) (b := Shf.zero) eqt55 rfl rfl rfl) ?_
     refine ip 1 0 [(58, bv (decide (y0.1 = Shf.zero)))] (by kernel_rfl) ?_
     exact JI_end (armI 5 54 58 g11 Foll.refl (mk [true, true, true, true] rfl) rfl rfl rfl rfl rfl)
    refine ip 1 9 [(59, bv (((decide (y1.1 = 0)) && (decide (y1.2 = (want : Int)))) && (decide (y0.1 = Shf.zero))))] (by kernel_rfl) ?_
    refine iand 3 6 59 62 (decide (y0.2.1 = 0)) rfl (by kernel_rfl) (fun g12 => ?_) ?_
    ·have g12p : ((y1.1 = 0) ∧ (y1.2 = (want : Int))) ∧ (y0.1 = Shf.zero) := by simpa using g12
     refine ip 3 0 [(62, bv (decide (y0.2.1 = 0)))] (by kernel_rfl) ?_
     exact JI_end (armI 2 59 62 g12 Foll.refl (mk [true, true, true, true] rfl) rfl rfl rfl rfl rfl)
    refine ip 1 5 [(63, bv ((((decide (y1.1 = 0)) && (decide (y1.2 = (want : Int)))) && (decide (y0.1 = Shf.zero))) && (decide (y0.2.1 = 0))))] (by kernel_rfl) ?_
    refine iand 4 1 63 67 (decide (y0.2.2 = (want : Int))) rfl (by kernel_rfl) (fun g13 => ?_) ?_
    ·have g13p : (((y1.1 = 0) ∧ (y1.2 = (want : Int))) ∧ (y0.1 = Shf.zero)) ∧ (y0.2.1 = 0) := by simpa using g13
     refine ip 4 0 [(67, bv (decide (y0.2.2 = (want : Int))))] (by kernel_rfl) ?_
     exact JI_end (armI 2 63 67 g13 Foll.refl (mk [true, true, true, true] rfl) rfl rfl rfl rfl rfl)
    refine ip 1 0 [(6, bv (((((decide (y1.1 = 0)) && (decide (y1.2 = (want : Int)))) && (decide (y0.1 = Shf.zero))) && (decide (y0.2.1 = 0))) && (decide (y0.2.2 = (want : Int)))))] (by kernel_rfl) ?_
    refine ie ?_
    refine J_ret ?_
    subst hR
    exact ends_ret rfl ⟨hr, hD⟩ (by simp [hD]) (res1 rfl (resV_tmp rfl)) () (by rfl) (mk [false, false, false, false] rfl) Foll.nil
   ·have h9p : ¬ (¬ (want : Int) = 0) := by simpa using h9
    replace hR := bf hR h9
    try (have hq2 := h9; simp only [Bool.not_eq_false'] at hq2; with_reducible have hki := ref28_Is_ok hq2)
    try (have hq := h9; simp only [Bool.or_eq_false_iff, Bool.not_eq_false'] at hq; with_reducible have hka := ref23_Right_ok hq.1)
    try (have hqs : aC = bC ∧ aR.length = bR.length := (by have q := h9; simp [ref24_Sizes] at q; omega))
    try (have hw1 := hw (by omega))
    refine J_skip ?_
    refine nx ?_
    refine JS1 (fun (_ : Unit) => law28_ShiftGains_j1 aC aR aU aV aS aT bC bR bU bV bS bT y0 = R) (fun (_ : Unit) => [(3, pt b1 0), (4, pt b2 0), (9, pt b5 0), (10, iv y0.2.1), (11, iv y0.2.2)]) (fun (_ : Unit) => [bx b5 (cShf y0.1) 55, bx b3 (cShf s) 55, bx b2 [iv bC, .slice bQ bR.length bK, iv bU.row, iv bU.col, bv bV, iv bS, sv bT] 53, bx b1 [iv aC, .slice aQ aR.length aK, iv aU.row, iv aU.col, bv aV, iv aS, sv aT] 53]) (fun (_ : Unit) => [sl cSlc aQ aZ, rowsF cCel aZ aR, sl cSlc bQ bZ, rowsF cCel bZ bR, sl cSpn (some ⟨0, 0, none⟩) tab0, sl cSpn (some ⟨1, 0, none⟩) tab1]) ?_ ?_
    ·refine sr 6 rfl ?_
     refine ix rfl (det_own_agg (us := cShf s) ty55 rfl rfl 1 rfl rfl rfl) ?_
     refine ip 1 4 [(69, pt b1 1)] (by kernel_rfl) ?_
     refine ix rfl (det_own_one (v := .slice aQ aR.length aK) ty49 rfl rfl 3 rfl rfl) ?_
     refine ip 1 2 [(71, iv (aR.length : Int))] (by kernel_rfl) ?_
     refine ixc rfl (det_call (ref28_Is_c s (aR.length : Int) _ rfl) rfl rfl rfl rfl rfl Foll.nil) ?_
     refine ip 1 0 [(73, bv (!(ref28_Is s (aR.length : Int))))] (by kernel_rfl) ?_
     refine ie ?_
     refine J_if rfl (fun h14 => ?_) (fun h14 => ?_)
     ·replace hR := bt hR h14
      refine sr 6 rfl ?_
      refine ip 3 3 [(76, bv (!decide (y1.1 = 0)))] (by kernel_rfl) ?_
      refine ior 3 0 76 79 (!decide (y1.2 = 2)) rfl (by kernel_rfl) (fun g15 => ?_) ?_
      ·have g15p : ¬ (¬ y1.1 = 0) := by simpa using g15
       refine ip 3 0 [(79, bv (!decide (y1.2 = 2)))] (by kernel_rfl) ?_
       exact JI_end (armI 2 76 79 g15 Foll.refl (mk [true, true, true, true] rfl) rfl rfl rfl rfl rfl)
      refine ie ?_
      refine J_if rfl (fun h16 => ?_) (fun h16 => ?_)
      ·have h16p : (¬ y1.1 = 0) ∨ (¬ y1.2 = 2) := by simpa using h16
       replace hR := bt hR h16
       refine sr 1 rfl ?_
       refine ip 1 0 [(6, bv false)] (by kernel_rfl) ?_
       refine ie ?_
       refine J_ret ?_
       subst hR
       exact ends_ret rfl ⟨hr, hD⟩ (by simp [hD]) (res1 rfl (resV_tmp rfl)) () (by rfl) (mk [false, false, false, false] rfl) Foll.nil
      ·have h16p : ¬ ((¬ y1.1 = 0) ∨ (¬ y1.2 = 2)) := by simpa using h16
       replace hR := bf hR h16
       try (have hq2 := h16; simp only [Bool.not_eq_false'] at hq2; with_reducible have hki := ref28_Is_ok hq2)
       try (have hq := h16; simp only [Bool.or_eq_false_iff, Bool.not_eq_false'] at hq; with_reducible have hka := ref23_Right_ok hq.1)
       try (have hqs : aC = bC ∧ aR.length = bR.length := (by have q := h16; simp [ref24_Sizes] at q; omega))
       try (have hw1 := hw (by omega))
       refine J_skip ?_
       exact meet1 () hR ⟨rfl, rfl, rfl, rfl, rfl, trivial⟩ (mk [true, true, true, true] rfl) Foll.refl
     ·replace hR := bf hR h14
      try (have hq2 := h14; simp only [Bool.not_eq_false'] at hq2; with_reducible have hki := ref28_Is_ok hq2)
      try (have hq := h14; simp only [Bool.or_eq_false_iff, Bool.not_eq_false'] at hq; with_reducible have hka := ref23_Right_ok hq.1)
      try (have hqs : aC = bC ∧ aR.length = bR.length := (by have q := h14; simp [ref24_Sizes] at q; omega))
      try (have hw1 := hw (by omega))
      refine sr 10 rfl ?_
      refine ip 3 7 [(82, bv (!decide (y1.2 = 0)))] (by kernel_rfl) ?_
      refine ior 7 0 82 89 (!decide (y1.1 = (ref28_Gain aC aR aU aV aS aT bC bR bU bV bS bT s))) rfl (by kernel_rfl) (fun g17 => ?_) ?_
      ·have g17p : ¬ (¬ y1.2 = 0) := by simpa using g17
       refine ip 1 6 [(83, iv y1.1)] (by kernel_rfl) ?_
       refine ix rfl (det_own_agg (us := [iv aC, .slice aQ aR.length aK, iv aU.row, iv aU.col, bv aV, iv aS, sv aT]) ty53 rfl rfl 3 rfl rfl rfl) ?_
       refine ix rfl (det_own_agg (us := [iv bC, .slice bQ bR.length bK, iv bU.row, iv bU.col, bv bV, iv bS, sv bT]) ty53 rfl rfl 2 rfl rfl rfl) ?_
       refine ix rfl (det_own_agg (us := cShf s) ty55 rfl rfl 1 rfl rfl rfl) ?_
       refine ixc rfl (det_call (ref28_Gain_c aC aR aU aV aS aT bC bR bU bV bS bT s aQ aZ aK bQ bZ bK hrowsaRowsrs (by first | omega | (simp <;> omega) | (dsimp only; omega) | decide) (by first | omega | (simp <;> omega) | (dsimp only; omega) | decide) hrowsbRowsrs (by first | omega | (simp <;> omega) | (dsimp only; omega) | decide) (by first | omega | (simp <;> omega) | (dsimp only; omega) | decide) (by first | omega | (dsimp only; omega)) _ rfl) rfl rfl rfl rfl rfl (Foll.pick [0, 1, 2, 3] rfl)) ?_
       refine ip 2 0 [(89, bv (!decide (y1.1 = (ref28_Gain aC aR aU aV aS aT bC bR bU bV bS bT s))))] (by kernel_rfl) ?_
       exact JI_end (armI 7 82 89 g17 Foll.refl (mk [true, true, true, true] rfl) rfl rfl rfl rfl rfl)
      refine ie ?_
      refine J_if rfl (fun h18 => ?_) (fun h18 => ?_)
      ·have h18p : (¬ y1.2 = 0) ∨ (¬ y1.1 = (ref28_Gain aC aR aU aV aS aT bC bR bU bV bS bT s)) := by simpa using h18
       replace hR := bt hR h18
       refine sr 1 rfl ?_
       refine ip 1 0 [(6, bv false)] (by kernel_rfl) ?_
       refine ie ?_
       refine J_ret ?_
       subst hR
       exact ends_ret rfl ⟨hr, hD⟩ (by simp [hD]) (res1 rfl (resV_tmp rfl)) () (by rfl) (mk [false, false, false, false] rfl) Foll.nil
      ·have h18p : ¬ ((¬ y1.2 = 0) ∨ (¬ y1.1 = (ref28_Gain aC aR aU aV aS aT bC bR bU bV bS bT s))) := by simpa using h18
       replace hR := bf hR h18
       try (have hq2 := h18; simp only [Bool.not_eq_false'] at hq2; with_reducible have hki := ref28_Is_ok hq2)
       try (have hq := h18; simp only [Bool.or_eq_false_iff, Bool.not_eq_false'] at hq; with_reducible have hka := ref23_Right_ok hq.1)
       try (have hqs : aC = bC ∧ aR.length = bR.length := (by have q := h18; simp [ref24_Sizes] at q; omega))
       try (have hw1 := hw (by omega))
       refine J_skip ?_
       exact meet1 () hR ⟨rfl, rfl, rfl, rfl, rfl, trivial⟩ (mk [true, true, true, true] rfl) Foll.refl
    ·intro _
     rintro hR
     replace hR := (law28_ShiftGains_j1.eq_1 ..).symm.trans hR
     refine J_seq ?_
     refine sr 4 rfl ?_
     refine ip 1 3 [(90, pt b1 1)] (by kernel_rfl) ?_
     refine ix rfl (det_own_one (v := .slice aQ aR.length aK) ty49 rfl rfl 3 rfl rfl) ?_
     refine ip 2 0 [(93, bv (decide ((9 : Int) < (aR.length : Int))))] (by kernel_rfl) ?_
     refine ie ?_
     refine J_if rfl (fun h19 => ?_) (fun h19 => ?_)
     ·have h19p : (9 : Int) < (aR.length : Int) := by simpa using h19
      replace hR := bt hR h19
      refine sr 15 rfl ?_
      refine ip 3 12 [(96, bv (decide (y0.2.2 = 0)))] (by kernel_rfl) ?_
      refine iand 3 9 96 99 (decide ((0 : Int) < y0.2.1)) rfl (by kernel_rfl) (fun g20 => ?_) ?_
      ·have g20p : y0.2.2 = 0 := by simpa using g20
       refine ip 3 0 [(99, bv (decide ((0 : Int) < y0.2.1)))] (by kernel_rfl) ?_
       exact JI_end (armI 2 96 99 g20 Foll.refl (mk [true, true, true, true] rfl) rfl rfl rfl rfl rfl)
      refine ip 1 8 [(100, bv ((decide (y0.2.2 = 0)) && (decide ((0 : Int) < y0.2.1))))] (by kernel_rfl) ?_
      refine ior 7 1 100 107 ((decide (y0.2.2 = 4)) && (decide (y0.2.1 = 0))) rfl (by kernel_rfl) (fun g21 => ?_) ?_
      ·have g21p : ¬ ((y0.2.2 = 0) ∧ ((0 : Int) < y0.2.1)) := by simpa using g21
       refine ip 3 4 [(103, bv (decide (y0.2.2 = 4)))] (by kernel_rfl) ?_
       refine iand 3 1 103 106 (decide (y0.2.1 = 0)) rfl (by kernel_rfl) (fun g22 => ?_) ?_
       ·have g22p : y0.2.2 = 4 := by simpa using g22
        refine ip 3 0 [(106, bv (decide (y0.2.1 = 0)))] (by kernel_rfl) ?_
        exact JI_end (armI 2 103 106 g22 Foll.refl (mk [true, true, true, true] rfl) rfl rfl rfl rfl rfl)
       refine ip 1 0 [(107, bv ((decide (y0.2.2 = 4)) && (decide (y0.2.1 = 0))))] (by kernel_rfl) ?_
       exact JI_end (armI 4 100 107 g21 Foll.refl (mk [true, true, true, true] rfl) rfl rfl rfl rfl rfl)
      refine ip 1 0 [(6, bv (((decide (y0.2.2 = 0)) && (decide ((0 : Int) < y0.2.1))) || ((decide (y0.2.2 = 4)) && (decide (y0.2.1 = 0)))))] (by kernel_rfl) ?_
      refine ie ?_
      refine J_ret ?_
      subst hR
      exact ends_ret rfl ⟨hr, hD⟩ (by simp [hD]) (res1 rfl (resV_tmp rfl)) () (by rfl) (mk [false, false, false, false] rfl) Foll.nil
     ·have h19p : ¬ ((9 : Int) < (aR.length : Int)) := by simpa using h19
      replace hR := bf hR h19
      try (have hq2 := h19; simp only [Bool.not_eq_false'] at hq2; with_reducible have hki := ref28_Is_ok hq2)
      try (have hq := h19; simp only [Bool.or_eq_false_iff, Bool.not_eq_false'] at hq; with_reducible have hka := ref23_Right_ok hq.1)
      try (have hqs : aC = bC ∧ aR.length = bR.length := (by have q := h19; simp [ref24_Sizes] at q; omega))
      try (have hw1 := hw (by omega))
      refine J_skip ?_
      refine nx ?_
      refine sr 9 rfl ?_
      refine ix rfl (det_own_agg (us := [iv aC, .slice aQ aR.length aK, iv aU.row, iv aU.col, bv aV, iv aS, sv aT]) ty53 rfl rfl 3 rfl rfl rfl) ?_
      refine ix rfl (det_own_agg (us := [iv bC, .slice bQ bR.length bK, iv bU.row, iv bU.col, bv bV, iv bS, sv bT]) ty53 rfl rfl 2 rfl rfl rfl) ?_
      have hQ := bindVx hR; clear hR; obtain ⟨y2, hy2, hR⟩ := hQ
      refine ixc rfl (det_call (ref28_Best_c aC aR aU aV aS aT bC bR bU bV bS bT aQ aZ aK bQ bZ bK hrowsaRowsrs (by first | omega | (simp <;> omega) | (dsimp only; omega) | decide) (by first | omega | (simp <;> omega) | (dsimp only; omega) | decide) hrowsbRowsrs (by first | omega | (simp <;> omega) | (dsimp only; omega) | decide) (by first | omega | (simp <;> omega) | (dsimp only; omega) | decide) (by first | omega | (simp <;> omega)) y2 hy2) rfl rfl rfl rfl rfl (Foll.pick [0, 1, 2, 3] rfl)) ?_
      refine ip 3 3 [(112, ag (cShf y2.1)), (113, iv y2.2)] (by kernel_rfl) ?_
      refine it rfl (tri_alloc (cs := cShf Shf.zero) zero55 rfl) fun b23 => ?_
      refine it rfl (tri_store (us := cShf y2.1) (cs' := cShf y2.1) ty55 rfl rfl rfl 0 rfl rfl rfl rfl rfl rfl) fun _ => ?_
      refine ip 1 0 [(14, iv y2.2)] (by kernel_rfl) ?_
      refine ie ?_
      refine J_seq ?_
      refine sr 2 rfl ?_
      refine ip 2 0 [(115, bv (decide (y2.2 = 0)))] (by kernel_rfl) ?_
      refine ie ?_
      refine J_if rfl (fun h24 => ?_) (fun h24 => ?_)
      ·have h24p : y2.2 = 0 := by simpa using h24
       replace hR := bt hR h24
       refine sr 12 rfl ?_
       refine ix rfl (det_own_agg (us := cShf y0.1) ty55 rfl rfl 1 rfl rfl rfl) ?_
       refine ix rfl (det_build (cs := cShf Shf.zero) rfl rfl (by kernel_rfl)) ?_
       refine ix rfl (det_eqs (a := y0.1) (b := Shf.zero) eqt55 rfl rfl rfl) ?_
       refine ip 1 8 [(119, bv (decide (y0.1 = Shf.zero)))] (by kernel_rfl) ?_
       refine iand 3 5 119 122 (decide (y0.2.1 = 0)) rfl (by kernel_rfl) (fun g25 => ?_) ?_
       ·have g25p : y0.1 = Shf.zero := by simpa using g25
        refine ip 3 0 [(122, bv (decide (y0.2.1 = 0)))] (by kernel_rfl) ?_
        exact JI_end (armI 2 119 122 g25 Foll.refl (mk [true, true, true, true, true] rfl) rfl rfl rfl rfl rfl)
       refine ip 1 4 [(123, bv ((decide (y0.1 = Shf.zero)) && (decide (y0.2.1 = 0))))] (by kernel_rfl) ?_
       refine iand 3 1 123 126 (decide (y0.2.2 = 4)) rfl (by kernel_rfl) (fun g26 => ?_) ?_
       ·have g26p : (y0.1 = Shf.zero) ∧ (y0.2.1 = 0) := by simpa using g26
        refine ip 3 0 [(126, bv (decide (y0.2.2 = 4)))] (by kernel_rfl) ?_
        exact JI_end (armI 2 123 126 g26 Foll.refl (mk [true, true, true, true, true] rfl) rfl rfl rfl rfl rfl)
       refine ip 1 0 [(6, bv (((decide (y0.1 = Shf.zero)) && (decide (y0.2.1 = 0))) && (decide (y0.2.2 = 4))))] (by kernel_rfl) ?_
       refine ie ?_
       refine J_ret ?_
       subst hR
       exact ends_ret rfl ⟨hr, hD⟩ (by simp [hD]) (res1 rfl (resV_tmp rfl)) () (by rfl) (mk [false, false, false, false, false] rfl) Foll.nil
      ·have h24p : ¬ (y2.2 = 0) := by simpa using h24
       replace hR := bf hR h24
       try (have hq2 := h24; simp only [Bool.not_eq_false'] at hq2; with_reducible have hki := ref28_Is_ok hq2)
       try (have hq := h24; simp only [Bool.or_eq_false_iff, Bool.not_eq_false'] at hq; with_reducible have hka := ref23_Right_ok hq.1)
       try (have hqs : aC = bC ∧ aR.length = bR.length := (by have q := h24; simp [ref24_Sizes] at q; omega))
       try (have hw1 := hw (by omega))
       refine J_skip ?_
       refine nx ?_
       refine sr 13 rfl ?_
       refine ix rfl (det_own_agg (us := cShf y0.1) ty55 rfl rfl 1 rfl rfl rfl) ?_
       refine ix rfl (det_own_agg (us := cShf y2.1) ty55 rfl rfl 0 rfl rfl rfl) ?_
       refine ix rfl (det_eqs (a := y0.1) (b := y2.1) eqt55 rfl rfl rfl) ?_
       refine ip 1 9 [(130, bv (decide (y0.1 = y2.1)))] (by kernel_rfl) ?_
       refine iand 4 5 130 134 (decide (y0.2.1 = y2.2)) rfl (by kernel_rfl) (fun g27 => ?_) ?_
       ·have g27p : y0.1 = y2.1 := by simpa using g27
        refine ip 4 0 [(134, bv (decide (y0.2.1 = y2.2)))] (by kernel_rfl) ?_
        exact JI_end (armI 2 130 134 g27 Foll.refl (mk [true, true, true, true, true] rfl) rfl rfl rfl rfl rfl)
       refine ip 1 4 [(135, bv ((decide (y0.1 = y2.1)) && (decide (y0.2.1 = y2.2))))] (by kernel_rfl) ?_
       refine iand 3 1 135 138 (decide (y0.2.2 = 0)) rfl (by kernel_rfl) (fun g28 => ?_) ?_
       ·have g28p : (y0.1 = y2.1) ∧ (y0.2.1 = y2.2) := by simpa using g28
        refine ip 3 0 [(138, bv (decide (y0.2.2 = 0)))] (by kernel_rfl) ?_
        exact JI_end (armI 2 135 138 g28 Foll.refl (mk [true, true, true, true, true] rfl) rfl rfl rfl rfl rfl)
       refine ip 1 0 [(6, bv (((decide (y0.1 = y2.1)) && (decide (y0.2.1 = y2.2))) && (decide (y0.2.2 = 0))))] (by kernel_rfl) ?_
       refine ie ?_
       refine J_ret ?_
       subst hR
       exact ends_ret rfl ⟨hr, hD⟩ (by simp [hD]) (res1 rfl (resV_tmp rfl)) () (by rfl) (mk [false, false, false, false, false] rfl) Foll.nil

end Go.Proofs.YtinkdfnpmoljfaaGreatDoor

