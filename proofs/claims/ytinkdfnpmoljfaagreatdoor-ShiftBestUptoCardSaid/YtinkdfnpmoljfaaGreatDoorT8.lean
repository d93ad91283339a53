import Derived.Test.YtinkdfnpmoljfaaGreatDoorD2
import Derived.Test.YtinkdfnpmoljfaaGreatDoorFenX
import Derived.Test.YtinkdfnpmoljfaaGreatDoorProg
import Derived.Test.YtinkdfnpmoljfaaGreatDoorT4a
import Derived.Test.YtinkdfnpmoljfaaGreatDoorT4b
import Derived.Test.YtinkdfnpmoljfaaGreatDoorT5
import Derived.Test.YtinkdfnpmoljfaaGreatDoorT6
import Derived.Test.YtinkdfnpmoljfaaGreatDoorT7
set_option linter.unusedVariables false
set_option linter.unusedSimpArgs false
set_option linter.unnecessarySimpa false
namespace Go.Proofs.YtinkdfnpmoljfaaGreatDoor
open Go Go.Fen

def law28_ShiftBest (aCols : Int) (aRows : List (List Cel)) (aCursor : Plc) (aVisible : Bool) (aShape : Int) (aTitle : List UInt8) (bCols : Int) (bRows : List (List Cel)) (bCursor : Plc) (bVisible : Bool) (bShape : Int) (bTitle : List UInt8) (s : Shf) : Bool :=
  (bif (!law28_wakes) then false else (bindV (shift_Best aCols aRows aCursor aVisible aShape aTitle bCols bRows bCursor bVisible bShape bTitle) fun (rshiftBest : Shf × Int × Int) => (bif ((!decide (rshiftBest.2.2 = 0)) && (!decide (rshiftBest.2.2 = 4))) then (decide (rshiftBest.2.1 = 0)) else (bindV (shift_Gain aCols aRows aCursor aVisible aShape aTitle bCols bRows bCursor bVisible bShape bTitle s) fun (rshiftGain : Int × Int) => (bif (((decide (rshiftGain.2 = 0)) && (decide (rshiftBest.2.1 < rshiftGain.1))) || ((decide (rshiftBest.2.2 = 4)) && (!decide (rshiftBest.2.1 = 0)))) then false else (bindV (shift_Best aCols aRows aCursor aVisible aShape aTitle aCols aRows aCursor aVisible aShape aTitle) fun (rshiftBest1 : Shf × Int × Int) => (bif (!decide (rshiftBest1.2.2 = 4)) then false else (bif (decide (rshiftBest.2.2 = 4)) then true else (bindV (shift_Gain aCols aRows aCursor aVisible aShape aTitle bCols bRows bCursor bVisible bShape bTitle rshiftBest.1) fun (rshiftGain1 : Int × Int) => (bindV (shift_Done aCols aRows aCursor aVisible aShape aTitle rshiftBest.1) fun (rshiftDone : Int × List (List Cel) × Int × Int × Bool × Int × List UInt8 × Int) => (((((decide ((0 : Int) < rshiftBest.2.1)) && (decide (rshiftGain1.2 = 0))) && (decide (rshiftGain1.1 = rshiftBest.2.1))) && (decide (rshiftDone.2.2.2.2.2.2.2 = 0))) && (decide ((frame_Check rshiftDone.1 rshiftDone.2.1 (⟨rshiftDone.2.2.1, rshiftDone.2.2.2.1⟩ : Plc) rshiftDone.2.2.2.2.1 rshiftDone.2.2.2.2.2.1 rshiftDone.2.2.2.2.2.2.1) = 0)))))))))))))

set_option maxRecDepth 100000 in
theorem law28_ShiftBest_c (aCols : Int) (aRows : List (List Cel)) (aCursor : Plc) (aVisible : Bool) (aShape : Int) (aTitle : List UInt8) (bCols : Int) (bRows : List (List Cel)) (bCursor : Plc) (bVisible : Bool) (bShape : Int) (bTitle : List UInt8) (s : Shf) (aRowsq : Option Addr) (aRowsrs : List Slc) (aRowsk : Nat) (bRowsq : Option Addr) (bRowsrs : List Slc) (bRowsk : Nat) (hrowsaRowsrs : RowsOk aRowsrs aRows) (hlaRows : aRows.length ≤ 9223372036854775807) (hcaRows : aRows.length ≤ aRowsk) (hrowsbRowsrs : RowsOk bRowsrs bRows) (hlbRows : bRows.length ≤ 9223372036854775807) (hcbRows : bRows.length ≤ bRowsk) (hT : aTitle.length ≤ 100000000) (hT2 : bTitle.length ≤ 100000000) (R : Bool) (hR : law28_ShiftBest aCols aRows aCursor aVisible aShape aTitle bCols bRows bCursor bVisible bShape bTitle s = R) : ConV Tryz.prog 10 [ag [iv aCols, .slice aRowsq aRows.length aRowsk, iv aCursor.row, iv aCursor.col, bv aVisible, iv aShape, sv aTitle], ag [iv bCols, .slice bRowsq bRows.length bRowsk, iv bCursor.row, iv bCursor.col, bv bVisible, iv bShape, sv bTitle], ag (cShf s)] [sl cSlc aRowsq aRowsrs, rowsF cCel aRowsrs aRows, sl cSlc bRowsq bRowsrs, rowsF cCel bRowsrs bRows, sl cSpn (some ⟨0, 0, none⟩) tab0, sl cSpn (some ⟨1, 0, none⟩) tab1] (bv R) := by
  refine con_of_J (n := 102) Tryz.func10 rfl (by kernel_rfl) rfl rfl [(0, ag [iv aCols, .slice aRowsq aRows.length aRowsk, iv aCursor.row, iv aCursor.col, bv aVisible, iv aShape, sv aTitle]), (1, ag [iv bCols, .slice bRowsq bRows.length bRowsk, iv bCursor.row, iv bCursor.col, bv bVisible, iv bShape, sv bTitle]), (2, ag (cShf s))] ⟨rfl, rfl, rfl, trivial⟩ fun X hX hr hD => ?_
  replace hR := (law28_ShiftBest.eq_1 ..).symm.trans hR
  have := hrowsaRowsrs.1
  have := hrowsbRowsrs.1
  refine sr 4 rfl ?_
  refine it rfl (tri_box (cs := [iv aCols, .slice aRowsq aRows.length aRowsk, iv aCursor.row, iv aCursor.col, bv aVisible, iv aShape, sv aTitle]) rfl rfl rfl) fun b1 => ?_
  refine it rfl (tri_box (cs := [iv bCols, .slice bRowsq bRows.length bRowsk, iv bCursor.row, iv bCursor.col, bv bVisible, iv bShape, sv bTitle]) rfl rfl rfl) fun b2 => ?_
  refine it rfl (tri_box (cs := cShf s) rfl rfl rfl) fun b3 => ?_
  refine ip 1 0 [] (by kernel_rfl) ?_
  refine ie ?_
  refine J_seq ?_
  refine sr 2 rfl ?_
  refine ixc rfl (det_call (law28_wakes_c _ rfl) rfl rfl rfl rfl rfl (Foll.pick [4, 5] rfl)) ?_
  refine ip 1 0 [(20, bv (!law28_wakes))] (by kernel_rfl) ?_
  refine ie ?_
  refine J_if rfl (fun h4 => ?_) (fun h4 => ?_)
  · replace hR := bt hR h4
    refine sr 1 rfl ?_
    refine ip 1 0 [(6, bv false)] (by kernel_rfl) ?_
    refine ie ?_
    refine J_ret ?_
    subst hR
    exact ends_ret rfl ⟨hr, hD⟩ (by simp [hD]) (res1 rfl (resV_tmp rfl)) () (by rfl) (mk [false, false, false] rfl) Foll.nil
  · replace hR := bf hR h4
    refine J_skip ?_
    refine nx ?_
    refine sr 11 rfl ?_
    refine ix rfl (det_own_agg (us := [iv aCols, .slice aRowsq aRows.length aRowsk, iv aCursor.row, iv aCursor.col, bv aVisible, iv aShape, sv aTitle]) ty53 rfl rfl 2 rfl rfl rfl) ?_
    refine ix rfl (det_own_agg (us := [iv bCols, .slice bRowsq bRows.length bRowsk, iv bCursor.row, iv bCursor.col, bv bVisible, iv bShape, sv bTitle]) ty53 rfl rfl 1 rfl rfl rfl) ?_
    have hQ := bindVx hR; clear hR; obtain ⟨rshiftBest, hrshiftBest, hR⟩ := hQ
    refine ixc rfl (det_call (shift_Best_c aCols aRows aCursor aVisible aShape aTitle bCols bRows bCursor bVisible bShape bTitle aRowsq aRowsrs aRowsk bRowsq bRowsrs bRowsk hrowsaRowsrs (by first | omega | (simp only [List.length_take, List.length_drop, List.length_append, List.length_cons, List.length_nil, List.length_set, List.length_map]; omega) | decide) (by first | omega | (simp only [List.length_take, List.length_drop, List.length_append, List.length_cons, List.length_nil, List.length_set, List.length_map]; omega) | decide) hrowsbRowsrs (by first | omega | (simp only [List.length_take, List.length_drop, List.length_append, List.length_cons, List.length_nil, List.length_set, List.length_map]; omega) | decide) (by first | omega | (simp only [List.length_take, List.length_drop, List.length_append, List.length_cons, List.length_nil, List.length_set, List.length_map]; omega) | decide) (by first | omega | (simp only [List.length_nil]; omega)) (by first | omega | (simp only [List.length_nil]; omega)) rshiftBest hrshiftBest) rfl rfl rfl rfl rfl Foll.refl) ?_
    refine ip 4 4 [(25, ag (cShf rshiftBest.1)), (26, iv rshiftBest.2.1), (27, iv rshiftBest.2.2)] (by kernel_rfl) ?_
    refine it rfl (tri_alloc (cs := cShf Shf.zero) zero55 rfl) fun b5 => ?_
    refine it rfl (tri_store (us := cShf rshiftBest.1) (cs' := cShf rshiftBest.1) ty55 rfl rfl rfl 0 rfl rfl rfl rfl rfl rfl) fun _ => ?_
    refine ip 2 0 [(8, iv rshiftBest.2.1), (9, iv rshiftBest.2.2)] (by kernel_rfl) ?_
    refine ie ?_
    refine J_seq ?_
    refine sr 6 rfl ?_
    refine ip 3 3 [(30, bv (!decide (rshiftBest.2.2 = 0)))] (by kernel_rfl) ?_
    refine iand 3 0 30 33 (!decide (rshiftBest.2.2 = 4)) rfl (by kernel_rfl) (fun g6 => ?_) ?_
    · have g6p : ¬ rshiftBest.2.2 = 0 := by simpa using g6
      refine ip 3 0 [(33, bv (!decide (rshiftBest.2.2 = 4)))] (by kernel_rfl) ?_
      exact JI_end (armI 2 30 33 g6 Foll.refl (mk [true, true, true, true] rfl) rfl rfl rfl rfl rfl)
    refine ie ?_
    refine J_if rfl (fun h7 => ?_) (fun h7 => ?_)
    · have h7p : (¬ rshiftBest.2.2 = 0) ∧ (¬ rshiftBest.2.2 = 4) := by simpa using h7
      replace hR := bt hR h7
      refine sr 3 rfl ?_
      refine ip 3 0 [(6, bv (decide (rshiftBest.2.1 = 0)))] (by kernel_rfl) ?_
      refine ie ?_
      refine J_ret ?_
      subst hR
      exact ends_ret rfl ⟨hr, hD⟩ (by simp [hD]) (res1 rfl (resV_tmp rfl)) () (by rfl) (mk [false, false, false, false] rfl) Foll.nil
    · have h7p : ¬ ((¬ rshiftBest.2.2 = 0) ∧ (¬ rshiftBest.2.2 = 4)) := by simpa using h7
      replace hR := bf hR h7
      refine J_skip ?_
      refine nx ?_
      refine sr 9 rfl ?_
      refine ix rfl (det_own_agg (us := [iv aCols, .slice aRowsq aRows.length aRowsk, iv aCursor.row, iv aCursor.col, bv aVisible, iv aShape, sv aTitle]) ty53 rfl rfl 3 rfl rfl rfl) ?_
      refine ix rfl (det_own_agg (us := [iv bCols, .slice bRowsq bRows.length bRowsk, iv bCursor.row, iv bCursor.col, bv bVisible, iv bShape, sv bTitle]) ty53 rfl rfl 2 rfl rfl rfl) ?_
      refine ix rfl (det_own_agg (us := cShf s) ty55 rfl rfl 1 rfl rfl rfl) ?_
      have hQ := bindVx hR; clear hR; obtain ⟨rshiftGain, hrshiftGain, hR⟩ := hQ
      refine ixc rfl (det_call (shift_Gain_c aCols aRows aCursor aVisible aShape aTitle bCols bRows bCursor bVisible bShape bTitle s aRowsq aRowsrs aRowsk bRowsq bRowsrs bRowsk hrowsaRowsrs (by first | omega | (simp only [List.length_take, List.length_drop, List.length_append, List.length_cons, List.length_nil, List.length_set, List.length_map]; omega) | decide) (by first | omega | (simp only [List.length_take, List.length_drop, List.length_append, List.length_cons, List.length_nil, List.length_set, List.length_map]; omega) | decide) hrowsbRowsrs (by first | omega | (simp only [List.length_take, List.length_drop, List.length_append, List.length_cons, List.length_nil, List.length_set, List.length_map]; omega) | decide) (by first | omega | (simp only [List.length_take, List.length_drop, List.length_append, List.length_cons, List.length_nil, List.length_set, List.length_map]; omega) | decide) (by first | omega | (simp only [List.length_nil]; omega)) (by first | omega | (simp only [List.length_nil]; omega)) rshiftGain hrshiftGain) rfl rfl rfl rfl rfl Foll.refl) ?_
      refine ip 5 0 [(10, iv rshiftGain.1), (11, iv rshiftGain.2)] (by kernel_rfl) ?_
      refine ie ?_
      refine J_seq ?_
      refine sr 15 rfl ?_
      refine ip 3 12 [(45, bv (decide (rshiftGain.2 = 0)))] (by kernel_rfl) ?_
      refine iand 4 8 45 49 (decide (rshiftBest.2.1 < rshiftGain.1)) rfl (by kernel_rfl) (fun g8 => ?_) ?_
      · have g8p : rshiftGain.2 = 0 := by simpa using g8
        refine ip 4 0 [(49, bv (decide (rshiftBest.2.1 < rshiftGain.1)))] (by kernel_rfl) ?_
        exact JI_end (armI 2 45 49 g8 Foll.refl (mk [true, true, true, true] rfl) rfl rfl rfl rfl rfl)
      refine ip 1 7 [(50, bv ((decide (rshiftGain.2 = 0)) && (decide (rshiftBest.2.1 < rshiftGain.1))))] (by kernel_rfl) ?_
      refine ior 7 0 50 57 ((decide (rshiftBest.2.2 = 4)) && (!decide (rshiftBest.2.1 = 0))) rfl (by kernel_rfl) (fun g9 => ?_) ?_
      · have g9p : ¬ ((rshiftGain.2 = 0) ∧ (rshiftBest.2.1 < rshiftGain.1)) := by simpa using g9
        refine ip 3 4 [(53, bv (decide (rshiftBest.2.2 = 4)))] (by kernel_rfl) ?_
        refine iand 3 1 53 56 (!decide (rshiftBest.2.1 = 0)) rfl (by kernel_rfl) (fun g10 => ?_) ?_
        · have g10p : rshiftBest.2.2 = 4 := by simpa using g10
          refine ip 3 0 [(56, bv (!decide (rshiftBest.2.1 = 0)))] (by kernel_rfl) ?_
          exact JI_end (armI 2 53 56 g10 Foll.refl (mk [true, true, true, true] rfl) rfl rfl rfl rfl rfl)
        refine ip 1 0 [(57, bv ((decide (rshiftBest.2.2 = 4)) && (!decide (rshiftBest.2.1 = 0))))] (by kernel_rfl) ?_
        exact JI_end (armI 4 50 57 g9 Foll.refl (mk [true, true, true, true] rfl) rfl rfl rfl rfl rfl)
      refine ie ?_
      refine J_if rfl (fun h11 => ?_) (fun h11 => ?_)
      · have h11p : ((rshiftGain.2 = 0) ∧ (rshiftBest.2.1 < rshiftGain.1)) ∨ ((rshiftBest.2.2 = 4) ∧ (¬ rshiftBest.2.1 = 0)) := by simpa using h11
        replace hR := bt hR h11
        refine sr 1 rfl ?_
        refine ip 1 0 [(6, bv false)] (by kernel_rfl) ?_
        refine ie ?_
        refine J_ret ?_
        subst hR
        exact ends_ret rfl ⟨hr, hD⟩ (by simp [hD]) (res1 rfl (resV_tmp rfl)) () (by rfl) (mk [false, false, false, false] rfl) Foll.nil
      · have h11p : ¬ (((rshiftGain.2 = 0) ∧ (rshiftBest.2.1 < rshiftGain.1)) ∨ ((rshiftBest.2.2 = 4) ∧ (¬ rshiftBest.2.1 = 0))) := by simpa using h11
        replace hR := bf hR h11
        refine J_skip ?_
        refine nx ?_
        refine J_seq ?_
        refine sr 11 rfl ?_
        refine ix rfl (det_own_agg (us := [iv aCols, .slice aRowsq aRows.length aRowsk, iv aCursor.row, iv aCursor.col, bv aVisible, iv aShape, sv aTitle]) ty53 rfl rfl 3 rfl rfl rfl) ?_
        refine ix rfl (det_own_agg (us := [iv aCols, .slice aRowsq aRows.length aRowsk, iv aCursor.row, iv aCursor.col, bv aVisible, iv aShape, sv aTitle]) ty53 rfl rfl 3 rfl rfl rfl) ?_
        have hQ := bindVx hR; clear hR; obtain ⟨rshiftBest1, hrshiftBest1, hR⟩ := hQ
        refine ixc rfl (det_call (shift_Best_c aCols aRows aCursor aVisible aShape aTitle aCols aRows aCursor aVisible aShape aTitle aRowsq aRowsrs aRowsk aRowsq aRowsrs aRowsk hrowsaRowsrs (by first | omega | (simp only [List.length_take, List.length_drop, List.length_append, List.length_cons, List.length_nil, List.length_set, List.length_map]; omega) | decide) (by first | omega | (simp only [List.length_take, List.length_drop, List.length_append, List.length_cons, List.length_nil, List.length_set, List.length_map]; omega) | decide) hrowsaRowsrs (by first | omega | (simp only [List.length_take, List.length_drop, List.length_append, List.length_cons, List.length_nil, List.length_set, List.length_map]; omega) | decide) (by first | omega | (simp only [List.length_take, List.length_drop, List.length_append, List.length_cons, List.length_nil, List.length_set, List.length_map]; omega) | decide) (by first | omega | (simp only [List.length_nil]; omega)) (by first | omega | (simp only [List.length_nil]; omega)) rshiftBest1 hrshiftBest1) rfl rfl rfl rfl rfl (Foll.pick [0, 1, 0, 1, 4, 5] rfl)) ?_
        refine ip 4 4 [(62, ag (cShf rshiftBest1.1)), (63, iv rshiftBest1.2.1), (64, iv rshiftBest1.2.2)] (by kernel_rfl) ?_
        refine it rfl (tri_alloc (cs := cShf Shf.zero) zero55 rfl) fun b12 => ?_
        refine it rfl (tri_store (us := cShf rshiftBest1.1) (cs' := cShf rshiftBest1.1) ty55 rfl rfl rfl 0 rfl rfl rfl rfl rfl rfl) fun _ => ?_
        refine ip 2 0 [(14, iv rshiftBest1.2.2)] (by kernel_rfl) ?_
        refine ie ?_
        refine sr 2 rfl ?_
        refine ip 2 0 [(66, bv (!decide (rshiftBest1.2.2 = 4)))] (by kernel_rfl) ?_
        refine ie ?_
        refine J_if rfl (fun h13 => ?_) (fun h13 => ?_)
        · have h13p : ¬ rshiftBest1.2.2 = 4 := by simpa using h13
          replace hR := bt hR h13
          refine sr 1 rfl ?_
          refine ip 1 0 [(6, bv false)] (by kernel_rfl) ?_
          refine ie ?_
          refine J_ret ?_
          subst hR
          exact ends_ret rfl ⟨hr, hD⟩ (by simp [hD]) (res1 rfl (resV_tmp rfl)) () (by rfl) (mk [false, false, false, false, false] rfl) Foll.nil
        · have h13p : ¬ (¬ rshiftBest1.2.2 = 4) := by simpa using h13
          replace hR := bf hR h13
          refine J_skip ?_
          refine nx ?_
          refine J_seq ?_
          refine sr 2 rfl ?_
          refine ip 2 0 [(68, bv (decide (rshiftBest.2.2 = 4)))] (by kernel_rfl) ?_
          refine ie ?_
          refine J_if rfl (fun h14 => ?_) (fun h14 => ?_)
          · have h14p : rshiftBest.2.2 = 4 := by simpa using h14
            replace hR := bt hR h14
            refine sr 1 rfl ?_
            refine ip 1 0 [(6, bv true)] (by kernel_rfl) ?_
            refine ie ?_
            refine J_ret ?_
            subst hR
            exact ends_ret rfl ⟨hr, hD⟩ (by simp [hD]) (res1 rfl (resV_tmp rfl)) () (by rfl) (mk [false, false, false, false, false] rfl) Foll.nil
          · have h14p : ¬ (rshiftBest.2.2 = 4) := by simpa using h14
            replace hR := bf hR h14
            refine J_skip ?_
            refine nx ?_
            refine sr 9 rfl ?_
            refine ix rfl (det_own_agg (us := [iv aCols, .slice aRowsq aRows.length aRowsk, iv aCursor.row, iv aCursor.col, bv aVisible, iv aShape, sv aTitle]) ty53 rfl rfl 4 rfl rfl rfl) ?_
            refine ix rfl (det_own_agg (us := [iv bCols, .slice bRowsq bRows.length bRowsk, iv bCursor.row, iv bCursor.col, bv bVisible, iv bShape, sv bTitle]) ty53 rfl rfl 3 rfl rfl rfl) ?_
            refine ix rfl (det_own_agg (us := cShf rshiftBest.1) ty55 rfl rfl 1 rfl rfl rfl) ?_
            have hQ := bindVx hR; clear hR; obtain ⟨rshiftGain1, hrshiftGain1, hR⟩ := hQ
            refine ixc rfl (det_call (shift_Gain_c aCols aRows aCursor aVisible aShape aTitle bCols bRows bCursor bVisible bShape bTitle rshiftBest.1 aRowsq aRowsrs aRowsk bRowsq bRowsrs bRowsk hrowsaRowsrs (by first | omega | (simp only [List.length_take, List.length_drop, List.length_append, List.length_cons, List.length_nil, List.length_set, List.length_map]; omega) | decide) (by first | omega | (simp only [List.length_take, List.length_drop, List.length_append, List.length_cons, List.length_nil, List.length_set, List.length_map]; omega) | decide) hrowsbRowsrs (by first | omega | (simp only [List.length_take, List.length_drop, List.length_append, List.length_cons, List.length_nil, List.length_set, List.length_map]; omega) | decide) (by first | omega | (simp only [List.length_take, List.length_drop, List.length_append, List.length_cons, List.length_nil, List.length_set, List.length_map]; omega) | decide) (by first | omega | (simp only [List.length_nil]; omega)) (by first | omega | (simp only [List.length_nil]; omega)) rshiftGain1 hrshiftGain1) rfl rfl rfl rfl rfl Foll.refl) ?_
            refine ip 5 0 [(15, iv rshiftGain1.1), (16, iv rshiftGain1.2)] (by kernel_rfl) ?_
            refine ie ?_
            refine sr 9 rfl ?_
            refine ix rfl (det_own_agg (us := [iv aCols, .slice aRowsq aRows.length aRowsk, iv aCursor.row, iv aCursor.col, bv aVisible, iv aShape, sv aTitle]) ty53 rfl rfl 4 rfl rfl rfl) ?_
            refine ix rfl (det_own_agg (us := cShf rshiftBest.1) ty55 rfl rfl 1 rfl rfl rfl) ?_
            have hQ := bindVx hR; clear hR; obtain ⟨rshiftDone, hrshiftDone, hR⟩ := hQ
            refine it rfl (tri_callP (L2 := [bx b12 (cShf rshiftBest1.1) 55, bx b5 (cShf rshiftBest.1) 55, bx b3 (cShf s) 55, bx b2 [iv bCols, .slice bRowsq bRows.length bRowsk, iv bCursor.row, iv bCursor.col, bv bVisible, iv bShape, sv bTitle] 53, bx b1 [iv aCols, .slice aRowsq aRows.length aRowsk, iv aCursor.row, iv aCursor.col, bv aVisible, iv aShape, sv aTitle] 53]) (shift_Done_c aCols aRows aCursor aVisible aShape aTitle rshiftBest.1 aRowsq aRowsrs aRowsk hrowsaRowsrs (by first | omega | (simp only [List.length_take, List.length_drop, List.length_append, List.length_cons, List.length_nil, List.length_set, List.length_map]; omega) | decide) (by first | omega | (simp only [List.length_take, List.length_drop, List.length_append, List.length_cons, List.length_nil, List.length_set, List.length_map]; omega) | decide) (by first | omega | (simp only [List.length_nil]; omega)) rshiftDone hrshiftDone) rfl rfl rfl rfl rfl (Foll.pick [0, 1, 4, 5] rfl) (List.Perm.refl _) (fun ⟨⟨r15, rs16⟩, hp19⟩ => (bx b12 (cShf rshiftBest1.1) 55 :: bx b5 (cShf rshiftBest.1) 55 :: bx b3 (cShf s) 55 :: bx b2 [iv bCols, .slice bRowsq bRows.length bRowsk, iv bCursor.row, iv bCursor.col, bv bVisible, iv bShape, sv bTitle] 53 :: bx b1 [iv aCols, .slice aRowsq aRows.length aRowsk, iv aCursor.row, iv aCursor.col, bv aVisible, iv aShape, sv aTitle] 53 :: (vo cSlc 67 r15 rs16) ++ ([]))) (fun ⟨⟨r15, rs16⟩, hp19⟩ => permC [vo cSlc 67 r15 rs16, [bx b12 (cShf rshiftBest1.1) 55], [bx b5 (cShf rshiftBest.1) 55], [bx b3 (cShf s) 55], [bx b2 [iv bCols, .slice bRowsq bRows.length bRowsk, iv bCursor.row, iv bCursor.col, bv bVisible, iv bShape, sv bTitle] 53], [bx b1 [iv aCols, .slice aRowsq aRows.length aRowsk, iv aCursor.row, iv aCursor.col, bv aVisible, iv aShape, sv aTitle] 53]] [1, 2, 3, 4, 5, 0] 6 rfl (by decide) (by first | rfl | simp only [List.flatten_cons, List.flatten_nil, List.append_nil, List.cons_append, List.nil_append, List.append_assoc]) [[bx b12 (cShf rshiftBest1.1) 55], [bx b5 (cShf rshiftBest.1) 55], [bx b3 (cShf s) 55], [bx b2 [iv bCols, .slice bRowsq bRows.length bRowsk, iv bCursor.row, iv bCursor.col, bv bVisible, iv bShape, sv bTitle] 53], [bx b1 [iv aCols, .slice aRowsq aRows.length aRowsk, iv aCursor.row, iv aCursor.col, bv aVisible, iv aShape, sv aTitle] 53], vo cSlc 67 r15 rs16] rfl (by first | rfl | simp only [List.flatten_cons, List.flatten_nil, List.append_nil, List.cons_append, List.nil_append, List.append_assoc]))) fun ⟨⟨r15, rs16⟩, hp19⟩ => ?_
            try dsimp only at hp19
            obtain ⟨hk17, hw18⟩ := hp19
            have := VOk.le hk17
            have := VOk.cap hk17
            have := hw18.1
            have := shift_Done_title aCols aRows aCursor aVisible aShape aTitle rshiftBest.1; try rw [hrshiftDone] at this
            refine JI_seal [bx b12 (cShf rshiftBest1.1) 55, bx b5 (cShf rshiftBest.1) 55, bx b3 (cShf s) 55, bx b2 [iv bCols, .slice bRowsq bRows.length bRowsk, iv bCursor.row, iv bCursor.col, bv bVisible, iv bShape, sv bTitle] 53, bx b1 [iv aCols, .slice aRowsq aRows.length aRowsk, iv aCursor.row, iv aCursor.col, bv aVisible, iv aShape, sv aTitle] 53] [] (T := 67) (c := cSlc) (r := r15) (xs := rs16) (VOk.cast hk17 (by rw [hw18.1])) (by first | rfl | simp only [List.cons_append, List.append_assoc, List.nil_append, List.append_nil]) ?_
            refine ip 3 3 [(80, ag [iv rshiftDone.1, .slice (va r15.q) rshiftDone.2.1.length r15.k, iv rshiftDone.2.2.1, iv rshiftDone.2.2.2.1, bv rshiftDone.2.2.2.2.1, iv rshiftDone.2.2.2.2.2.1, sv rshiftDone.2.2.2.2.2.2.1]), (81, iv rshiftDone.2.2.2.2.2.2.2)] (by kernel_rfl) ?_
            refine it rfl (tri_alloc (cs := [iv 0, .slice none 0 0, iv 0, iv 0, bv false, iv 0, sv ([] : List UInt8)]) zero53 rfl) fun b20 => ?_
            refine it rfl (tri_store (us := [iv rshiftDone.1, .slice (va r15.q) rshiftDone.2.1.length r15.k, iv rshiftDone.2.2.1, iv rshiftDone.2.2.2.1, bv rshiftDone.2.2.2.2.1, iv rshiftDone.2.2.2.2.2.1, sv rshiftDone.2.2.2.2.2.2.1]) (cs' := [iv rshiftDone.1, .slice (va r15.q) rshiftDone.2.1.length r15.k, iv rshiftDone.2.2.1, iv rshiftDone.2.2.2.1, bv rshiftDone.2.2.2.2.1, iv rshiftDone.2.2.2.2.2.1, sv rshiftDone.2.2.2.2.2.2.1]) ty53 rfl rfl rfl 0 rfl rfl rfl rfl rfl rfl) fun _ => ?_
            refine ip 1 0 [(18, iv rshiftDone.2.2.2.2.2.2.2)] (by kernel_rfl) ?_
            refine ie ?_
            refine sr 21 rfl ?_
            refine ip 3 18 [(84, bv (decide ((0 : Int) < rshiftBest.2.1)))] (by kernel_rfl) ?_
            refine iand 3 15 84 87 (decide (rshiftGain1.2 = 0)) rfl (by kernel_rfl) (fun g21 => ?_) ?_
            · have g21p : (0 : Int) < rshiftBest.2.1 := by simpa using g21
              refine ip 3 0 [(87, bv (decide (rshiftGain1.2 = 0)))] (by kernel_rfl) ?_
              exact JI_end (armI 2 84 87 g21 Foll.refl (mk [true, true, true, true, true, true] rfl) rfl rfl rfl rfl rfl)
            refine ip 1 14 [(88, bv ((decide ((0 : Int) < rshiftBest.2.1)) && (decide (rshiftGain1.2 = 0))))] (by kernel_rfl) ?_
            refine iand 4 10 88 92 (decide (rshiftGain1.1 = rshiftBest.2.1)) rfl (by kernel_rfl) (fun g22 => ?_) ?_
            · have g22p : ((0 : Int) < rshiftBest.2.1) ∧ (rshiftGain1.2 = 0) := by simpa using g22
              refine ip 4 0 [(92, bv (decide (rshiftGain1.1 = rshiftBest.2.1)))] (by kernel_rfl) ?_
              exact JI_end (armI 2 88 92 g22 Foll.refl (mk [true, true, true, true, true, true] rfl) rfl rfl rfl rfl rfl)
            refine ip 1 9 [(93, bv (((decide ((0 : Int) < rshiftBest.2.1)) && (decide (rshiftGain1.2 = 0))) && (decide (rshiftGain1.1 = rshiftBest.2.1))))] (by kernel_rfl) ?_
            refine iand 3 6 93 96 (decide (rshiftDone.2.2.2.2.2.2.2 = 0)) rfl (by kernel_rfl) (fun g23 => ?_) ?_
            · have g23p : (((0 : Int) < rshiftBest.2.1) ∧ (rshiftGain1.2 = 0)) ∧ (rshiftGain1.1 = rshiftBest.2.1) := by simpa using g23
              refine ip 3 0 [(96, bv (decide (rshiftDone.2.2.2.2.2.2.2 = 0)))] (by kernel_rfl) ?_
              exact JI_end (armI 2 93 96 g23 Foll.refl (mk [true, true, true, true, true, true] rfl) rfl rfl rfl rfl rfl)
            refine ip 1 5 [(97, bv ((((decide ((0 : Int) < rshiftBest.2.1)) && (decide (rshiftGain1.2 = 0))) && (decide (rshiftGain1.1 = rshiftBest.2.1))) && (decide (rshiftDone.2.2.2.2.2.2.2 = 0))))] (by kernel_rfl) ?_
            refine iand 4 1 97 101 (decide ((frame_Check rshiftDone.1 rshiftDone.2.1 (⟨rshiftDone.2.2.1, rshiftDone.2.2.2.1⟩ : Plc) rshiftDone.2.2.2.2.1 rshiftDone.2.2.2.2.2.1 rshiftDone.2.2.2.2.2.2.1) = 0)) rfl (by kernel_rfl) (fun g24 => ?_) ?_
            · have g24p : ((((0 : Int) < rshiftBest.2.1) ∧ (rshiftGain1.2 = 0)) ∧ (rshiftGain1.1 = rshiftBest.2.1)) ∧ (rshiftDone.2.2.2.2.2.2.2 = 0) := by simpa using g24
              refine ix rfl (det_own_agg (us := [iv rshiftDone.1, .slice (va r15.q) rshiftDone.2.1.length r15.k, iv rshiftDone.2.2.1, iv rshiftDone.2.2.2.1, bv rshiftDone.2.2.2.2.1, iv rshiftDone.2.2.2.2.2.1, sv rshiftDone.2.2.2.2.2.2.1]) ty53 rfl rfl 0 rfl rfl rfl) ?_
              refine ixc rfl (det_call (frame_Check_c rshiftDone.1 rshiftDone.2.1 (⟨rshiftDone.2.2.1, rshiftDone.2.2.2.1⟩ : Plc) rshiftDone.2.2.2.2.1 rshiftDone.2.2.2.2.2.1 rshiftDone.2.2.2.2.2.2.1 (va r15.q) rs16 r15.k hw18 (by first | omega | (simp only [List.length_take, List.length_drop, List.length_append, List.length_cons, List.length_nil, List.length_set, List.length_map]; omega) | decide) (by first | omega | (simp only [List.length_take, List.length_drop, List.length_append, List.length_cons, List.length_nil, List.length_set, List.length_map]; omega) | decide) (by first | omega | (simp only [List.length_nil]; omega)) _ rfl) rfl rfl rfl rfl rfl (Foll.pick [0, 1, 6, 7] rfl)) ?_
              refine ip 2 0 [(101, bv (decide ((frame_Check rshiftDone.1 rshiftDone.2.1 (⟨rshiftDone.2.2.1, rshiftDone.2.2.2.1⟩ : Plc) rshiftDone.2.2.2.2.1 rshiftDone.2.2.2.2.2.1 rshiftDone.2.2.2.2.2.2.1) = 0)))] (by kernel_rfl) ?_
              exact JI_end (armI 4 97 101 g24 Foll.refl (mk [true, true, true, true, true, true] rfl) rfl rfl rfl rfl rfl)
            refine ip 1 0 [(6, bv (((((decide ((0 : Int) < rshiftBest.2.1)) && (decide (rshiftGain1.2 = 0))) && (decide (rshiftGain1.1 = rshiftBest.2.1))) && (decide (rshiftDone.2.2.2.2.2.2.2 = 0))) && (decide ((frame_Check rshiftDone.1 rshiftDone.2.1 (⟨rshiftDone.2.2.1, rshiftDone.2.2.2.1⟩ : Plc) rshiftDone.2.2.2.2.1 rshiftDone.2.2.2.2.2.1 rshiftDone.2.2.2.2.2.2.1) = 0))))] (by kernel_rfl) ?_
            refine ie ?_
            refine J_ret ?_
            subst hR
            exact ends_ret rfl ⟨hr, hD⟩ (by simp [hD]) (res1 rfl (resV_tmp rfl)) () (by rfl) (mk [false, false, false, false, false, false] rfl) Foll.nil

end Go.Proofs.YtinkdfnpmoljfaaGreatDoor

