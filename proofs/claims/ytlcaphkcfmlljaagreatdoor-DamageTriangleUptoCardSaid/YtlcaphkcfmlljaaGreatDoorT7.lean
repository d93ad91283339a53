import Derived.Test.YtlcaphkcfmlljaaGreatDoorD2
import Derived.Test.YtlcaphkcfmlljaaGreatDoorFenV
import Derived.Test.YtlcaphkcfmlljaaGreatDoorProg
import Derived.Test.YtlcaphkcfmlljaaGreatDoorT4a
import Derived.Test.YtlcaphkcfmlljaaGreatDoorT4b
import Derived.Test.YtlcaphkcfmlljaaGreatDoorT4c
import Derived.Test.YtlcaphkcfmlljaaGreatDoorT5
set_option linter.unusedVariables false
set_option linter.unusedSimpArgs false
set_option linter.unnecessarySimpa false
namespace Go.Proofs.YtlcaphkcfmlljaaGreatDoor
open Go Go.Fen

def law24_DamageRises_l3 (aCols : Int) (aRows : List (List Cel)) (bRows : List (List Cel)) (rdamageSpans : List Sp3 × Int) (t28 : Nat) (ag_law24_DamageRises_l2 : Nat → Bool) : Nat → Bool → Int → Bool
  | 0, _, _ => false
  | fu1 + 1, differs, k => (bif (decide (k < (rdamageSpans.1.getD t28 Sp3.zero).to)) then law24_DamageRises_l3 aCols aRows bRows rdamageSpans t28 ag_law24_DamageRises_l2 fu1 (differs || (!(decide (((aRows.getD (((rdamageSpans.1.getD t28 Sp3.zero).row).toNat) []).getD ((k).toNat) Cel.zero) = ((bRows.getD (((rdamageSpans.1.getD t28 Sp3.zero).row).toNat) []).getD ((k).toNat) Cel.zero))))) (k + 1) else (bif (((!differs) || ((decide ((0 : Int) < (rdamageSpans.1.getD t28 Sp3.zero).frm)) && (!(decide (((aRows.getD (((rdamageSpans.1.getD t28 Sp3.zero).row).toNat) []).getD (((rdamageSpans.1.getD t28 Sp3.zero).frm).toNat - 1) Cel.zero) = ((bRows.getD (((rdamageSpans.1.getD t28 Sp3.zero).row).toNat) []).getD (((rdamageSpans.1.getD t28 Sp3.zero).frm).toNat - 1) Cel.zero)))))) || ((decide ((rdamageSpans.1.getD t28 Sp3.zero).to < aCols)) && (!(decide (((aRows.getD (((rdamageSpans.1.getD t28 Sp3.zero).row).toNat) []).getD (((rdamageSpans.1.getD t28 Sp3.zero).to).toNat) Cel.zero) = ((bRows.getD (((rdamageSpans.1.getD t28 Sp3.zero).row).toNat) []).getD (((rdamageSpans.1.getD t28 Sp3.zero).to).toNat) Cel.zero)))))) then false else ag_law24_DamageRises_l2 (t28 + 1)))
def law24_DamageRises_l2 (aCols : Int) (aRows : List (List Cel)) (bRows : List (List Cel)) (rdamageSpans : List Sp3 × Int) : List Sp3 → Nat → Bool
  | [], t28 => true
  | hd_l2 :: tl_l2, t28 => (bif (((((decide (hd_l2.row < 0)) || (decide ((aRows.length : Int) ≤ hd_l2.row))) || (decide (hd_l2.frm < 0))) || (decide (aCols < hd_l2.to))) || (decide (hd_l2.to ≤ hd_l2.frm))) then false else (bif ((decide ((0 : Int) < (t28 : Int))) && ((decide (hd_l2.row < (rdamageSpans.1.getD (t28 - 1) Sp3.zero).row)) || ((decide ((rdamageSpans.1.getD (t28 - 1) Sp3.zero).row = hd_l2.row)) && (decide (hd_l2.frm ≤ (rdamageSpans.1.getD (t28 - 1) Sp3.zero).to))))) then false else law24_DamageRises_l3 aCols aRows bRows rdamageSpans t28 (law24_DamageRises_l2 aCols aRows bRows rdamageSpans tl_l2) ((hd_l2.to - (hd_l2.frm)).toNat + 1) false (hd_l2.frm)))
def law24_DamageRises (aCols : Int) (aRows : List (List Cel)) (aCursor : Plc) (aVisible : Bool) (aShape : Int) (aTitle : List UInt8) (bCols : Int) (bRows : List (List Cel)) (bCursor : Plc) (bVisible : Bool) (bShape : Int) (bTitle : List UInt8) : Bool :=
  (bif (!law24_wakes) then false else (bindV (damage_Spans aCols aRows aCursor aVisible aShape aTitle bCols bRows bCursor bVisible bShape bTitle) fun (rdamageSpans : List Sp3 × Int) => (bif (!decide (rdamageSpans.2 = 0)) then (decide ((rdamageSpans.1.length : Int) = 0)) else law24_DamageRises_l2 aCols aRows bRows rdamageSpans rdamageSpans.1 0)))

set_option maxRecDepth 100000 in
theorem law24_DamageRises_c (aCols : Int) (aRows : List (List Cel)) (aCursor : Plc) (aVisible : Bool) (aShape : Int) (aTitle : List UInt8) (bCols : Int) (bRows : List (List Cel)) (bCursor : Plc) (bVisible : Bool) (bShape : Int) (bTitle : List UInt8) (aRowsq : Option Addr) (aRowsrs : List Slc) (aRowsk : Nat) (bRowsq : Option Addr) (bRowsrs : List Slc) (bRowsk : Nat) (hrowsaRowsrs : RowsOk aRowsrs aRows) (hlaRows : aRows.length ≤ 9223372036854775807) (hcaRows : aRows.length ≤ aRowsk) (hrowsbRowsrs : RowsOk bRowsrs bRows) (hlbRows : bRows.length ≤ 9223372036854775807) (hcbRows : bRows.length ≤ bRowsk) (hT : aTitle.length ≤ 100000000) (hT2 : bTitle.length ≤ 100000000) (R : Bool) (hR : law24_DamageRises aCols aRows aCursor aVisible aShape aTitle bCols bRows bCursor bVisible bShape bTitle = R) : ConV Tryz.prog 11 [ag [iv aCols, .slice aRowsq aRows.length aRowsk, iv aCursor.row, iv aCursor.col, bv aVisible, iv aShape, sv aTitle], ag [iv bCols, .slice bRowsq bRows.length bRowsk, iv bCursor.row, iv bCursor.col, bv bVisible, iv bShape, sv bTitle]] [sl cSlc aRowsq aRowsrs, rowsF cCel aRowsrs aRows, sl cSlc bRowsq bRowsrs, rowsF cCel bRowsrs bRows, sl cSpn (some ⟨0, 0, none⟩) tab0, sl cSpn (some ⟨1, 0, none⟩) tab1] (bv R) := by
  refine con_of_J (n := 173) Tryz.func11 rfl (by kernel_rfl) rfl rfl [(0, ag [iv aCols, .slice aRowsq aRows.length aRowsk, iv aCursor.row, iv aCursor.col, bv aVisible, iv aShape, sv aTitle]), (1, ag [iv bCols, .slice bRowsq bRows.length bRowsk, iv bCursor.row, iv bCursor.col, bv bVisible, iv bShape, sv bTitle])] ⟨rfl, rfl, trivial⟩ fun X hX hr hD => ?_
  replace hR := (law24_DamageRises.eq_1 ..).symm.trans hR
  have := hrowsaRowsrs.1
  have := hrowsbRowsrs.1
  refine sr 3 rfl ?_
  refine it rfl (tri_box (cs := [iv aCols, .slice aRowsq aRows.length aRowsk, iv aCursor.row, iv aCursor.col, bv aVisible, iv aShape, sv aTitle]) rfl rfl rfl) fun b1 => ?_
  refine it rfl (tri_box (cs := [iv bCols, .slice bRowsq bRows.length bRowsk, iv bCursor.row, iv bCursor.col, bv bVisible, iv bShape, sv bTitle]) rfl rfl rfl) fun b2 => ?_
  refine ip 1 0 [] (by kernel_rfl) ?_
  refine ie ?_
  refine J_seq ?_
  refine sr 2 rfl ?_
  refine ixc rfl (det_call (law24_wakes_c _ rfl) rfl rfl rfl rfl rfl (Foll.pick [4, 5] rfl)) ?_
  refine ip 1 0 [(14, bv (!law24_wakes))] (by kernel_rfl) ?_
  refine ie ?_
  refine J_if rfl (fun h3 => ?_) (fun h3 => ?_)
  · replace hR := bt hR h3
    refine sr 1 rfl ?_
    refine ip 1 0 [(4, bv false)] (by kernel_rfl) ?_
    refine ie ?_
    refine J_ret ?_
    subst hR
    exact ends_ret rfl ⟨hr, hD⟩ (by simp [hD]) (res1 rfl (resV_tmp rfl)) () (by rfl) (mk [false, false] rfl) Foll.nil
  · replace hR := bf hR h3
    refine J_skip ?_
    refine nx ?_
    refine sr 8 rfl ?_
    refine ix rfl (det_own_agg (us := [iv aCols, .slice aRowsq aRows.length aRowsk, iv aCursor.row, iv aCursor.col, bv aVisible, iv aShape, sv aTitle]) ty55 rfl rfl 1 rfl rfl rfl) ?_
    refine ix rfl (det_own_agg (us := [iv bCols, .slice bRowsq bRows.length bRowsk, iv bCursor.row, iv bCursor.col, bv bVisible, iv bShape, sv bTitle]) ty55 rfl rfl 0 rfl rfl rfl) ?_
    have hQ := bindVx hR; clear hR; obtain ⟨rdamageSpans, hrdamageSpans, hR⟩ := hQ
    refine it rfl (tri_callP (L2 := [bx b2 [iv bCols, .slice bRowsq bRows.length bRowsk, iv bCursor.row, iv bCursor.col, bv bVisible, iv bShape, sv bTitle] 55, bx b1 [iv aCols, .slice aRowsq aRows.length aRowsk, iv aCursor.row, iv aCursor.col, bv aVisible, iv aShape, sv aTitle] 55]) (damage_Spans_c aCols aRows aCursor aVisible aShape aTitle bCols bRows bCursor bVisible bShape bTitle aRowsq aRowsrs aRowsk bRowsq bRowsrs bRowsk hrowsaRowsrs (by first | omega | (simp only [List.length_take, List.length_drop, List.length_append, List.length_cons, List.length_nil, List.length_set, List.length_map]; omega) | decide) (by first | omega | (simp only [List.length_take, List.length_drop, List.length_append, List.length_cons, List.length_nil, List.length_set, List.length_map]; omega) | decide) hrowsbRowsrs (by first | omega | (simp only [List.length_take, List.length_drop, List.length_append, List.length_cons, List.length_nil, List.length_set, List.length_map]; omega) | decide) (by first | omega | (simp only [List.length_take, List.length_drop, List.length_append, List.length_cons, List.length_nil, List.length_set, List.length_map]; omega) | decide) (by first | omega | (simp only [List.length_nil]; omega)) (by first | omega | (simp only [List.length_nil]; omega)) rdamageSpans hrdamageSpans) rfl rfl rfl rfl rfl Foll.refl (List.Perm.refl _) (fun ⟨r4, hk5⟩ => (bx b2 [iv bCols, .slice bRowsq bRows.length bRowsk, iv bCursor.row, iv bCursor.col, bv bVisible, iv bShape, sv bTitle] 55 :: bx b1 [iv aCols, .slice aRowsq aRows.length aRowsk, iv aCursor.row, iv aCursor.col, bv aVisible, iv aShape, sv aTitle] 55 :: (vo cSp3 63 r4 rdamageSpans.1) ++ ([]))) (fun ⟨r4, hk5⟩ => permC [vo cSp3 63 r4 rdamageSpans.1, [bx b2 [iv bCols, .slice bRowsq bRows.length bRowsk, iv bCursor.row, iv bCursor.col, bv bVisible, iv bShape, sv bTitle] 55], [bx b1 [iv aCols, .slice aRowsq aRows.length aRowsk, iv aCursor.row, iv aCursor.col, bv aVisible, iv aShape, sv aTitle] 55]] [1, 2, 0] 3 rfl (by decide) (by first | rfl | simp only [List.flatten_cons, List.flatten_nil, List.append_nil, List.cons_append, List.nil_append, List.append_assoc]) [[bx b2 [iv bCols, .slice bRowsq bRows.length bRowsk, iv bCursor.row, iv bCursor.col, bv bVisible, iv bShape, sv bTitle] 55], [bx b1 [iv aCols, .slice aRowsq aRows.length aRowsk, iv aCursor.row, iv aCursor.col, bv aVisible, iv aShape, sv aTitle] 55], vo cSp3 63 r4 rdamageSpans.1] rfl (by first | rfl | simp only [List.flatten_cons, List.flatten_nil, List.append_nil, List.cons_append, List.nil_append, List.append_assoc]))) fun ⟨r4, hk5⟩ => ?_
    have := VOk.le hk5
    have := VOk.cap hk5
    have := damage_Spans_len aCols aRows aCursor aVisible aShape aTitle bCols bRows bCursor bVisible bShape bTitle; try rw [hrdamageSpans] at this
    refine JI_seal [bx b2 [iv bCols, .slice bRowsq bRows.length bRowsk, iv bCursor.row, iv bCursor.col, bv bVisible, iv bShape, sv bTitle] 55, bx b1 [iv aCols, .slice aRowsq aRows.length aRowsk, iv aCursor.row, iv aCursor.col, bv aVisible, iv aShape, sv aTitle] 55] [] (T := 63) (c := cSp3) (r := r4) (xs := rdamageSpans.1) hk5 (by first | rfl | simp only [List.cons_append, List.append_assoc, List.nil_append, List.append_nil]) ?_
    refine ip 5 0 [(5, .slice (va r4.q) rdamageSpans.1.length r4.k), (6, iv rdamageSpans.2)] (by kernel_rfl) ?_
    refine ie ?_
    refine J_seq ?_
    refine sr 2 rfl ?_
    refine ip 2 0 [(22, bv (!decide (rdamageSpans.2 = 0)))] (by kernel_rfl) ?_
    refine ie ?_
    refine J_if rfl (fun h6 => ?_) (fun h6 => ?_)
    · have h6p : ¬ rdamageSpans.2 = 0 := by simpa using h6
      replace hR := bt hR h6
      refine sr 4 rfl ?_
      refine ip 4 0 [(4, bv (decide ((rdamageSpans.1.length : Int) = 0)))] (by kernel_rfl) ?_
      refine ie ?_
      refine J_ret ?_
      subst hR
      exact ends_ret rfl ⟨hr, hD⟩ (by simp [hD]) (res1 rfl (resV_tmp rfl)) () (by rfl) (mk [false, false] rfl) Foll.nil
    · have h6p : ¬ (¬ rdamageSpans.2 = 0) := by simpa using h6
      replace hR := bf hR h6
      have hchk := damage_checked_ok (damage_Spans_ok hrdamageSpans (by simpa using h6))
      have hra := hchk.1.2.2.2.2
      have hrb := hchk.2.1.2.2.2.2
      have hc3 := hchk.2.2
      refine J_skip ?_
      refine nx ?_
      refine J_seq ?_
      refine sr 3 rfl ?_
      refine ip 3 0 [(26, .slice (va r4.q) rdamageSpans.1.length r4.k), (27, iv (rdamageSpans.1.length : Int)), (28, iv 0)] (by kernel_rfl) ?_
      refine ie ?_
      refine J_block ?_
      refine JL1 (fun (t28 : Nat) => t28 ≤ rdamageSpans.1.length ∧ law24_DamageRises_l2 aCols aRows bRows rdamageSpans (rdamageSpans.1.drop t28) t28 = R) (fun (t28 : Nat) => [(2, pt b1 0), (3, pt b2 0), (5, .slice (va r4.q) rdamageSpans.1.length r4.k), (26, .slice (va r4.q) rdamageSpans.1.length r4.k), (27, iv (rdamageSpans.1.length : Int)), (28, iv (t28 : Int))]) (fun (t28 : Nat) => [bx b2 [iv bCols, .slice bRowsq bRows.length bRowsk, iv bCursor.row, iv bCursor.col, bv bVisible, iv bShape, sv bTitle] 55, bx b1 [iv aCols, .slice aRowsq aRows.length aRowsk, iv aCursor.row, iv aCursor.col, bv aVisible, iv aShape, sv aTitle] 55]) (fun (t28 : Nat) => [sl cSp3 (va r4.q) rdamageSpans.1, sl cSlc aRowsq aRowsrs, rowsF cCel aRowsrs aRows, sl cSlc bRowsq bRowsrs, rowsF cCel bRowsrs bRows, sl cSpn (some ⟨0, 0, none⟩) tab0, sl cSpn (some ⟨1, 0, none⟩) tab1]) (fun (t28 : Nat) => rdamageSpans.1.length - t28) 0 ⟨(by omega), hR⟩ ⟨rfl, rfl, rfl, rfl, rfl, (by first | rfl | (simp only [List.length_set, List.length_append, List.length_cons, List.length_nil]; rfl) | simp | (simp; omega)), trivial⟩ (mk [true, true] rfl) Foll.refl ?_
      rintro t28 ⟨hm7, hR⟩
      refine sr 1 rfl ?_
      refine ip 1 0 [(29, bv (decide ((t28 : Int) < (rdamageSpans.1.length : Int))))] (by kernel_rfl) ?_
      refine ie ?_
      refine J_seq ?_
      refine J_if rfl (fun h8 => ?_) (fun h8 => ?_)
      · have h8p : (t28 : Int) < (rdamageSpans.1.length : Int) := by simpa using h8
        rw [dropc Sp3.zero (show t28 < rdamageSpans.1.length by omega)] at hR; replace hR := (law24_DamageRises_l2.eq_2 ..).symm.trans hR
        refine J_skip ?_
        refine nx ?_
        refine J_seq ?_
        refine J_block ?_
        refine sr 6 rfl ?_
        refine ip 1 5 [(30, iv (t28 : Int))] (by kernel_rfl) ?_
        refine JI_base 0 rfl (by omega) fun a9 hq10 => ?_
        refine ix rfl (det_ixq slt56 rfl rfl hq10 rfl t28 rfl (by omega)) ?_
        refine ix rfl (det_ld_agg (us := cSp3 (rdamageSpans.1.getD t28 Sp3.zero)) ty63 rfl rfl (at_slq (c := cSp3) (sz := 3) hq10 (fun _ => rfl) 0 rfl (gd Sp3.zero (by omega))) rfl) ?_
        refine it rfl (tri_alloc (cs := cSp3 Sp3.zero) zero63 rfl) fun b11 => ?_
        refine ip 1 1 [(7, iv (t28 : Int))] (by kernel_rfl) ?_
        refine it rfl (tri_store (us := cSp3 (rdamageSpans.1.getD t28 Sp3.zero)) (cs' := cSp3 (rdamageSpans.1.getD t28 Sp3.zero)) ty63 rfl rfl rfl 0 rfl rfl rfl rfl rfl rfl) fun _ => ?_
        refine ie ?_
        refine J_seq ?_
        refine sr 30 rfl ?_
        refine ip 1 29 [(33, pt b11 0)] (by kernel_rfl) ?_
        refine ix rfl (det_own_one (v := iv ((rdamageSpans.1.getD t28 Sp3.zero).row)) ty3 rfl rfl 0 rfl rfl) ?_
        refine ip 2 26 [(36, bv (decide ((rdamageSpans.1.getD t28 Sp3.zero).row < 0)))] (by kernel_rfl) ?_
        refine ior 7 19 36 43 (decide ((aRows.length : Int) ≤ (rdamageSpans.1.getD t28 Sp3.zero).row)) rfl (by kernel_rfl) (fun g12 => ?_) ?_
        · have g12p : ¬ ((rdamageSpans.1.getD t28 Sp3.zero).row < 0) := by simpa using g12
          refine ip 1 6 [(37, pt b11 0)] (by kernel_rfl) ?_
          refine ix rfl (det_own_one (v := iv ((rdamageSpans.1.getD t28 Sp3.zero).row)) ty3 rfl rfl 0 rfl rfl) ?_
          refine ip 1 4 [(39, pt b1 1)] (by kernel_rfl) ?_
          refine ix rfl (det_own_one (v := .slice aRowsq aRows.length aRowsk) ty51 rfl rfl 2 rfl rfl) ?_
          refine ip 3 0 [(43, bv (decide ((aRows.length : Int) ≤ (rdamageSpans.1.getD t28 Sp3.zero).row)))] (by kernel_rfl) ?_
          exact JI_end (armI 6 36 43 g12 Foll.refl (mk [true, true, true] rfl) rfl rfl rfl rfl rfl)
        refine ip 1 18 [(44, bv ((decide ((rdamageSpans.1.getD t28 Sp3.zero).row < 0)) || (decide ((aRows.length : Int) ≤ (rdamageSpans.1.getD t28 Sp3.zero).row))))] (by kernel_rfl) ?_
        refine ior 4 14 44 48 (decide ((rdamageSpans.1.getD t28 Sp3.zero).frm < 0)) rfl (by kernel_rfl) (fun g13 => ?_) ?_
        · have g13p : ¬ (((rdamageSpans.1.getD t28 Sp3.zero).row < 0) ∨ ((aRows.length : Int) ≤ (rdamageSpans.1.getD t28 Sp3.zero).row)) := by simpa using g13
          refine ip 1 3 [(45, pt b11 1)] (by kernel_rfl) ?_
          refine ix rfl (det_own_one (v := iv ((rdamageSpans.1.getD t28 Sp3.zero).frm)) ty3 rfl rfl 0 rfl rfl) ?_
          refine ip 2 0 [(48, bv (decide ((rdamageSpans.1.getD t28 Sp3.zero).frm < 0)))] (by kernel_rfl) ?_
          exact JI_end (armI 4 44 48 g13 Foll.refl (mk [true, true, true] rfl) rfl rfl rfl rfl rfl)
        refine ip 1 13 [(49, bv (((decide ((rdamageSpans.1.getD t28 Sp3.zero).row < 0)) || (decide ((aRows.length : Int) ≤ (rdamageSpans.1.getD t28 Sp3.zero).row))) || (decide ((rdamageSpans.1.getD t28 Sp3.zero).frm < 0))))] (by kernel_rfl) ?_
        refine ior 6 7 49 55 (decide (aCols < (rdamageSpans.1.getD t28 Sp3.zero).to)) rfl (by kernel_rfl) (fun g14 => ?_) ?_
        · have g14p : ¬ ((((rdamageSpans.1.getD t28 Sp3.zero).row < 0) ∨ ((aRows.length : Int) ≤ (rdamageSpans.1.getD t28 Sp3.zero).row)) ∨ ((rdamageSpans.1.getD t28 Sp3.zero).frm < 0)) := by simpa using g14
          refine ip 1 5 [(50, pt b11 2)] (by kernel_rfl) ?_
          refine ix rfl (det_own_one (v := iv ((rdamageSpans.1.getD t28 Sp3.zero).to)) ty3 rfl rfl 0 rfl rfl) ?_
          refine ip 1 3 [(52, pt b1 0)] (by kernel_rfl) ?_
          refine ix rfl (det_own_one (v := iv aCols) ty3 rfl rfl 2 rfl rfl) ?_
          refine ip 2 0 [(55, bv (decide (aCols < (rdamageSpans.1.getD t28 Sp3.zero).to)))] (by kernel_rfl) ?_
          exact JI_end (armI 6 49 55 g14 Foll.refl (mk [true, true, true] rfl) rfl rfl rfl rfl rfl)
        refine ip 1 6 [(56, bv ((((decide ((rdamageSpans.1.getD t28 Sp3.zero).row < 0)) || (decide ((aRows.length : Int) ≤ (rdamageSpans.1.getD t28 Sp3.zero).row))) || (decide ((rdamageSpans.1.getD t28 Sp3.zero).frm < 0))) || (decide (aCols < (rdamageSpans.1.getD t28 Sp3.zero).to))))] (by kernel_rfl) ?_
        refine ior 6 0 56 62 (decide ((rdamageSpans.1.getD t28 Sp3.zero).to ≤ (rdamageSpans.1.getD t28 Sp3.zero).frm)) rfl (by kernel_rfl) (fun g15 => ?_) ?_
        · have g15p : ¬ (((((rdamageSpans.1.getD t28 Sp3.zero).row < 0) ∨ ((aRows.length : Int) ≤ (rdamageSpans.1.getD t28 Sp3.zero).row)) ∨ ((rdamageSpans.1.getD t28 Sp3.zero).frm < 0)) ∨ (aCols < (rdamageSpans.1.getD t28 Sp3.zero).to)) := by simpa using g15
          refine ip 1 5 [(57, pt b11 1)] (by kernel_rfl) ?_
          refine ix rfl (det_own_one (v := iv ((rdamageSpans.1.getD t28 Sp3.zero).frm)) ty3 rfl rfl 0 rfl rfl) ?_
          refine ip 1 3 [(59, pt b11 2)] (by kernel_rfl) ?_
          refine ix rfl (det_own_one (v := iv ((rdamageSpans.1.getD t28 Sp3.zero).to)) ty3 rfl rfl 0 rfl rfl) ?_
          refine ip 2 0 [(62, bv (decide ((rdamageSpans.1.getD t28 Sp3.zero).to ≤ (rdamageSpans.1.getD t28 Sp3.zero).frm)))] (by kernel_rfl) ?_
          exact JI_end (armI 6 56 62 g15 Foll.refl (mk [true, true, true] rfl) rfl rfl rfl rfl rfl)
        refine ie ?_
        refine J_if rfl (fun h16 => ?_) (fun h16 => ?_)
        · have h16p : (((((rdamageSpans.1.getD t28 Sp3.zero).row < 0) ∨ ((aRows.length : Int) ≤ (rdamageSpans.1.getD t28 Sp3.zero).row)) ∨ ((rdamageSpans.1.getD t28 Sp3.zero).frm < 0)) ∨ (aCols < (rdamageSpans.1.getD t28 Sp3.zero).to)) ∨ ((rdamageSpans.1.getD t28 Sp3.zero).to ≤ (rdamageSpans.1.getD t28 Sp3.zero).frm) := by simpa using h16
          replace hR := bt hR h16
          refine sr 1 rfl ?_
          refine ip 1 0 [(4, bv false)] (by kernel_rfl) ?_
          refine ie ?_
          refine J_ret ?_
          subst hR
          exact ends_ret rfl ⟨hr, hD⟩ (by simp [hD]) (res1 rfl (resV_tmp rfl)) () (by rfl) (mk [false, false, false] rfl) Foll.nil
        · have h16p : ¬ ((((((rdamageSpans.1.getD t28 Sp3.zero).row < 0) ∨ ((aRows.length : Int) ≤ (rdamageSpans.1.getD t28 Sp3.zero).row)) ∨ ((rdamageSpans.1.getD t28 Sp3.zero).frm < 0)) ∨ (aCols < (rdamageSpans.1.getD t28 Sp3.zero).to)) ∨ ((rdamageSpans.1.getD t28 Sp3.zero).to ≤ (rdamageSpans.1.getD t28 Sp3.zero).frm)) := by simpa using h16
          replace hR := bf hR h16
          have hxa := hra (((rdamageSpans.1.getD t28 Sp3.zero).row).toNat) (by omega)
          have hxb := hrb (((rdamageSpans.1.getD t28 Sp3.zero).row).toNat) (by omega)
          refine J_skip ?_
          refine nx ?_
          refine J_seq ?_
          refine sd 35 rfl (by kernel_rfl) rfl ?_
          refine dp 3 32 [(65, bv (decide ((0 : Int) < (t28 : Int))))] (by kernel_rfl) ?_
          refine dand 32 0 65 97 ((decide ((rdamageSpans.1.getD t28 Sp3.zero).row < (rdamageSpans.1.getD (t28 - 1) Sp3.zero).row)) || ((decide ((rdamageSpans.1.getD (t28 - 1) Sp3.zero).row = (rdamageSpans.1.getD t28 Sp3.zero).row)) && (decide ((rdamageSpans.1.getD t28 Sp3.zero).frm ≤ (rdamageSpans.1.getD (t28 - 1) Sp3.zero).to)))) rfl (by kernel_rfl) (fun g17 => ?_) ?_
          · have g17p : (0 : Int) < (t28 : Int) := by simpa using g17
            refine dp 2 30 [(66, .slice (va r4.q) rdamageSpans.1.length r4.k), (67, iv (t28 : Int))] (by kernel_rfl) ?_
            refine dd rfl (det_sub64 rfl rfl rfl rfl (by omega)) ?_
            refine dd rfl (det_ixq slt56 rfl rfl hq10 rfl (t28 - 1) (by omega) (by omega)) ?_
            refine dp 1 27 [(70, pa (Addr.add a9 ((t28 - 1) * 3)))] (by kernel_rfl) ?_
            refine dd rfl (det_ld_one (v := iv ((rdamageSpans.1.getD (t28 - 1) Sp3.zero).row)) (us := [iv ((rdamageSpans.1.getD (t28 - 1) Sp3.zero).row)]) ty3 rfl rfl (at_part0 (at_slq (c := cSp3) (sz := 3) hq10 (fun _ => rfl) 0 rfl (gd Sp3.zero (by omega))) (ws := [iv ((rdamageSpans.1.getD (t28 - 1) Sp3.zero).row)]) 1 rfl) rfl) ?_
            refine dp 1 25 [(72, pt b11 0)] (by kernel_rfl) ?_
            refine dd rfl (det_own_one (v := iv ((rdamageSpans.1.getD t28 Sp3.zero).row)) ty3 rfl rfl 0 rfl rfl) ?_
            refine dp 2 22 [(75, bv (decide ((rdamageSpans.1.getD t28 Sp3.zero).row < (rdamageSpans.1.getD (t28 - 1) Sp3.zero).row)))] (by kernel_rfl) ?_
            refine dor 21 1 75 96 ((decide ((rdamageSpans.1.getD (t28 - 1) Sp3.zero).row = (rdamageSpans.1.getD t28 Sp3.zero).row)) && (decide ((rdamageSpans.1.getD t28 Sp3.zero).frm ≤ (rdamageSpans.1.getD (t28 - 1) Sp3.zero).to))) rfl (by kernel_rfl) (fun g18 => ?_) ?_
            · have g18p : ¬ ((rdamageSpans.1.getD t28 Sp3.zero).row < (rdamageSpans.1.getD (t28 - 1) Sp3.zero).row) := by simpa using g18
              refine dp 2 19 [(76, .slice (va r4.q) rdamageSpans.1.length r4.k), (77, iv (t28 : Int))] (by kernel_rfl) ?_
              refine dd rfl (det_sub64 rfl rfl rfl rfl (by omega)) ?_
              refine dd rfl (det_ixq slt56 rfl rfl hq10 rfl (t28 - 1) (by omega) (by omega)) ?_
              refine dp 1 16 [(80, pa (Addr.add a9 ((t28 - 1) * 3)))] (by kernel_rfl) ?_
              refine dd rfl (det_ld_one (v := iv ((rdamageSpans.1.getD (t28 - 1) Sp3.zero).row)) (us := [iv ((rdamageSpans.1.getD (t28 - 1) Sp3.zero).row)]) ty3 rfl rfl (at_part0 (at_slq (c := cSp3) (sz := 3) hq10 (fun _ => rfl) 0 rfl (gd Sp3.zero (by omega))) (ws := [iv ((rdamageSpans.1.getD (t28 - 1) Sp3.zero).row)]) 1 rfl) rfl) ?_
              refine dp 1 14 [(82, pt b11 0)] (by kernel_rfl) ?_
              refine dd rfl (det_own_one (v := iv ((rdamageSpans.1.getD t28 Sp3.zero).row)) ty3 rfl rfl 0 rfl rfl) ?_
              refine dp 2 11 [(85, bv (decide ((rdamageSpans.1.getD (t28 - 1) Sp3.zero).row = (rdamageSpans.1.getD t28 Sp3.zero).row)))] (by kernel_rfl) ?_
              refine dand 10 1 85 95 (decide ((rdamageSpans.1.getD t28 Sp3.zero).frm ≤ (rdamageSpans.1.getD (t28 - 1) Sp3.zero).to)) rfl (by kernel_rfl) (fun g19 => ?_) ?_
              · have g19p : (rdamageSpans.1.getD (t28 - 1) Sp3.zero).row = (rdamageSpans.1.getD t28 Sp3.zero).row := by simpa using g19
                refine dp 2 8 [(86, .slice (va r4.q) rdamageSpans.1.length r4.k), (87, iv (t28 : Int))] (by kernel_rfl) ?_
                refine dd rfl (det_sub64 rfl rfl rfl rfl (by omega)) ?_
                refine dd rfl (det_ixq slt56 rfl rfl hq10 rfl (t28 - 1) (by omega) (by omega)) ?_
                refine dp 1 5 [(90, pa ((Addr.add a9 ((t28 - 1) * 3)).add 2))] (by kernel_rfl) ?_
                refine dd rfl (det_ld_one (v := iv ((rdamageSpans.1.getD (t28 - 1) Sp3.zero).to)) (us := [iv ((rdamageSpans.1.getD (t28 - 1) Sp3.zero).to)]) ty3 rfl rfl (at_part (at_slq (c := cSp3) (sz := 3) hq10 (fun _ => rfl) 0 rfl (gd Sp3.zero (by omega))) (ws := [iv ((rdamageSpans.1.getD (t28 - 1) Sp3.zero).to)]) 2 1 rfl) rfl) ?_
                refine dp 1 3 [(92, pt b11 1)] (by kernel_rfl) ?_
                refine dd rfl (det_own_one (v := iv ((rdamageSpans.1.getD t28 Sp3.zero).frm)) ty3 rfl rfl 0 rfl rfl) ?_
                refine dp 2 0 [(95, bv (decide ((rdamageSpans.1.getD t28 Sp3.zero).frm ≤ (rdamageSpans.1.getD (t28 - 1) Sp3.zero).to)))] (by kernel_rfl) ?_
                exact JD_end (armD 10 85 95 g19 rfl rfl rfl rfl rfl)
              refine dp 1 0 [(96, bv ((decide ((rdamageSpans.1.getD (t28 - 1) Sp3.zero).row = (rdamageSpans.1.getD t28 Sp3.zero).row)) && (decide ((rdamageSpans.1.getD t28 Sp3.zero).frm ≤ (rdamageSpans.1.getD (t28 - 1) Sp3.zero).to))))] (by kernel_rfl) ?_
              exact JD_end (armD 12 75 96 g18 rfl rfl rfl rfl rfl)
            refine dp 1 0 [(97, bv ((decide ((rdamageSpans.1.getD t28 Sp3.zero).row < (rdamageSpans.1.getD (t28 - 1) Sp3.zero).row)) || ((decide ((rdamageSpans.1.getD (t28 - 1) Sp3.zero).row = (rdamageSpans.1.getD t28 Sp3.zero).row)) && (decide ((rdamageSpans.1.getD t28 Sp3.zero).frm ≤ (rdamageSpans.1.getD (t28 - 1) Sp3.zero).to)))))] (by kernel_rfl) ?_
            exact JD_end (armD 12 65 97 g17 rfl rfl rfl rfl rfl)
          refine de ?_
          refine J_if rfl (fun h20 => ?_) (fun h20 => ?_)
          · have h20p : ((0 : Int) < (t28 : Int)) ∧ (((rdamageSpans.1.getD t28 Sp3.zero).row < (rdamageSpans.1.getD (t28 - 1) Sp3.zero).row) ∨ (((rdamageSpans.1.getD (t28 - 1) Sp3.zero).row = (rdamageSpans.1.getD t28 Sp3.zero).row) ∧ ((rdamageSpans.1.getD t28 Sp3.zero).frm ≤ (rdamageSpans.1.getD (t28 - 1) Sp3.zero).to))) := by simpa using h20
            replace hR := bt hR h20
            refine sr 1 rfl ?_
            refine ip 1 0 [(4, bv false)] (by kernel_rfl) ?_
            refine ie ?_
            refine J_ret ?_
            subst hR
            exact ends_ret rfl ⟨hr, hD⟩ (by simp [hD]) (res1 rfl (resV_tmp rfl)) () (by rfl) (mk [false, false, false] rfl) Foll.nil
          · have h20p : ¬ (((0 : Int) < (t28 : Int)) ∧ (((rdamageSpans.1.getD t28 Sp3.zero).row < (rdamageSpans.1.getD (t28 - 1) Sp3.zero).row) ∨ (((rdamageSpans.1.getD (t28 - 1) Sp3.zero).row = (rdamageSpans.1.getD t28 Sp3.zero).row) ∧ ((rdamageSpans.1.getD t28 Sp3.zero).frm ≤ (rdamageSpans.1.getD (t28 - 1) Sp3.zero).to)))) := by simpa using h20
            replace hR := bf hR h20
            refine J_skip ?_
            refine nx ?_
            refine sd 14 rfl (by kernel_rfl) rfl ?_
            refine dp 1 13 [(98, pt b1 1)] (by kernel_rfl) ?_
            refine dd rfl (det_own_one (v := .slice aRowsq aRows.length aRowsk) ty51 rfl rfl 2 rfl rfl) ?_
            refine dp 1 11 [(100, pt b11 0)] (by kernel_rfl) ?_
            refine dd rfl (det_own_one (v := iv ((rdamageSpans.1.getD t28 Sp3.zero).row)) ty3 rfl rfl 0 rfl rfl) ?_
            refine JD_base 1 rfl (by omega) fun a21 hq22 => ?_
            refine JD_fact1 (rows_atD (k := ((rdamageSpans.1.getD t28 Sp3.zero).row).toNat) (d := (⟨none, 0, 0⟩ : Slc)) hrowsaRowsrs 2 rfl (by have := hrowsaRowsrs.1; omega)) ?_
            have := rows_cap hrowsaRowsrs (k := ((rdamageSpans.1.getD t28 Sp3.zero).row).toNat) (d := (⟨none, 0, 0⟩ : Slc)) (by have := hrowsaRowsrs.1; omega)
            refine dd rfl (det_ixq slt51 rfl rfl hq22 rfl (((rdamageSpans.1.getD t28 Sp3.zero).row).toNat) (by omega) (by omega)) ?_
            refine dd rfl (det_conv (det_ld_one (v := .slice ((aRowsrs.getD (((rdamageSpans.1.getD t28 Sp3.zero).row).toNat) (⟨none, 0, 0⟩ : Slc)).q) ((aRowsrs.getD (((rdamageSpans.1.getD t28 Sp3.zero).row).toNat) (⟨none, 0, 0⟩ : Slc)).n) ((aRowsrs.getD (((rdamageSpans.1.getD t28 Sp3.zero).row).toNat) (⟨none, 0, 0⟩ : Slc)).k)) (us := [.slice ((aRowsrs.getD (((rdamageSpans.1.getD t28 Sp3.zero).row).toNat) (⟨none, 0, 0⟩ : Slc)).q) ((aRowsrs.getD (((rdamageSpans.1.getD t28 Sp3.zero).row).toNat) (⟨none, 0, 0⟩ : Slc)).n) ((aRowsrs.getD (((rdamageSpans.1.getD t28 Sp3.zero).row).toNat) (⟨none, 0, 0⟩ : Slc)).k)]) ty74 rfl rfl (at_slq (c := cSlc) (sz := 1) hq22 (fun _ => rfl) 2 rfl (gd (⟨none, 0, 0⟩ : Slc) (by have := hrowsaRowsrs.1; omega))) rfl) (rows_val hrowsaRowsrs (by have := hrowsaRowsrs.1; omega))) ?_
            refine dp 1 7 [(104, pt b2 1)] (by kernel_rfl) ?_
            refine dd rfl (det_own_one (v := .slice bRowsq bRows.length bRowsk) ty51 rfl rfl 1 rfl rfl) ?_
            refine dp 1 5 [(106, pt b11 0)] (by kernel_rfl) ?_
            refine dd rfl (det_own_one (v := iv ((rdamageSpans.1.getD t28 Sp3.zero).row)) ty3 rfl rfl 0 rfl rfl) ?_
            refine JD_base 4 rfl (by omega) fun a23 hq24 => ?_
            refine JD_fact1 (rows_atD (k := ((rdamageSpans.1.getD t28 Sp3.zero).row).toNat) (d := (⟨none, 0, 0⟩ : Slc)) hrowsbRowsrs 5 rfl (by have := hrowsbRowsrs.1; omega)) ?_
            have := rows_cap hrowsbRowsrs (k := ((rdamageSpans.1.getD t28 Sp3.zero).row).toNat) (d := (⟨none, 0, 0⟩ : Slc)) (by have := hrowsbRowsrs.1; omega)
            refine dd rfl (det_ixq slt51 rfl rfl hq24 rfl (((rdamageSpans.1.getD t28 Sp3.zero).row).toNat) (by omega) (by omega)) ?_
            refine dd rfl (det_conv (det_ld_one (v := .slice ((bRowsrs.getD (((rdamageSpans.1.getD t28 Sp3.zero).row).toNat) (⟨none, 0, 0⟩ : Slc)).q) ((bRowsrs.getD (((rdamageSpans.1.getD t28 Sp3.zero).row).toNat) (⟨none, 0, 0⟩ : Slc)).n) ((bRowsrs.getD (((rdamageSpans.1.getD t28 Sp3.zero).row).toNat) (⟨none, 0, 0⟩ : Slc)).k)) (us := [.slice ((bRowsrs.getD (((rdamageSpans.1.getD t28 Sp3.zero).row).toNat) (⟨none, 0, 0⟩ : Slc)).q) ((bRowsrs.getD (((rdamageSpans.1.getD t28 Sp3.zero).row).toNat) (⟨none, 0, 0⟩ : Slc)).n) ((bRowsrs.getD (((rdamageSpans.1.getD t28 Sp3.zero).row).toNat) (⟨none, 0, 0⟩ : Slc)).k)]) ty74 rfl rfl (at_slq (c := cSlc) (sz := 1) hq24 (fun _ => rfl) 5 rfl (gd (⟨none, 0, 0⟩ : Slc) (by have := hrowsbRowsrs.1; omega))) rfl) (rows_val hrowsbRowsrs (by have := hrowsbRowsrs.1; omega))) ?_
            refine dp 2 0 [(9, .slice ((aRowsrs.getD (((rdamageSpans.1.getD t28 Sp3.zero).row).toNat) (⟨none, 0, 0⟩ : Slc)).q) ((aRows.getD (((rdamageSpans.1.getD t28 Sp3.zero).row).toNat) []).length) ((aRowsrs.getD (((rdamageSpans.1.getD t28 Sp3.zero).row).toNat) (⟨none, 0, 0⟩ : Slc)).k)), (10, .slice ((bRowsrs.getD (((rdamageSpans.1.getD t28 Sp3.zero).row).toNat) (⟨none, 0, 0⟩ : Slc)).q) ((bRows.getD (((rdamageSpans.1.getD t28 Sp3.zero).row).toNat) []).length) ((bRowsrs.getD (((rdamageSpans.1.getD t28 Sp3.zero).row).toNat) (⟨none, 0, 0⟩ : Slc)).k))] (by kernel_rfl) ?_
            refine de ?_
            refine sr 1 rfl ?_
            refine ip 1 0 [(11, bv false)] (by kernel_rfl) ?_
            refine ie ?_
            refine J_seq ?_
            refine sr 3 rfl ?_
            refine ip 1 2 [(110, pt b11 1)] (by kernel_rfl) ?_
            refine ix rfl (det_own_one (v := iv ((rdamageSpans.1.getD t28 Sp3.zero).frm)) ty3 rfl rfl 0 rfl rfl) ?_
            refine ip 1 0 [(12, iv ((rdamageSpans.1.getD t28 Sp3.zero).frm))] (by kernel_rfl) ?_
            refine ie ?_
            refine J_block ?_
            refine JL3 (fun (fu : Nat) (differs : Bool) (k : Int) => ((rdamageSpans.1.getD t28 Sp3.zero).to - k).toNat < fu ∧ law24_DamageRises_l3 aCols aRows bRows rdamageSpans t28 (law24_DamageRises_l2 aCols aRows bRows rdamageSpans (rdamageSpans.1.drop (t28 + 1))) fu differs k = R ∧ (rdamageSpans.1.getD t28 Sp3.zero).frm ≤ k) (fun (fu : Nat) (differs : Bool) (k : Int) => [(2, pt b1 0), (3, pt b2 0), (5, .slice (va r4.q) rdamageSpans.1.length r4.k), (8, pt b11 0), (9, .slice ((aRowsrs.getD (((rdamageSpans.1.getD t28 Sp3.zero).row).toNat) (⟨none, 0, 0⟩ : Slc)).q) ((aRows.getD (((rdamageSpans.1.getD t28 Sp3.zero).row).toNat) []).length) ((aRowsrs.getD (((rdamageSpans.1.getD t28 Sp3.zero).row).toNat) (⟨none, 0, 0⟩ : Slc)).k)), (10, .slice ((bRowsrs.getD (((rdamageSpans.1.getD t28 Sp3.zero).row).toNat) (⟨none, 0, 0⟩ : Slc)).q) ((bRows.getD (((rdamageSpans.1.getD t28 Sp3.zero).row).toNat) []).length) ((bRowsrs.getD (((rdamageSpans.1.getD t28 Sp3.zero).row).toNat) (⟨none, 0, 0⟩ : Slc)).k)), (11, bv differs), (12, iv k), (26, .slice (va r4.q) rdamageSpans.1.length r4.k), (27, iv (rdamageSpans.1.length : Int)), (28, iv (t28 : Int))]) (fun (fu : Nat) (differs : Bool) (k : Int) => [bx b11 (cSp3 (rdamageSpans.1.getD t28 Sp3.zero)) 63, bx b2 [iv bCols, .slice bRowsq bRows.length bRowsk, iv bCursor.row, iv bCursor.col, bv bVisible, iv bShape, sv bTitle] 55, bx b1 [iv aCols, .slice aRowsq aRows.length aRowsk, iv aCursor.row, iv aCursor.col, bv aVisible, iv aShape, sv aTitle] 55]) (fun (fu : Nat) (differs : Bool) (k : Int) => [sl cCel ((bRowsrs.getD (((rdamageSpans.1.getD t28 Sp3.zero).row).toNat) (⟨none, 0, 0⟩ : Slc)).q) (bRows.getD (((rdamageSpans.1.getD t28 Sp3.zero).row).toNat) []), sl cCel ((aRowsrs.getD (((rdamageSpans.1.getD t28 Sp3.zero).row).toNat) (⟨none, 0, 0⟩ : Slc)).q) (aRows.getD (((rdamageSpans.1.getD t28 Sp3.zero).row).toNat) []), sl cSp3 (va r4.q) rdamageSpans.1, sl cSlc aRowsq aRowsrs, rowsF cCel aRowsrs aRows, sl cSlc bRowsq bRowsrs, rowsF cCel bRowsrs bRows, sl cSpn (some ⟨0, 0, none⟩) tab0, sl cSpn (some ⟨1, 0, none⟩) tab1]) (fun (fu : Nat) (differs : Bool) (k : Int) => fu) (((rdamageSpans.1.getD t28 Sp3.zero).to - ((rdamageSpans.1.getD t28 Sp3.zero).frm)).toNat + 1) false ((rdamageSpans.1.getD t28 Sp3.zero).frm) ⟨(Nat.lt_succ_self _), hR, (by omega)⟩ ⟨rfl, rfl, rfl, rfl, rfl, rfl, (by first | rfl | (simp only [List.length_set, List.length_append, List.length_cons, List.length_nil]; rfl) | simp | (simp; omega)), (by first | rfl | (simp only [List.length_set, List.length_append, List.length_cons, List.length_nil]; rfl) | simp | (simp; omega)), rfl, rfl, rfl, trivial⟩ (mk [true, true, true] rfl) Foll.refl ?_
            rintro fu differs k ⟨hm25, hR, hk⟩
            obtain ⟨fu1, rfl⟩ : ∃ m, fu = m + 1 := ⟨fu - 1, by omega⟩
            replace hR := (law24_DamageRises_l3.eq_2 ..).symm.trans hR
            refine J_seq ?_
            refine sr 4 rfl ?_
            refine ip 2 2 [(112, iv k), (113, pt b11 2)] (by kernel_rfl) ?_
            refine ix rfl (det_own_one (v := iv ((rdamageSpans.1.getD t28 Sp3.zero).to)) ty3 rfl rfl 0 rfl rfl) ?_
            refine ip 1 0 [(115, bv (decide (k < (rdamageSpans.1.getD t28 Sp3.zero).to)))] (by kernel_rfl) ?_
            refine ie ?_
            refine J_if rfl (fun h26 => ?_) (fun h26 => ?_)
            · have h26p : k < (rdamageSpans.1.getD t28 Sp3.zero).to := by simpa using h26
              replace hR := bt hR h26
              refine J_skip ?_
              refine nx ?_
              refine J_seq ?_
              refine J_block ?_
              refine J_draw 13 rfl (by kernel_rfl) rfl ?_
              refine dp 2 11 [(119, bv differs)] (by kernel_rfl) ?_
              refine dor 10 1 119 129 (!(decide (((aRows.getD (((rdamageSpans.1.getD t28 Sp3.zero).row).toNat) []).getD ((k).toNat) Cel.zero) = ((bRows.getD (((rdamageSpans.1.getD t28 Sp3.zero).row).toNat) []).getD ((k).toNat) Cel.zero)))) rfl (by kernel_rfl) (fun g27 => ?_) ?_
              · refine dp 2 8 [(120, .slice ((aRowsrs.getD (((rdamageSpans.1.getD t28 Sp3.zero).row).toNat) (⟨none, 0, 0⟩ : Slc)).q) ((aRows.getD (((rdamageSpans.1.getD t28 Sp3.zero).row).toNat) []).length) ((aRowsrs.getD (((rdamageSpans.1.getD t28 Sp3.zero).row).toNat) (⟨none, 0, 0⟩ : Slc)).k)), (121, iv k)] (by kernel_rfl) ?_
                refine JD_base 1 rfl (by omega) fun a28 hq29 => ?_
                refine dd rfl (det_ixq slt74 rfl rfl hq29 rfl ((k).toNat) (by omega) (by omega)) ?_
                refine dd rfl (det_ld_agg (us := cCel ((aRows.getD (((rdamageSpans.1.getD t28 Sp3.zero).row).toNat) []).getD ((k).toNat) Cel.zero)) ty79 rfl rfl (at_slq (c := cCel) (sz := 12) hq29 (fun _ => rfl) 1 rfl (gd Cel.zero (by omega))) rfl) ?_
                refine dp 2 4 [(124, .slice ((bRowsrs.getD (((rdamageSpans.1.getD t28 Sp3.zero).row).toNat) (⟨none, 0, 0⟩ : Slc)).q) ((bRows.getD (((rdamageSpans.1.getD t28 Sp3.zero).row).toNat) []).length) ((bRowsrs.getD (((rdamageSpans.1.getD t28 Sp3.zero).row).toNat) (⟨none, 0, 0⟩ : Slc)).k)), (125, iv k)] (by kernel_rfl) ?_
                refine JD_base 0 rfl (by omega) fun a30 hq31 => ?_
                refine dd rfl (det_ixq slt74 rfl rfl hq31 rfl ((k).toNat) (by omega) (by omega)) ?_
                refine dd rfl (det_ld_agg (us := cCel ((bRows.getD (((rdamageSpans.1.getD t28 Sp3.zero).row).toNat) []).getD ((k).toNat) Cel.zero)) ty79 rfl rfl (at_slq (c := cCel) (sz := 12) hq31 (fun _ => rfl) 0 rfl (gd Cel.zero (by omega))) rfl) ?_
                refine dd rfl (det_nes (a := ((aRows.getD (((rdamageSpans.1.getD t28 Sp3.zero).row).toNat) []).getD ((k).toNat) Cel.zero)) (b := ((bRows.getD (((rdamageSpans.1.getD t28 Sp3.zero).row).toNat) []).getD ((k).toNat) Cel.zero)) eqt79 rfl rfl rfl) ?_
                refine dp 1 0 [(129, bv (!(decide (((aRows.getD (((rdamageSpans.1.getD t28 Sp3.zero).row).toNat) []).getD ((k).toNat) Cel.zero) = ((bRows.getD (((rdamageSpans.1.getD t28 Sp3.zero).row).toNat) []).getD ((k).toNat) Cel.zero)))))] (by kernel_rfl) ?_
                exact JD_end (armD 11 119 129 g27 rfl rfl rfl rfl rfl)
              refine dp 1 0 [(11, bv (differs || (!(decide (((aRows.getD (((rdamageSpans.1.getD t28 Sp3.zero).row).toNat) []).getD ((k).toNat) Cel.zero) = ((bRows.getD (((rdamageSpans.1.getD t28 Sp3.zero).row).toNat) []).getD ((k).toNat) Cel.zero))))))] (by kernel_rfl) ?_
              refine JD_end ?_
              refine nx ?_
              refine J_region 3 rfl ?_
              refine ip 1 2 [(116, iv k)] (by kernel_rfl) ?_
              refine ix rfl (det_add64 rfl rfl rfl rfl (by omega)) ?_
              refine ip 1 0 [(12, iv (k + 1))] (by kernel_rfl) ?_
              refine JI_end ?_
              exact againL3 (z1 := (fu1 + 1)) (z2 := differs) (z3 := k) fu1 (differs || (!(decide (((aRows.getD (((rdamageSpans.1.getD t28 Sp3.zero).row).toNat) []).getD ((k).toNat) Cel.zero) = ((bRows.getD (((rdamageSpans.1.getD t28 Sp3.zero).row).toNat) []).getD ((k).toNat) Cel.zero))))) (k + 1) ⟨(by omega), hR, (by omega)⟩ (Nat.lt_succ_self _) ⟨rfl, rfl, rfl, rfl, rfl, rfl, (by first | rfl | (simp only [List.length_set, List.length_append, List.length_cons, List.length_nil]; rfl) | simp | (simp; omega)), (by first | rfl | (simp only [List.length_set, List.length_append, List.length_cons, List.length_nil]; rfl) | simp | (simp; omega)), rfl, rfl, rfl, trivial⟩ (mk [true, true, true] rfl) Foll.refl
            · have h26p : ¬ (k < (rdamageSpans.1.getD t28 Sp3.zero).to) := by simpa using h26
              replace hR := bf hR h26
              refine J_exit ?_
              refine nx ?_
              refine sd 42 rfl (by kernel_rfl) rfl ?_
              refine dp 3 39 [(132, bv (!differs))] (by kernel_rfl) ?_
              refine dor 19 20 132 151 ((decide ((0 : Int) < (rdamageSpans.1.getD t28 Sp3.zero).frm)) && (!(decide (((aRows.getD (((rdamageSpans.1.getD t28 Sp3.zero).row).toNat) []).getD (((rdamageSpans.1.getD t28 Sp3.zero).frm).toNat - 1) Cel.zero) = ((bRows.getD (((rdamageSpans.1.getD t28 Sp3.zero).row).toNat) []).getD (((rdamageSpans.1.getD t28 Sp3.zero).frm).toNat - 1) Cel.zero))))) rfl (by kernel_rfl) (fun g32 => ?_) ?_
              · refine dp 1 18 [(133, pt b11 1)] (by kernel_rfl) ?_
                refine dd rfl (det_own_one (v := iv ((rdamageSpans.1.getD t28 Sp3.zero).frm)) ty3 rfl rfl 0 rfl rfl) ?_
                refine dp 2 15 [(136, bv (decide ((0 : Int) < (rdamageSpans.1.getD t28 Sp3.zero).frm)))] (by kernel_rfl) ?_
                refine dand 14 1 136 150 (!(decide (((aRows.getD (((rdamageSpans.1.getD t28 Sp3.zero).row).toNat) []).getD (((rdamageSpans.1.getD t28 Sp3.zero).frm).toNat - 1) Cel.zero) = ((bRows.getD (((rdamageSpans.1.getD t28 Sp3.zero).row).toNat) []).getD (((rdamageSpans.1.getD t28 Sp3.zero).frm).toNat - 1) Cel.zero)))) rfl (by kernel_rfl) (fun g33 => ?_) ?_
                · have g33p : (0 : Int) < (rdamageSpans.1.getD t28 Sp3.zero).frm := by simpa using g33
                  refine dp 2 12 [(137, .slice ((aRowsrs.getD (((rdamageSpans.1.getD t28 Sp3.zero).row).toNat) (⟨none, 0, 0⟩ : Slc)).q) ((aRows.getD (((rdamageSpans.1.getD t28 Sp3.zero).row).toNat) []).length) ((aRowsrs.getD (((rdamageSpans.1.getD t28 Sp3.zero).row).toNat) (⟨none, 0, 0⟩ : Slc)).k)), (138, pt b11 1)] (by kernel_rfl) ?_
                  refine dd rfl (det_own_one (v := iv ((rdamageSpans.1.getD t28 Sp3.zero).frm)) ty3 rfl rfl 0 rfl rfl) ?_
                  refine dd rfl (det_sub64 rfl rfl rfl rfl (by omega)) ?_
                  refine JD_base 1 rfl (by omega) fun a34 hq35 => ?_
                  refine dd rfl (det_ixq slt74 rfl rfl hq35 rfl (((rdamageSpans.1.getD t28 Sp3.zero).frm).toNat - 1) (by omega) (by omega)) ?_
                  refine dd rfl (det_ld_agg (us := cCel ((aRows.getD (((rdamageSpans.1.getD t28 Sp3.zero).row).toNat) []).getD (((rdamageSpans.1.getD t28 Sp3.zero).frm).toNat - 1) Cel.zero)) ty79 rfl rfl (at_slq (c := cCel) (sz := 12) hq35 (fun _ => rfl) 1 rfl (gd Cel.zero (by omega))) rfl) ?_
                  refine dp 2 6 [(143, .slice ((bRowsrs.getD (((rdamageSpans.1.getD t28 Sp3.zero).row).toNat) (⟨none, 0, 0⟩ : Slc)).q) ((bRows.getD (((rdamageSpans.1.getD t28 Sp3.zero).row).toNat) []).length) ((bRowsrs.getD (((rdamageSpans.1.getD t28 Sp3.zero).row).toNat) (⟨none, 0, 0⟩ : Slc)).k)), (144, pt b11 1)] (by kernel_rfl) ?_
                  refine dd rfl (det_own_one (v := iv ((rdamageSpans.1.getD t28 Sp3.zero).frm)) ty3 rfl rfl 0 rfl rfl) ?_
                  refine dd rfl (det_sub64 rfl rfl rfl rfl (by omega)) ?_
                  refine JD_base 0 rfl (by omega) fun a36 hq37 => ?_
                  refine dd rfl (det_ixq slt74 rfl rfl hq37 rfl (((rdamageSpans.1.getD t28 Sp3.zero).frm).toNat - 1) (by omega) (by omega)) ?_
                  refine dd rfl (det_ld_agg (us := cCel ((bRows.getD (((rdamageSpans.1.getD t28 Sp3.zero).row).toNat) []).getD (((rdamageSpans.1.getD t28 Sp3.zero).frm).toNat - 1) Cel.zero)) ty79 rfl rfl (at_slq (c := cCel) (sz := 12) hq37 (fun _ => rfl) 0 rfl (gd Cel.zero (by omega))) rfl) ?_
                  refine dd rfl (det_nes (a := ((aRows.getD (((rdamageSpans.1.getD t28 Sp3.zero).row).toNat) []).getD (((rdamageSpans.1.getD t28 Sp3.zero).frm).toNat - 1) Cel.zero)) (b := ((bRows.getD (((rdamageSpans.1.getD t28 Sp3.zero).row).toNat) []).getD (((rdamageSpans.1.getD t28 Sp3.zero).frm).toNat - 1) Cel.zero)) eqt79 rfl rfl rfl) ?_
                  refine dp 1 0 [(150, bv (!(decide (((aRows.getD (((rdamageSpans.1.getD t28 Sp3.zero).row).toNat) []).getD (((rdamageSpans.1.getD t28 Sp3.zero).frm).toNat - 1) Cel.zero) = ((bRows.getD (((rdamageSpans.1.getD t28 Sp3.zero).row).toNat) []).getD (((rdamageSpans.1.getD t28 Sp3.zero).frm).toNat - 1) Cel.zero)))))] (by kernel_rfl) ?_
                  exact JD_end (armD 15 136 150 g33 rfl rfl rfl rfl rfl)
                refine dp 1 0 [(151, bv ((decide ((0 : Int) < (rdamageSpans.1.getD t28 Sp3.zero).frm)) && (!(decide (((aRows.getD (((rdamageSpans.1.getD t28 Sp3.zero).row).toNat) []).getD (((rdamageSpans.1.getD t28 Sp3.zero).frm).toNat - 1) Cel.zero) = ((bRows.getD (((rdamageSpans.1.getD t28 Sp3.zero).row).toNat) []).getD (((rdamageSpans.1.getD t28 Sp3.zero).frm).toNat - 1) Cel.zero))))))] (by kernel_rfl) ?_
                exact JD_end (armD 6 132 151 g32 rfl rfl rfl rfl rfl)
              refine dp 1 19 [(152, bv ((!differs) || ((decide ((0 : Int) < (rdamageSpans.1.getD t28 Sp3.zero).frm)) && (!(decide (((aRows.getD (((rdamageSpans.1.getD t28 Sp3.zero).row).toNat) []).getD (((rdamageSpans.1.getD t28 Sp3.zero).frm).toNat - 1) Cel.zero) = ((bRows.getD (((rdamageSpans.1.getD t28 Sp3.zero).row).toNat) []).getD (((rdamageSpans.1.getD t28 Sp3.zero).frm).toNat - 1) Cel.zero)))))))] (by kernel_rfl) ?_
              refine dor 19 0 152 171 ((decide ((rdamageSpans.1.getD t28 Sp3.zero).to < aCols)) && (!(decide (((aRows.getD (((rdamageSpans.1.getD t28 Sp3.zero).row).toNat) []).getD (((rdamageSpans.1.getD t28 Sp3.zero).to).toNat) Cel.zero) = ((bRows.getD (((rdamageSpans.1.getD t28 Sp3.zero).row).toNat) []).getD (((rdamageSpans.1.getD t28 Sp3.zero).to).toNat) Cel.zero))))) rfl (by kernel_rfl) (fun g38 => ?_) ?_
              · have g38p := g38; try simp only [Bool.and_eq_true, Bool.or_eq_true, Bool.and_eq_false_iff, Bool.or_eq_false_iff, Bool.not_eq_true', Bool.not_eq_false', decide_eq_true_eq, decide_eq_false_iff_not] at g38p
                refine dp 1 18 [(153, pt b11 2)] (by kernel_rfl) ?_
                refine dd rfl (det_own_one (v := iv ((rdamageSpans.1.getD t28 Sp3.zero).to)) ty3 rfl rfl 0 rfl rfl) ?_
                refine dp 1 16 [(155, pt b1 0)] (by kernel_rfl) ?_
                refine dd rfl (det_own_one (v := iv aCols) ty3 rfl rfl 2 rfl rfl) ?_
                refine dp 2 13 [(158, bv (decide ((rdamageSpans.1.getD t28 Sp3.zero).to < aCols)))] (by kernel_rfl) ?_
                refine dand 12 1 158 170 (!(decide (((aRows.getD (((rdamageSpans.1.getD t28 Sp3.zero).row).toNat) []).getD (((rdamageSpans.1.getD t28 Sp3.zero).to).toNat) Cel.zero) = ((bRows.getD (((rdamageSpans.1.getD t28 Sp3.zero).row).toNat) []).getD (((rdamageSpans.1.getD t28 Sp3.zero).to).toNat) Cel.zero)))) rfl (by kernel_rfl) (fun g39 => ?_) ?_
                · have g39p : (rdamageSpans.1.getD t28 Sp3.zero).to < aCols := by simpa using g39
                  refine dp 2 10 [(159, .slice ((aRowsrs.getD (((rdamageSpans.1.getD t28 Sp3.zero).row).toNat) (⟨none, 0, 0⟩ : Slc)).q) ((aRows.getD (((rdamageSpans.1.getD t28 Sp3.zero).row).toNat) []).length) ((aRowsrs.getD (((rdamageSpans.1.getD t28 Sp3.zero).row).toNat) (⟨none, 0, 0⟩ : Slc)).k)), (160, pt b11 2)] (by kernel_rfl) ?_
                  refine dd rfl (det_own_one (v := iv ((rdamageSpans.1.getD t28 Sp3.zero).to)) ty3 rfl rfl 0 rfl rfl) ?_
                  refine JD_base 1 rfl (by omega) fun a40 hq41 => ?_
                  refine dd rfl (det_ixq slt74 rfl rfl hq41 rfl (((rdamageSpans.1.getD t28 Sp3.zero).to).toNat) (by omega) (by omega)) ?_
                  refine dd rfl (det_ld_agg (us := cCel ((aRows.getD (((rdamageSpans.1.getD t28 Sp3.zero).row).toNat) []).getD (((rdamageSpans.1.getD t28 Sp3.zero).to).toNat) Cel.zero)) ty79 rfl rfl (at_slq (c := cCel) (sz := 12) hq41 (fun _ => rfl) 1 rfl (gd Cel.zero (by omega))) rfl) ?_
                  refine dp 2 5 [(164, .slice ((bRowsrs.getD (((rdamageSpans.1.getD t28 Sp3.zero).row).toNat) (⟨none, 0, 0⟩ : Slc)).q) ((bRows.getD (((rdamageSpans.1.getD t28 Sp3.zero).row).toNat) []).length) ((bRowsrs.getD (((rdamageSpans.1.getD t28 Sp3.zero).row).toNat) (⟨none, 0, 0⟩ : Slc)).k)), (165, pt b11 2)] (by kernel_rfl) ?_
                  refine dd rfl (det_own_one (v := iv ((rdamageSpans.1.getD t28 Sp3.zero).to)) ty3 rfl rfl 0 rfl rfl) ?_
                  refine JD_base 0 rfl (by omega) fun a42 hq43 => ?_
                  refine dd rfl (det_ixq slt74 rfl rfl hq43 rfl (((rdamageSpans.1.getD t28 Sp3.zero).to).toNat) (by omega) (by omega)) ?_
                  refine dd rfl (det_ld_agg (us := cCel ((bRows.getD (((rdamageSpans.1.getD t28 Sp3.zero).row).toNat) []).getD (((rdamageSpans.1.getD t28 Sp3.zero).to).toNat) Cel.zero)) ty79 rfl rfl (at_slq (c := cCel) (sz := 12) hq43 (fun _ => rfl) 0 rfl (gd Cel.zero (by omega))) rfl) ?_
                  refine dd rfl (det_nes (a := ((aRows.getD (((rdamageSpans.1.getD t28 Sp3.zero).row).toNat) []).getD (((rdamageSpans.1.getD t28 Sp3.zero).to).toNat) Cel.zero)) (b := ((bRows.getD (((rdamageSpans.1.getD t28 Sp3.zero).row).toNat) []).getD (((rdamageSpans.1.getD t28 Sp3.zero).to).toNat) Cel.zero)) eqt79 rfl rfl rfl) ?_
                  refine dp 1 0 [(170, bv (!(decide (((aRows.getD (((rdamageSpans.1.getD t28 Sp3.zero).row).toNat) []).getD (((rdamageSpans.1.getD t28 Sp3.zero).to).toNat) Cel.zero) = ((bRows.getD (((rdamageSpans.1.getD t28 Sp3.zero).row).toNat) []).getD (((rdamageSpans.1.getD t28 Sp3.zero).to).toNat) Cel.zero)))))] (by kernel_rfl) ?_
                  exact JD_end (armD 13 158 170 g39 rfl rfl rfl rfl rfl)
                refine dp 1 0 [(171, bv ((decide ((rdamageSpans.1.getD t28 Sp3.zero).to < aCols)) && (!(decide (((aRows.getD (((rdamageSpans.1.getD t28 Sp3.zero).row).toNat) []).getD (((rdamageSpans.1.getD t28 Sp3.zero).to).toNat) Cel.zero) = ((bRows.getD (((rdamageSpans.1.getD t28 Sp3.zero).row).toNat) []).getD (((rdamageSpans.1.getD t28 Sp3.zero).to).toNat) Cel.zero))))))] (by kernel_rfl) ?_
                exact JD_end (armD 8 152 171 g38 rfl rfl rfl rfl rfl)
              refine de ?_
              refine J_if rfl (fun h44 => ?_) (fun h44 => ?_)
              · have h44p := h44; try simp only [Bool.and_eq_true, Bool.or_eq_true, Bool.and_eq_false_iff, Bool.or_eq_false_iff, Bool.not_eq_true', Bool.not_eq_false', decide_eq_true_eq, decide_eq_false_iff_not] at h44p
                replace hR := bt hR h44
                refine sr 1 rfl ?_
                refine ip 1 0 [(4, bv false)] (by kernel_rfl) ?_
                refine ie ?_
                refine J_ret ?_
                subst hR
                exact ends_ret rfl ⟨hr, hD⟩ (by simp [hD]) (res1 rfl (resV_tmp rfl)) () (by rfl) (mk [false, false, false] rfl) Foll.nil
              · have h44p := h44; try simp only [Bool.and_eq_true, Bool.or_eq_true, Bool.and_eq_false_iff, Bool.or_eq_false_iff, Bool.not_eq_true', Bool.not_eq_false', decide_eq_true_eq, decide_eq_false_iff_not] at h44p
                replace hR := bf hR h44
                refine J_skip ?_
                refine nx ?_
                refine J_region 2 rfl ?_
                refine ix rfl (det_add64 rfl rfl rfl rfl (by omega)) ?_
                refine ip 1 0 [(28, iv ((t28 : Int) + 1))] (by kernel_rfl) ?_
                refine JI_end ?_
                exact againL1 (z1 := t28) (t28 + 1) ⟨(by omega), hR⟩ (by (try dsimp only); omega) ⟨rfl, rfl, rfl, rfl, rfl, (by first | rfl | (simp only [List.length_set, List.length_append, List.length_cons, List.length_nil]; rfl) | simp | (simp; omega)), trivial⟩ (mk [false, true, true] rfl) (Foll.pick [2, 3, 4, 5, 6, 7, 8] rfl)
      · have h8p : ¬ ((t28 : Int) < (rdamageSpans.1.length : Int)) := by simpa using h8
        rw [dropn h8p] at hR; replace hR := (law24_DamageRises_l2.eq_1 ..).symm.trans hR
        refine J_exit ?_
        refine nx ?_
        refine sr 1 rfl ?_
        refine ip 1 0 [(4, bv true)] (by kernel_rfl) ?_
        refine ie ?_
        refine J_ret ?_
        subst hR
        exact ends_ret rfl ⟨hr, hD⟩ (by simp [hD]) (res1 rfl (resV_tmp rfl)) () (by rfl) (mk [false, false] rfl) Foll.nil

def law24_DamageTriangle_1_1 (s : Sp3) (p1 : Int) (p2 : Int) : Bool :=
  (((decide (s.row = p1)) && (decide (s.frm ≤ p2))) && (decide (p2 < s.to)))

set_option maxRecDepth 100000 in
theorem law24_DamageTriangle_1_1_c (s : Sp3) (p1 : Int) (p2 : Int) (p1b : Nat) (p2b : Nat) (R : Bool) (hR : law24_DamageTriangle_1_1 s p1 p2 = R) : Con Tryz.prog 43 [ag (cSp3 s), pt p1b 0, pt p2b 0] [bx p1b [iv p1] 3, bx p2b [iv p2] 3] [] (Unit) (fun x => bv R) (fun x => [bx p1b [iv p1] 3, bx p2b [iv p2] 3]) (fun x => []) := by
  refine con_of_J (n := 21) Tryz.func43 rfl (by kernel_rfl) rfl rfl [(0, ag (cSp3 s)), (1, pt p1b 0), (2, pt p2b 0)] ⟨rfl, rfl, rfl, trivial⟩ fun X hX hr hD => ?_
  replace hR := (law24_DamageTriangle_1_1.eq_1 ..).symm.trans hR
  refine sr 2 rfl ?_
  refine it rfl (tri_box (cs := cSp3 s) rfl rfl rfl) fun b1 => ?_
  refine ip 1 0 [] (by kernel_rfl) ?_
  refine ie ?_
  refine sr 17 rfl ?_
  refine ip 1 16 [(5, pt b1 0)] (by kernel_rfl) ?_
  refine ix rfl (det_own_one (v := iv s.row) ty3 rfl rfl 0 rfl rfl) ?_
  refine ix rfl (det_own_one (v := iv p1) ty3 rfl rfl 1 rfl rfl) ?_
  refine ip 2 12 [(9, bv (decide (s.row = p1)))] (by kernel_rfl) ?_
  refine iand 5 7 9 14 (decide (s.frm ≤ p2)) rfl (by kernel_rfl) (fun g2 => ?_) ?_
  · have g2p : s.row = p1 := by simpa using g2
    refine ix rfl (det_own_one (v := iv p2) ty3 rfl rfl 2 rfl rfl) ?_
    refine ip 1 3 [(11, pt b1 1)] (by kernel_rfl) ?_
    refine ix rfl (det_own_one (v := iv s.frm) ty3 rfl rfl 0 rfl rfl) ?_
    refine ip 2 0 [(14, bv (decide (s.frm ≤ p2)))] (by kernel_rfl) ?_
    exact JI_end (armI 5 9 14 g2 Foll.nil (mk [true, true, true] rfl) rfl rfl rfl rfl rfl)
  refine ip 1 6 [(15, bv ((decide (s.row = p1)) && (decide (s.frm ≤ p2))))] (by kernel_rfl) ?_
  refine iand 5 1 15 20 (decide (p2 < s.to)) rfl (by kernel_rfl) (fun g3 => ?_) ?_
  · have g3p : (s.row = p1) ∧ (s.frm ≤ p2) := by simpa using g3
    refine ix rfl (det_own_one (v := iv p2) ty3 rfl rfl 2 rfl rfl) ?_
    refine ip 1 3 [(17, pt b1 2)] (by kernel_rfl) ?_
    refine ix rfl (det_own_one (v := iv s.to) ty3 rfl rfl 0 rfl rfl) ?_
    refine ip 2 0 [(20, bv (decide (p2 < s.to)))] (by kernel_rfl) ?_
    exact JI_end (armI 5 15 20 g3 Foll.nil (mk [true, true, true] rfl) rfl rfl rfl rfl rfl)
  refine ip 1 0 [(4, bv (((decide (s.row = p1)) && (decide (s.frm ≤ p2))) && (decide (p2 < s.to))))] (by kernel_rfl) ?_
  refine ie ?_
  refine J_ret ?_
  subst hR
  exact ends_ret rfl ⟨hr, hD⟩ (by simp [hD]) (res1 rfl (resV_tmp rfl)) () (by rfl) (mk [false, true, true] rfl) Foll.nil

def slices_IndexFunc_api_Span_api_Span_l0 (fc : Int) (fc1 : Int) : List Sp3 → Nat → Int
  | [], t8 => (-1)
  | hd_l0 :: tl_l0, t8 => (bif (law24_DamageTriangle_1_1 hd_l0 fc fc1) then (t8 : Int) else slices_IndexFunc_api_Span_api_Span_l0 fc fc1 tl_l0 (t8 + 1))
def slices_IndexFunc_api_Span_api_Span (s : List Sp3) (fc : Int) (fc1 : Int) : Int :=
  slices_IndexFunc_api_Span_api_Span_l0 fc fc1 s 0

set_option maxRecDepth 100000 in
theorem slices_IndexFunc_api_Span_api_Span_c (s : List Sp3) (fc : Int) (fc1 : Int) (sq : Option Addr) (sk : Nat) (fcb : Nat) (fcb1 : Nat) (hls : s.length ≤ 9223372036854775807) (hcs : s.length ≤ sk) (R : Int) (hR : slices_IndexFunc_api_Span_api_Span s fc fc1 = R) : Con Tryz.prog 74 [.slice sq s.length sk, .func (.func 43) #[] #[pt fcb 0, pt fcb1 0]] [bx fcb [iv fc] 3, bx fcb1 [iv fc1] 3] [sl cSp3 sq s] (Unit) (fun x => iv R) (fun x => [bx fcb [iv fc] 3, bx fcb1 [iv fc1] 3]) (fun x => []) := by
  refine con_of_J (n := 19) Tryz.func74 rfl (by kernel_rfl) rfl rfl [(0, .slice sq s.length sk), (1, .func (.func 43) #[] #[pt fcb 0, pt fcb1 0])] ⟨rfl, rfl, trivial⟩ fun X hX hr hD => ?_
  replace hR := (slices_IndexFunc_api_Span_api_Span.eq_1 ..).symm.trans hR
  refine sr 1 rfl ?_
  refine ip 1 0 [] (by kernel_rfl) ?_
  refine ie ?_
  refine J_seq ?_
  refine sr 3 rfl ?_
  refine ip 3 0 [(7, iv (s.length : Int)), (8, iv 0)] (by kernel_rfl) ?_
  refine ie ?_
  refine J_block ?_
  refine JL1 (fun (t8 : Nat) => t8 ≤ s.length ∧ slices_IndexFunc_api_Span_api_Span_l0 fc fc1 (s.drop t8) t8 = R) (fun (t8 : Nat) => [(0, .slice sq s.length sk), (1, .func (.func 43) #[] #[pt fcb 0, pt fcb1 0]), (7, iv (s.length : Int)), (8, iv (t8 : Int))]) (fun (t8 : Nat) => [bx fcb [iv fc] 3, bx fcb1 [iv fc1] 3]) (fun (t8 : Nat) => [sl cSp3 sq s]) (fun (t8 : Nat) => s.length - t8) 0 ⟨(by omega), hR⟩ ⟨rfl, rfl, rfl, (by first | rfl | (simp only [List.length_set, List.length_append, List.length_cons, List.length_nil]; rfl) | simp | (simp; omega)), trivial⟩ (mk [true, true] rfl) Foll.refl ?_
  rintro t8 ⟨hm1, hR⟩
  refine sr 1 rfl ?_
  refine ip 1 0 [(9, bv (decide ((t8 : Int) < (s.length : Int))))] (by kernel_rfl) ?_
  refine ie ?_
  refine J_seq ?_
  refine J_if rfl (fun h2 => ?_) (fun h2 => ?_)
  · have h2p : (t8 : Int) < (s.length : Int) := by simpa using h2
    rw [dropc Sp3.zero (show t8 < s.length by omega)] at hR; replace hR := (slices_IndexFunc_api_Span_api_Span_l0.eq_2 ..).symm.trans hR
    refine J_skip ?_
    refine nx ?_
    refine J_seq ?_
    refine J_block ?_
    refine sr 2 rfl ?_
    refine ip 2 0 [(5, iv (t8 : Int))] (by kernel_rfl) ?_
    refine ie ?_
    refine sr 6 rfl ?_
    refine ip 3 3 [(11, .func (.func 43) #[] #[pt fcb 0, pt fcb1 0]), (12, .slice sq s.length sk), (13, iv (t8 : Int))] (by kernel_rfl) ?_
    refine JI_base 0 rfl (by omega) fun a3 hq4 => ?_
    refine ix rfl (det_ixq slt56 rfl rfl hq4 rfl t8 rfl (by omega)) ?_
    refine ix rfl (det_ld_agg (us := cSp3 (s.getD t8 Sp3.zero)) ty63 rfl rfl (at_slq (c := cSp3) (sz := 3) hq4 (fun _ => rfl) 0 rfl (gd Sp3.zero (by omega))) rfl) ?_
    refine it rfl (tri_callN (L2 := []) (law24_DamageTriangle_1_1_c (s.getD t8 Sp3.zero) fc fc1 fcb fcb1 _ rfl) rfl rfl rfl rfl rfl Foll.nil (permC [[bx fcb [iv fc] 3], [bx fcb1 [iv fc1] 3]] [0, 1] 2 rfl (by decide) rfl [[bx fcb [iv fc] 3], [bx fcb1 [iv fc1] 3]] rfl (by first | rfl | simp only [List.flatten_cons, List.flatten_nil, List.append_nil, List.cons_append, List.nil_append, List.append_assoc])) (fun _ => [bx fcb [iv fc] 3, bx fcb1 [iv fc1] 3]) (fun _ => rfl)) fun _ => ?_
    refine ie ?_
    refine J_if rfl (fun h5 => ?_) (fun h5 => ?_)
    · replace hR := bt hR h5
      refine sr 2 rfl ?_
      refine ip 2 0 [(4, iv (t8 : Int))] (by kernel_rfl) ?_
      refine ie ?_
      refine J_ret ?_
      subst hR
      exact ends_ret rfl ⟨hr, hD⟩ (by simp [hD]) (res1 rfl (resV_tmp rfl)) () (by rfl) (mk [true, true] rfl) Foll.nil
    · replace hR := bf hR h5
      refine J_skip ?_
      refine nx ?_
      refine J_region 2 rfl ?_
      refine ix rfl (det_add64 rfl rfl rfl rfl (by omega)) ?_
      refine ip 1 0 [(8, iv ((t8 : Int) + 1))] (by kernel_rfl) ?_
      refine JI_end ?_
      exact againL1 (z1 := t8) (t8 + 1) ⟨(by omega), hR⟩ (by (try dsimp only); omega) ⟨rfl, rfl, rfl, (by first | rfl | (simp only [List.length_set, List.length_append, List.length_cons, List.length_nil]; rfl) | simp | (simp; omega)), trivial⟩ (mk [true, true] rfl) Foll.refl
  · have h2p : ¬ ((t8 : Int) < (s.length : Int)) := by simpa using h2
    rw [dropn h2p] at hR; replace hR := (slices_IndexFunc_api_Span_api_Span_l0.eq_1 ..).symm.trans hR
    refine J_exit ?_
    refine nx ?_
    refine sr 1 rfl ?_
    refine ip 1 0 [(4, iv (-1))] (by kernel_rfl) ?_
    refine ie ?_
    refine J_ret ?_
    subst hR
    exact ends_ret rfl ⟨hr, hD⟩ (by simp [hD]) (res1 rfl (resV_tmp rfl)) () (by rfl) (mk [true, true] rfl) Foll.nil

def slices_ContainsFunc_api_Span_api_Span (s : List Sp3) (fc : Int) (fc1 : Int) : Bool :=
  (decide ((0 : Int) ≤ (slices_IndexFunc_api_Span_api_Span s fc fc1)))

set_option maxRecDepth 100000 in
theorem slices_ContainsFunc_api_Span_api_Span_c (s : List Sp3) (fc : Int) (fc1 : Int) (sq : Option Addr) (sk : Nat) (fcb : Nat) (fcb1 : Nat) (hls : s.length ≤ 9223372036854775807) (hcs : s.length ≤ sk) (R : Bool) (hR : slices_ContainsFunc_api_Span_api_Span s fc fc1 = R) : Con Tryz.prog 42 [.slice sq s.length sk, .func (.func 43) #[] #[pt fcb 0, pt fcb1 0]] [bx fcb [iv fc] 3, bx fcb1 [iv fc1] 3] [sl cSp3 sq s] (Unit) (fun x => bv R) (fun x => [bx fcb [iv fc] 3, bx fcb1 [iv fc1] 3]) (fun x => []) := by
  refine con_of_J (n := 9) Tryz.func42 rfl (by kernel_rfl) rfl rfl [(0, .slice sq s.length sk), (1, .func (.func 43) #[] #[pt fcb 0, pt fcb1 0])] ⟨rfl, rfl, trivial⟩ fun X hX hr hD => ?_
  replace hR := (slices_ContainsFunc_api_Span_api_Span.eq_1 ..).symm.trans hR
  refine sr 1 rfl ?_
  refine ip 1 0 [] (by kernel_rfl) ?_
  refine ie ?_
  refine sr 5 rfl ?_
  refine ip 2 3 [(5, .slice sq s.length sk), (6, .func (.func 43) #[] #[pt fcb 0, pt fcb1 0])] (by kernel_rfl) ?_
  refine it rfl (tri_callN (L2 := []) (slices_IndexFunc_api_Span_api_Span_c s fc fc1 sq sk fcb fcb1 (by first | omega | (simp only [List.length_take, List.length_drop, List.length_append, List.length_cons, List.length_nil, List.length_set, List.length_map]; omega) | decide) (by first | omega | (simp only [List.length_take, List.length_drop, List.length_append, List.length_cons, List.length_nil, List.length_set, List.length_map]; omega) | decide) _ rfl) rfl rfl rfl rfl rfl Foll.refl (permC [[bx fcb [iv fc] 3], [bx fcb1 [iv fc1] 3]] [0, 1] 2 rfl (by decide) rfl [[bx fcb [iv fc] 3], [bx fcb1 [iv fc1] 3]] rfl (by first | rfl | simp only [List.flatten_cons, List.flatten_nil, List.append_nil, List.cons_append, List.nil_append, List.append_assoc])) (fun _ => [bx fcb [iv fc] 3, bx fcb1 [iv fc1] 3]) (fun _ => rfl)) fun _ => ?_
  refine ip 2 0 [(4, bv (decide ((0 : Int) ≤ (slices_IndexFunc_api_Span_api_Span s fc fc1))))] (by kernel_rfl) ?_
  refine ie ?_
  refine J_ret ?_
  subst hR
  exact ends_ret rfl ⟨hr, hD⟩ (by simp [hD]) (res1 rfl (resV_tmp rfl)) () (by rfl) (mk [true, true] rfl) Foll.nil

def law24_DamageTriangle_1 (l : List Sp3) (row : Int) (at_ : Int) : Bool :=
  (slices_ContainsFunc_api_Span_api_Span l row at_)

set_option maxRecDepth 100000 in
theorem law24_DamageTriangle_1_c (l : List Sp3) (row : Int) (at_ : Int) (lq : Option Addr) (lk : Nat) (hll : l.length ≤ 9223372036854775807) (hcl : l.length ≤ lk) (R : Bool) (hR : law24_DamageTriangle_1 l row at_ = R) : ConV Tryz.prog 41 [.slice lq l.length lk, iv row, iv at_] [sl cSp3 lq l] (bv R) := by
  refine con_of_J (n := 10) Tryz.func41 rfl (by kernel_rfl) rfl rfl [(0, .slice lq l.length lk), (1, iv row), (2, iv at_)] ⟨rfl, rfl, rfl, trivial⟩ fun X hX hr hD => ?_
  replace hR := (law24_DamageTriangle_1.eq_1 ..).symm.trans hR
  refine sr 3 rfl ?_
  refine it rfl (tri_box (cs := [iv row]) rfl rfl rfl) fun b1 => ?_
  refine it rfl (tri_box (cs := [iv at_]) rfl rfl rfl) fun b2 => ?_
  refine ip 1 0 [] (by kernel_rfl) ?_
  refine ie ?_
  refine sr 4 rfl ?_
  refine ip 2 2 [(7, .slice lq l.length lk), (8, .func (.func 43) #[] #[pt b1 0, pt b2 0])] (by kernel_rfl) ?_
  refine it rfl (tri_callN (L2 := []) (slices_ContainsFunc_api_Span_api_Span_c l row at_ lq lk b1 b2 (by first | omega | (simp only [List.length_take, List.length_drop, List.length_append, List.length_cons, List.length_nil, List.length_set, List.length_map]; omega) | decide) (by first | omega | (simp only [List.length_take, List.length_drop, List.length_append, List.length_cons, List.length_nil, List.length_set, List.length_map]; omega) | decide) _ rfl) rfl rfl rfl rfl rfl Foll.refl (permC [[bx b2 [iv at_] 3], [bx b1 [iv row] 3]] [1, 0] 2 rfl (by decide) rfl [[bx b1 [iv row] 3], [bx b2 [iv at_] 3]] rfl (by first | rfl | simp only [List.flatten_cons, List.flatten_nil, List.append_nil, List.cons_append, List.nil_append, List.append_assoc])) (fun _ => [bx b1 [iv row] 3, bx b2 [iv at_] 3]) (fun _ => rfl)) fun _ => ?_
  refine ip 1 0 [(6, bv (slices_ContainsFunc_api_Span_api_Span l row at_))] (by kernel_rfl) ?_
  refine ie ?_
  refine J_ret ?_
  subst hR
  exact ends_ret rfl ⟨hr, hD⟩ (by simp [hD]) (res1 rfl (resV_tmp rfl)) () (by rfl) (mk [false, false] rfl) Foll.nil

def law24_DamageTriangle_l3 (aRows : List (List Cel)) (cRows : List (List Cel)) (rdamageSpans : List Sp3 × Int) (rdamageSpans1 : List Sp3 × Int) (rdamageSpans2 : List Sp3 × Int) (t55 : Nat) (ag_law24_DamageTriangle_l2 : Nat → Bool) : Nat → Int → Bool
  | 0, _ => false
  | fu1 + 1, at_ => (bif (decide (at_ < (rdamageSpans2.1.getD t55 Sp3.zero).to)) then (bif (((!(decide (((aRows.getD (((rdamageSpans2.1.getD t55 Sp3.zero).row).toNat) []).getD ((at_).toNat) Cel.zero) = ((cRows.getD (((rdamageSpans2.1.getD t55 Sp3.zero).row).toNat) []).getD ((at_).toNat) Cel.zero)))) && (!(law24_DamageTriangle_1 rdamageSpans.1 ((rdamageSpans2.1.getD t55 Sp3.zero).row) at_))) && (!(law24_DamageTriangle_1 rdamageSpans1.1 ((rdamageSpans2.1.getD t55 Sp3.zero).row) at_))) then false else law24_DamageTriangle_l3 aRows cRows rdamageSpans rdamageSpans1 rdamageSpans2 t55 ag_law24_DamageTriangle_l2 fu1 (at_ + 1)) else ag_law24_DamageTriangle_l2 (t55 + 1))
def law24_DamageTriangle_l2 (aRows : List (List Cel)) (cRows : List (List Cel)) (rdamageSpans : List Sp3 × Int) (rdamageSpans1 : List Sp3 × Int) (rdamageSpans2 : List Sp3 × Int) : List Sp3 → Nat → Bool
  | [], t55 => true
  | hd_l2 :: tl_l2, t55 => law24_DamageTriangle_l3 aRows cRows rdamageSpans rdamageSpans1 rdamageSpans2 t55 (law24_DamageTriangle_l2 aRows cRows rdamageSpans rdamageSpans1 rdamageSpans2 tl_l2) ((hd_l2.to - (hd_l2.frm)).toNat + 1) (hd_l2.frm)
def law24_DamageTriangle (aCols : Int) (aRows : List (List Cel)) (aCursor : Plc) (aVisible : Bool) (aShape : Int) (aTitle : List UInt8) (bCols : Int) (bRows : List (List Cel)) (bCursor : Plc) (bVisible : Bool) (bShape : Int) (bTitle : List UInt8) (cCols : Int) (cRows : List (List Cel)) (cCursor : Plc) (cVisible : Bool) (cShape : Int) (cTitle : List UInt8) : Bool :=
  (bif (!law24_wakes) then false else (bindV (damage_Spans aCols aRows aCursor aVisible aShape aTitle bCols bRows bCursor bVisible bShape bTitle) fun (rdamageSpans : List Sp3 × Int) => (bindV (damage_Spans bCols bRows bCursor bVisible bShape bTitle cCols cRows cCursor cVisible cShape cTitle) fun (rdamageSpans1 : List Sp3 × Int) => (bindV (damage_Spans aCols aRows aCursor aVisible aShape aTitle cCols cRows cCursor cVisible cShape cTitle) fun (rdamageSpans2 : List Sp3 × Int) => (bif (((!decide (rdamageSpans.2 = 0)) || (!decide (rdamageSpans1.2 = 0))) || (!decide (rdamageSpans2.2 = 0))) then ((!decide (rdamageSpans.2 = 0)) || (!decide (rdamageSpans1.2 = 0))) else law24_DamageTriangle_l2 aRows cRows rdamageSpans rdamageSpans1 rdamageSpans2 rdamageSpans2.1 0)))))

set_option maxRecDepth 100000 in
theorem law24_DamageTriangle_c (aCols : Int) (aRows : List (List Cel)) (aCursor : Plc) (aVisible : Bool) (aShape : Int) (aTitle : List UInt8) (bCols : Int) (bRows : List (List Cel)) (bCursor : Plc) (bVisible : Bool) (bShape : Int) (bTitle : List UInt8) (cCols : Int) (cRows : List (List Cel)) (cCursor : Plc) (cVisible : Bool) (cShape : Int) (cTitle : List UInt8) (aRowsq : Option Addr) (aRowsrs : List Slc) (aRowsk : Nat) (bRowsq : Option Addr) (bRowsrs : List Slc) (bRowsk : Nat) (cRowsq : Option Addr) (cRowsrs : List Slc) (cRowsk : Nat) (hrowsaRowsrs : RowsOk aRowsrs aRows) (hlaRows : aRows.length ≤ 9223372036854775807) (hcaRows : aRows.length ≤ aRowsk) (hrowsbRowsrs : RowsOk bRowsrs bRows) (hlbRows : bRows.length ≤ 9223372036854775807) (hcbRows : bRows.length ≤ bRowsk) (hrowscRowsrs : RowsOk cRowsrs cRows) (hlcRows : cRows.length ≤ 9223372036854775807) (hccRows : cRows.length ≤ cRowsk) (hT : aTitle.length ≤ 100000000) (hT2 : bTitle.length ≤ 100000000) (hT3 : cTitle.length ≤ 100000000) (R : Bool) (hR : law24_DamageTriangle aCols aRows aCursor aVisible aShape aTitle bCols bRows bCursor bVisible bShape bTitle cCols cRows cCursor cVisible cShape cTitle = R) : ConV Tryz.prog 12 [ag [iv aCols, .slice aRowsq aRows.length aRowsk, iv aCursor.row, iv aCursor.col, bv aVisible, iv aShape, sv aTitle], ag [iv bCols, .slice bRowsq bRows.length bRowsk, iv bCursor.row, iv bCursor.col, bv bVisible, iv bShape, sv bTitle], ag [iv cCols, .slice cRowsq cRows.length cRowsk, iv cCursor.row, iv cCursor.col, bv cVisible, iv cShape, sv cTitle]] [sl cSlc aRowsq aRowsrs, rowsF cCel aRowsrs aRows, sl cSlc bRowsq bRowsrs, rowsF cCel bRowsrs bRows, sl cSlc cRowsq cRowsrs, rowsF cCel cRowsrs cRows, sl cSpn (some ⟨0, 0, none⟩) tab0, sl cSpn (some ⟨1, 0, none⟩) tab1] (bv R) := by
  refine con_of_J (n := 105) Tryz.func12 rfl (by kernel_rfl) rfl rfl [(0, ag [iv aCols, .slice aRowsq aRows.length aRowsk, iv aCursor.row, iv aCursor.col, bv aVisible, iv aShape, sv aTitle]), (1, ag [iv bCols, .slice bRowsq bRows.length bRowsk, iv bCursor.row, iv bCursor.col, bv bVisible, iv bShape, sv bTitle]), (2, ag [iv cCols, .slice cRowsq cRows.length cRowsk, iv cCursor.row, iv cCursor.col, bv cVisible, iv cShape, sv cTitle])] ⟨rfl, rfl, rfl, trivial⟩ fun X hX hr hD => ?_
  replace hR := (law24_DamageTriangle.eq_1 ..).symm.trans hR
  have := hrowsaRowsrs.1
  have := hrowsbRowsrs.1
  have := hrowscRowsrs.1
  refine sr 4 rfl ?_
  refine it rfl (tri_box (cs := [iv aCols, .slice aRowsq aRows.length aRowsk, iv aCursor.row, iv aCursor.col, bv aVisible, iv aShape, sv aTitle]) rfl rfl rfl) fun b1 => ?_
  refine it rfl (tri_box (cs := [iv bCols, .slice bRowsq bRows.length bRowsk, iv bCursor.row, iv bCursor.col, bv bVisible, iv bShape, sv bTitle]) rfl rfl rfl) fun b2 => ?_
  refine it rfl (tri_box (cs := [iv cCols, .slice cRowsq cRows.length cRowsk, iv cCursor.row, iv cCursor.col, bv cVisible, iv cShape, sv cTitle]) rfl rfl rfl) fun b3 => ?_
  refine ip 1 0 [] (by kernel_rfl) ?_
  refine ie ?_
  refine J_seq ?_
  refine sr 2 rfl ?_
  refine ixc rfl (det_call (law24_wakes_c _ rfl) rfl rfl rfl rfl rfl (Foll.pick [6, 7] rfl)) ?_
  refine ip 1 0 [(18, bv (!law24_wakes))] (by kernel_rfl) ?_
  refine ie ?_
  refine J_if rfl (fun h4 => ?_) (fun h4 => ?_)
  · replace hR := bt hR h4
    refine sr 1 rfl ?_
    refine ip 1 0 [(6, bv false)] (by kernel_rfl) ?_
    refine ie ?_
    refine J_ret ?_
    subst hR
    exact ends_ret rfl ⟨hr, hD⟩ (by simp [hD]) (res1 rfl (resV_tmp rfl)) () (by rfl) (mk [false, false, false] rfl) Foll.nil
  · replace hR := bf hR h4
    refine J_skip ?_
    refine nx ?_
    refine sr 8 rfl ?_
    refine ix rfl (det_own_agg (us := [iv aCols, .slice aRowsq aRows.length aRowsk, iv aCursor.row, iv aCursor.col, bv aVisible, iv aShape, sv aTitle]) ty55 rfl rfl 2 rfl rfl rfl) ?_
    refine ix rfl (det_own_agg (us := [iv bCols, .slice bRowsq bRows.length bRowsk, iv bCursor.row, iv bCursor.col, bv bVisible, iv bShape, sv bTitle]) ty55 rfl rfl 1 rfl rfl rfl) ?_
    have hQ := bindVx hR; clear hR; obtain ⟨rdamageSpans, hrdamageSpans, hR⟩ := hQ
    refine it rfl (tri_callP (L2 := [bx b3 [iv cCols, .slice cRowsq cRows.length cRowsk, iv cCursor.row, iv cCursor.col, bv cVisible, iv cShape, sv cTitle] 55, bx b2 [iv bCols, .slice bRowsq bRows.length bRowsk, iv bCursor.row, iv bCursor.col, bv bVisible, iv bShape, sv bTitle] 55, bx b1 [iv aCols, .slice aRowsq aRows.length aRowsk, iv aCursor.row, iv aCursor.col, bv aVisible, iv aShape, sv aTitle] 55]) (damage_Spans_c aCols aRows aCursor aVisible aShape aTitle bCols bRows bCursor bVisible bShape bTitle aRowsq aRowsrs aRowsk bRowsq bRowsrs bRowsk hrowsaRowsrs (by first | omega | (simp only [List.length_take, List.length_drop, List.length_append, List.length_cons, List.length_nil, List.length_set, List.length_map]; omega) | decide) (by first | omega | (simp only [List.length_take, List.length_drop, List.length_append, List.length_cons, List.length_nil, List.length_set, List.length_map]; omega) | decide) hrowsbRowsrs (by first | omega | (simp only [List.length_take, List.length_drop, List.length_append, List.length_cons, List.length_nil, List.length_set, List.length_map]; omega) | decide) (by first | omega | (simp only [List.length_take, List.length_drop, List.length_append, List.length_cons, List.length_nil, List.length_set, List.length_map]; omega) | decide) (by first | omega | (simp only [List.length_nil]; omega)) (by first | omega | (simp only [List.length_nil]; omega)) rdamageSpans hrdamageSpans) rfl rfl rfl rfl rfl (Foll.pick [0, 1, 2, 3, 6, 7] rfl) (List.Perm.refl _) (fun ⟨r5, hk6⟩ => (bx b3 [iv cCols, .slice cRowsq cRows.length cRowsk, iv cCursor.row, iv cCursor.col, bv cVisible, iv cShape, sv cTitle] 55 :: bx b2 [iv bCols, .slice bRowsq bRows.length bRowsk, iv bCursor.row, iv bCursor.col, bv bVisible, iv bShape, sv bTitle] 55 :: bx b1 [iv aCols, .slice aRowsq aRows.length aRowsk, iv aCursor.row, iv aCursor.col, bv aVisible, iv aShape, sv aTitle] 55 :: (vo cSp3 63 r5 rdamageSpans.1) ++ ([]))) (fun ⟨r5, hk6⟩ => permC [vo cSp3 63 r5 rdamageSpans.1, [bx b3 [iv cCols, .slice cRowsq cRows.length cRowsk, iv cCursor.row, iv cCursor.col, bv cVisible, iv cShape, sv cTitle] 55], [bx b2 [iv bCols, .slice bRowsq bRows.length bRowsk, iv bCursor.row, iv bCursor.col, bv bVisible, iv bShape, sv bTitle] 55], [bx b1 [iv aCols, .slice aRowsq aRows.length aRowsk, iv aCursor.row, iv aCursor.col, bv aVisible, iv aShape, sv aTitle] 55]] [1, 2, 3, 0] 4 rfl (by decide) (by first | rfl | simp only [List.flatten_cons, List.flatten_nil, List.append_nil, List.cons_append, List.nil_append, List.append_assoc]) [[bx b3 [iv cCols, .slice cRowsq cRows.length cRowsk, iv cCursor.row, iv cCursor.col, bv cVisible, iv cShape, sv cTitle] 55], [bx b2 [iv bCols, .slice bRowsq bRows.length bRowsk, iv bCursor.row, iv bCursor.col, bv bVisible, iv bShape, sv bTitle] 55], [bx b1 [iv aCols, .slice aRowsq aRows.length aRowsk, iv aCursor.row, iv aCursor.col, bv aVisible, iv aShape, sv aTitle] 55], vo cSp3 63 r5 rdamageSpans.1] rfl (by first | rfl | simp only [List.flatten_cons, List.flatten_nil, List.append_nil, List.cons_append, List.nil_append, List.append_assoc]))) fun ⟨r5, hk6⟩ => ?_
    have := VOk.le hk6
    have := VOk.cap hk6
    have := damage_Spans_len aCols aRows aCursor aVisible aShape aTitle bCols bRows bCursor bVisible bShape bTitle; try rw [hrdamageSpans] at this
    refine JI_seal [bx b3 [iv cCols, .slice cRowsq cRows.length cRowsk, iv cCursor.row, iv cCursor.col, bv cVisible, iv cShape, sv cTitle] 55, bx b2 [iv bCols, .slice bRowsq bRows.length bRowsk, iv bCursor.row, iv bCursor.col, bv bVisible, iv bShape, sv bTitle] 55, bx b1 [iv aCols, .slice aRowsq aRows.length aRowsk, iv aCursor.row, iv aCursor.col, bv aVisible, iv aShape, sv aTitle] 55] [] (T := 63) (c := cSp3) (r := r5) (xs := rdamageSpans.1) hk6 (by first | rfl | simp only [List.cons_append, List.append_assoc, List.nil_append, List.append_nil]) ?_
    refine ip 5 0 [(7, .slice (va r5.q) rdamageSpans.1.length r5.k), (8, iv rdamageSpans.2)] (by kernel_rfl) ?_
    refine ie ?_
    refine sr 8 rfl ?_
    refine ix rfl (det_own_agg (us := [iv bCols, .slice bRowsq bRows.length bRowsk, iv bCursor.row, iv bCursor.col, bv bVisible, iv bShape, sv bTitle]) ty55 rfl rfl 1 rfl rfl rfl) ?_
    refine ix rfl (det_own_agg (us := [iv cCols, .slice cRowsq cRows.length cRowsk, iv cCursor.row, iv cCursor.col, bv cVisible, iv cShape, sv cTitle]) ty55 rfl rfl 0 rfl rfl rfl) ?_
    have hQ := bindVx hR; clear hR; obtain ⟨rdamageSpans1, hrdamageSpans1, hR⟩ := hQ
    refine it rfl (tri_callP (L2 := [bx b3 [iv cCols, .slice cRowsq cRows.length cRowsk, iv cCursor.row, iv cCursor.col, bv cVisible, iv cShape, sv cTitle] 55, bx b2 [iv bCols, .slice bRowsq bRows.length bRowsk, iv bCursor.row, iv bCursor.col, bv bVisible, iv bShape, sv bTitle] 55, bx b1 [iv aCols, .slice aRowsq aRows.length aRowsk, iv aCursor.row, iv aCursor.col, bv aVisible, iv aShape, sv aTitle] 55]) (damage_Spans_c bCols bRows bCursor bVisible bShape bTitle cCols cRows cCursor cVisible cShape cTitle bRowsq bRowsrs bRowsk cRowsq cRowsrs cRowsk hrowsbRowsrs (by first | omega | (simp only [List.length_take, List.length_drop, List.length_append, List.length_cons, List.length_nil, List.length_set, List.length_map]; omega) | decide) (by first | omega | (simp only [List.length_take, List.length_drop, List.length_append, List.length_cons, List.length_nil, List.length_set, List.length_map]; omega) | decide) hrowscRowsrs (by first | omega | (simp only [List.length_take, List.length_drop, List.length_append, List.length_cons, List.length_nil, List.length_set, List.length_map]; omega) | decide) (by first | omega | (simp only [List.length_take, List.length_drop, List.length_append, List.length_cons, List.length_nil, List.length_set, List.length_map]; omega) | decide) (by first | omega | (simp only [List.length_nil]; omega)) (by first | omega | (simp only [List.length_nil]; omega)) rdamageSpans1 hrdamageSpans1) rfl rfl rfl rfl rfl (Foll.pick [3, 4, 5, 6, 7, 8] rfl) (List.Perm.refl _) (fun ⟨r7, hk8⟩ => (bx b3 [iv cCols, .slice cRowsq cRows.length cRowsk, iv cCursor.row, iv cCursor.col, bv cVisible, iv cShape, sv cTitle] 55 :: bx b2 [iv bCols, .slice bRowsq bRows.length bRowsk, iv bCursor.row, iv bCursor.col, bv bVisible, iv bShape, sv bTitle] 55 :: bx b1 [iv aCols, .slice aRowsq aRows.length aRowsk, iv aCursor.row, iv aCursor.col, bv aVisible, iv aShape, sv aTitle] 55 :: (vo cSp3 63 r7 rdamageSpans1.1) ++ ([]))) (fun ⟨r7, hk8⟩ => permC [vo cSp3 63 r7 rdamageSpans1.1, [bx b3 [iv cCols, .slice cRowsq cRows.length cRowsk, iv cCursor.row, iv cCursor.col, bv cVisible, iv cShape, sv cTitle] 55], [bx b2 [iv bCols, .slice bRowsq bRows.length bRowsk, iv bCursor.row, iv bCursor.col, bv bVisible, iv bShape, sv bTitle] 55], [bx b1 [iv aCols, .slice aRowsq aRows.length aRowsk, iv aCursor.row, iv aCursor.col, bv aVisible, iv aShape, sv aTitle] 55]] [1, 2, 3, 0] 4 rfl (by decide) (by first | rfl | simp only [List.flatten_cons, List.flatten_nil, List.append_nil, List.cons_append, List.nil_append, List.append_assoc]) [[bx b3 [iv cCols, .slice cRowsq cRows.length cRowsk, iv cCursor.row, iv cCursor.col, bv cVisible, iv cShape, sv cTitle] 55], [bx b2 [iv bCols, .slice bRowsq bRows.length bRowsk, iv bCursor.row, iv bCursor.col, bv bVisible, iv bShape, sv bTitle] 55], [bx b1 [iv aCols, .slice aRowsq aRows.length aRowsk, iv aCursor.row, iv aCursor.col, bv aVisible, iv aShape, sv aTitle] 55], vo cSp3 63 r7 rdamageSpans1.1] rfl (by first | rfl | simp only [List.flatten_cons, List.flatten_nil, List.append_nil, List.cons_append, List.nil_append, List.append_assoc]))) fun ⟨r7, hk8⟩ => ?_
    have := VOk.le hk8
    have := VOk.cap hk8
    have := damage_Spans_len bCols bRows bCursor bVisible bShape bTitle cCols cRows cCursor cVisible cShape cTitle; try rw [hrdamageSpans1] at this
    refine JI_seal [bx b3 [iv cCols, .slice cRowsq cRows.length cRowsk, iv cCursor.row, iv cCursor.col, bv cVisible, iv cShape, sv cTitle] 55, bx b2 [iv bCols, .slice bRowsq bRows.length bRowsk, iv bCursor.row, iv bCursor.col, bv bVisible, iv bShape, sv bTitle] 55, bx b1 [iv aCols, .slice aRowsq aRows.length aRowsk, iv aCursor.row, iv aCursor.col, bv aVisible, iv aShape, sv aTitle] 55] [] (T := 63) (c := cSp3) (r := r7) (xs := rdamageSpans1.1) hk8 (by first | rfl | simp only [List.cons_append, List.append_assoc, List.nil_append, List.append_nil]) ?_
    refine ip 5 0 [(9, .slice (va r7.q) rdamageSpans1.1.length r7.k), (10, iv rdamageSpans1.2)] (by kernel_rfl) ?_
    refine ie ?_
    refine sr 8 rfl ?_
    refine ix rfl (det_own_agg (us := [iv aCols, .slice aRowsq aRows.length aRowsk, iv aCursor.row, iv aCursor.col, bv aVisible, iv aShape, sv aTitle]) ty55 rfl rfl 2 rfl rfl rfl) ?_
    refine ix rfl (det_own_agg (us := [iv cCols, .slice cRowsq cRows.length cRowsk, iv cCursor.row, iv cCursor.col, bv cVisible, iv cShape, sv cTitle]) ty55 rfl rfl 0 rfl rfl rfl) ?_
    have hQ := bindVx hR; clear hR; obtain ⟨rdamageSpans2, hrdamageSpans2, hR⟩ := hQ
    refine it rfl (tri_callP (L2 := [bx b3 [iv cCols, .slice cRowsq cRows.length cRowsk, iv cCursor.row, iv cCursor.col, bv cVisible, iv cShape, sv cTitle] 55, bx b2 [iv bCols, .slice bRowsq bRows.length bRowsk, iv bCursor.row, iv bCursor.col, bv bVisible, iv bShape, sv bTitle] 55, bx b1 [iv aCols, .slice aRowsq aRows.length aRowsk, iv aCursor.row, iv aCursor.col, bv aVisible, iv aShape, sv aTitle] 55]) (damage_Spans_c aCols aRows aCursor aVisible aShape aTitle cCols cRows cCursor cVisible cShape cTitle aRowsq aRowsrs aRowsk cRowsq cRowsrs cRowsk hrowsaRowsrs (by first | omega | (simp only [List.length_take, List.length_drop, List.length_append, List.length_cons, List.length_nil, List.length_set, List.length_map]; omega) | decide) (by first | omega | (simp only [List.length_take, List.length_drop, List.length_append, List.length_cons, List.length_nil, List.length_set, List.length_map]; omega) | decide) hrowscRowsrs (by first | omega | (simp only [List.length_take, List.length_drop, List.length_append, List.length_cons, List.length_nil, List.length_set, List.length_map]; omega) | decide) (by first | omega | (simp only [List.length_take, List.length_drop, List.length_append, List.length_cons, List.length_nil, List.length_set, List.length_map]; omega) | decide) (by first | omega | (simp only [List.length_nil]; omega)) (by first | omega | (simp only [List.length_nil]; omega)) rdamageSpans2 hrdamageSpans2) rfl rfl rfl rfl rfl (Foll.pick [2, 3, 6, 7, 8, 9] rfl) (List.Perm.refl _) (fun ⟨r9, hk10⟩ => (bx b3 [iv cCols, .slice cRowsq cRows.length cRowsk, iv cCursor.row, iv cCursor.col, bv cVisible, iv cShape, sv cTitle] 55 :: bx b2 [iv bCols, .slice bRowsq bRows.length bRowsk, iv bCursor.row, iv bCursor.col, bv bVisible, iv bShape, sv bTitle] 55 :: bx b1 [iv aCols, .slice aRowsq aRows.length aRowsk, iv aCursor.row, iv aCursor.col, bv aVisible, iv aShape, sv aTitle] 55 :: (vo cSp3 63 r9 rdamageSpans2.1) ++ ([]))) (fun ⟨r9, hk10⟩ => permC [vo cSp3 63 r9 rdamageSpans2.1, [bx b3 [iv cCols, .slice cRowsq cRows.length cRowsk, iv cCursor.row, iv cCursor.col, bv cVisible, iv cShape, sv cTitle] 55], [bx b2 [iv bCols, .slice bRowsq bRows.length bRowsk, iv bCursor.row, iv bCursor.col, bv bVisible, iv bShape, sv bTitle] 55], [bx b1 [iv aCols, .slice aRowsq aRows.length aRowsk, iv aCursor.row, iv aCursor.col, bv aVisible, iv aShape, sv aTitle] 55]] [1, 2, 3, 0] 4 rfl (by decide) (by first | rfl | simp only [List.flatten_cons, List.flatten_nil, List.append_nil, List.cons_append, List.nil_append, List.append_assoc]) [[bx b3 [iv cCols, .slice cRowsq cRows.length cRowsk, iv cCursor.row, iv cCursor.col, bv cVisible, iv cShape, sv cTitle] 55], [bx b2 [iv bCols, .slice bRowsq bRows.length bRowsk, iv bCursor.row, iv bCursor.col, bv bVisible, iv bShape, sv bTitle] 55], [bx b1 [iv aCols, .slice aRowsq aRows.length aRowsk, iv aCursor.row, iv aCursor.col, bv aVisible, iv aShape, sv aTitle] 55], vo cSp3 63 r9 rdamageSpans2.1] rfl (by first | rfl | simp only [List.flatten_cons, List.flatten_nil, List.append_nil, List.cons_append, List.nil_append, List.append_assoc]))) fun ⟨r9, hk10⟩ => ?_
    have := VOk.le hk10
    have := VOk.cap hk10
    have := damage_Spans_len aCols aRows aCursor aVisible aShape aTitle cCols cRows cCursor cVisible cShape cTitle; try rw [hrdamageSpans2] at this
    refine JI_seal [bx b3 [iv cCols, .slice cRowsq cRows.length cRowsk, iv cCursor.row, iv cCursor.col, bv cVisible, iv cShape, sv cTitle] 55, bx b2 [iv bCols, .slice bRowsq bRows.length bRowsk, iv bCursor.row, iv bCursor.col, bv bVisible, iv bShape, sv bTitle] 55, bx b1 [iv aCols, .slice aRowsq aRows.length aRowsk, iv aCursor.row, iv aCursor.col, bv aVisible, iv aShape, sv aTitle] 55] [] (T := 63) (c := cSp3) (r := r9) (xs := rdamageSpans2.1) hk10 (by first | rfl | simp only [List.cons_append, List.append_assoc, List.nil_append, List.append_nil]) ?_
    refine ip 5 0 [(11, .slice (va r9.q) rdamageSpans2.1.length r9.k), (12, iv rdamageSpans2.2)] (by kernel_rfl) ?_
    refine ie ?_
    refine J_seq ?_
    refine sr 10 rfl ?_
    refine ip 3 7 [(39, bv (!decide (rdamageSpans.2 = 0)))] (by kernel_rfl) ?_
    refine ior 3 4 39 42 (!decide (rdamageSpans1.2 = 0)) rfl (by kernel_rfl) (fun g11 => ?_) ?_
    · have g11p : ¬ (¬ rdamageSpans.2 = 0) := by simpa using g11
      refine ip 3 0 [(42, bv (!decide (rdamageSpans1.2 = 0)))] (by kernel_rfl) ?_
      exact JI_end (armI 2 39 42 g11 Foll.refl (mk [true, true, true] rfl) rfl rfl rfl rfl rfl)
    refine ip 1 3 [(43, bv ((!decide (rdamageSpans.2 = 0)) || (!decide (rdamageSpans1.2 = 0))))] (by kernel_rfl) ?_
    refine ior 3 0 43 46 (!decide (rdamageSpans2.2 = 0)) rfl (by kernel_rfl) (fun g12 => ?_) ?_
    · have g12p : ¬ ((¬ rdamageSpans.2 = 0) ∨ (¬ rdamageSpans1.2 = 0)) := by simpa using g12
      refine ip 3 0 [(46, bv (!decide (rdamageSpans2.2 = 0)))] (by kernel_rfl) ?_
      exact JI_end (armI 2 43 46 g12 Foll.refl (mk [true, true, true] rfl) rfl rfl rfl rfl rfl)
    refine ie ?_
    refine J_if rfl (fun h13 => ?_) (fun h13 => ?_)
    · have h13p : ((¬ rdamageSpans.2 = 0) ∨ (¬ rdamageSpans1.2 = 0)) ∨ (¬ rdamageSpans2.2 = 0) := by simpa using h13
      replace hR := bt hR h13
      refine sr 7 rfl ?_
      refine ip 3 4 [(49, bv (!decide (rdamageSpans.2 = 0)))] (by kernel_rfl) ?_
      refine ior 3 1 49 52 (!decide (rdamageSpans1.2 = 0)) rfl (by kernel_rfl) (fun g14 => ?_) ?_
      · have g14p : ¬ (¬ rdamageSpans.2 = 0) := by simpa using g14
        refine ip 3 0 [(52, bv (!decide (rdamageSpans1.2 = 0)))] (by kernel_rfl) ?_
        exact JI_end (armI 2 49 52 g14 Foll.refl (mk [true, true, true] rfl) rfl rfl rfl rfl rfl)
      refine ip 1 0 [(6, bv ((!decide (rdamageSpans.2 = 0)) || (!decide (rdamageSpans1.2 = 0))))] (by kernel_rfl) ?_
      refine ie ?_
      refine J_ret ?_
      subst hR
      exact ends_ret rfl ⟨hr, hD⟩ (by simp [hD]) (res1 rfl (resV_tmp rfl)) () (by rfl) (mk [false, false, false] rfl) Foll.nil
    · have h13p : ¬ (((¬ rdamageSpans.2 = 0) ∨ (¬ rdamageSpans1.2 = 0)) ∨ (¬ rdamageSpans2.2 = 0)) := by simpa using h13
      replace hR := bf hR h13
      have hz : (rdamageSpans.2 = 0 ∧ rdamageSpans1.2 = 0) ∧ rdamageSpans2.2 = 0 := by simpa using h13
      have hch1 := damage_checked_ok (damage_Spans_ok hrdamageSpans hz.1.1)
      have hchk := damage_checked_ok (damage_Spans_ok hrdamageSpans2 hz.2)
      have hra := hchk.1.2.2.2.2
      have hrc := hchk.2.1.2.2.2.2
      have hc3 := hchk.2.2
      have hin := damage_Spans_in hrdamageSpans2 hz.2
      refine J_skip ?_
      refine nx ?_
      refine sr 1 rfl ?_
      refine ip 1 0 [(13, .func (.func 41) #[] #[])] (by kernel_rfl) ?_
      refine ie ?_
      refine J_seq ?_
      refine sr 3 rfl ?_
      refine ip 3 0 [(53, .slice (va r9.q) rdamageSpans2.1.length r9.k), (54, iv (rdamageSpans2.1.length : Int)), (55, iv 0)] (by kernel_rfl) ?_
      refine ie ?_
      refine J_block ?_
      refine JL1 (fun (t55 : Nat) => t55 ≤ rdamageSpans2.1.length ∧ law24_DamageTriangle_l2 aRows cRows rdamageSpans rdamageSpans1 rdamageSpans2 (rdamageSpans2.1.drop t55) t55 = R) (fun (t55 : Nat) => [(3, pt b1 0), (5, pt b3 0), (7, .slice (va r5.q) rdamageSpans.1.length r5.k), (9, .slice (va r7.q) rdamageSpans1.1.length r7.k), (13, .func (.func 41) #[] #[]), (53, .slice (va r9.q) rdamageSpans2.1.length r9.k), (54, iv (rdamageSpans2.1.length : Int)), (55, iv (t55 : Int))]) (fun (t55 : Nat) => [bx b3 [iv cCols, .slice cRowsq cRows.length cRowsk, iv cCursor.row, iv cCursor.col, bv cVisible, iv cShape, sv cTitle] 55, bx b2 [iv bCols, .slice bRowsq bRows.length bRowsk, iv bCursor.row, iv bCursor.col, bv bVisible, iv bShape, sv bTitle] 55, bx b1 [iv aCols, .slice aRowsq aRows.length aRowsk, iv aCursor.row, iv aCursor.col, bv aVisible, iv aShape, sv aTitle] 55]) (fun (t55 : Nat) => [sl cSp3 (va r9.q) rdamageSpans2.1, sl cSp3 (va r7.q) rdamageSpans1.1, sl cSp3 (va r5.q) rdamageSpans.1, sl cSlc aRowsq aRowsrs, rowsF cCel aRowsrs aRows, sl cSlc bRowsq bRowsrs, rowsF cCel bRowsrs bRows, sl cSlc cRowsq cRowsrs, rowsF cCel cRowsrs cRows, sl cSpn (some ⟨0, 0, none⟩) tab0, sl cSpn (some ⟨1, 0, none⟩) tab1]) (fun (t55 : Nat) => rdamageSpans2.1.length - t55) 0 ⟨(by omega), hR⟩ ⟨rfl, rfl, rfl, rfl, rfl, rfl, rfl, (by first | rfl | (simp only [List.length_set, List.length_append, List.length_cons, List.length_nil]; rfl) | simp | (simp; omega)), trivial⟩ (mk [true, true, true] rfl) Foll.refl ?_
      rintro t55 ⟨hm15, hR⟩
      refine sr 1 rfl ?_
      refine ip 1 0 [(56, bv (decide ((t55 : Int) < (rdamageSpans2.1.length : Int))))] (by kernel_rfl) ?_
      refine ie ?_
      refine J_seq ?_
      refine J_if rfl (fun h16 => ?_) (fun h16 => ?_)
      · have h16p : (t55 : Int) < (rdamageSpans2.1.length : Int) := by simpa using h16
        rw [dropc Sp3.zero (show t55 < rdamageSpans2.1.length by omega)] at hR; replace hR := (law24_DamageTriangle_l2.eq_2 ..).symm.trans hR
        have hxi := hin t55 (by omega)
        unfold within at hxi
        have hxa := hra (((rdamageSpans2.1.getD t55 Sp3.zero).row).toNat) (by omega)
        have hxc := hrc (((rdamageSpans2.1.getD t55 Sp3.zero).row).toNat) (by omega)
        refine J_skip ?_
        refine nx ?_
        refine J_seq ?_
        refine J_block ?_
        refine sr 4 rfl ?_
        refine JI_base 0 rfl (by omega) fun a17 hq18 => ?_
        refine ix rfl (det_ixq slt56 rfl rfl hq18 rfl t55 rfl (by omega)) ?_
        refine ix rfl (det_ld_agg (us := cSp3 (rdamageSpans2.1.getD t55 Sp3.zero)) ty63 rfl rfl (at_slq (c := cSp3) (sz := 3) hq18 (fun _ => rfl) 0 rfl (gd Sp3.zero (by omega))) rfl) ?_
        refine it rfl (tri_alloc (cs := cSp3 Sp3.zero) zero63 rfl) fun b19 => ?_
        refine it rfl (tri_store (us := cSp3 (rdamageSpans2.1.getD t55 Sp3.zero)) (cs' := cSp3 (rdamageSpans2.1.getD t55 Sp3.zero)) ty63 rfl rfl rfl 0 rfl rfl rfl rfl rfl rfl) fun _ => ?_
        refine ie ?_
        refine sr 3 rfl ?_
        refine ip 1 2 [(59, pt b19 1)] (by kernel_rfl) ?_
        refine ix rfl (det_own_one (v := iv ((rdamageSpans2.1.getD t55 Sp3.zero).frm)) ty3 rfl rfl 0 rfl rfl) ?_
        refine ip 1 0 [(16, iv ((rdamageSpans2.1.getD t55 Sp3.zero).frm))] (by kernel_rfl) ?_
        refine ie ?_
        refine J_block ?_
        refine JL2 (fun (fu : Nat) (at_ : Int) => ((rdamageSpans2.1.getD t55 Sp3.zero).to - at_).toNat < fu ∧ law24_DamageTriangle_l3 aRows cRows rdamageSpans rdamageSpans1 rdamageSpans2 t55 (law24_DamageTriangle_l2 aRows cRows rdamageSpans rdamageSpans1 rdamageSpans2 (rdamageSpans2.1.drop (t55 + 1))) fu at_ = R ∧ (rdamageSpans2.1.getD t55 Sp3.zero).frm ≤ at_) (fun (fu : Nat) (at_ : Int) => [(3, pt b1 0), (5, pt b3 0), (7, .slice (va r5.q) rdamageSpans.1.length r5.k), (9, .slice (va r7.q) rdamageSpans1.1.length r7.k), (13, .func (.func 41) #[] #[]), (15, pt b19 0), (16, iv at_), (53, .slice (va r9.q) rdamageSpans2.1.length r9.k), (54, iv (rdamageSpans2.1.length : Int)), (55, iv (t55 : Int))]) (fun (fu : Nat) (at_ : Int) => [bx b19 (cSp3 (rdamageSpans2.1.getD t55 Sp3.zero)) 63, bx b3 [iv cCols, .slice cRowsq cRows.length cRowsk, iv cCursor.row, iv cCursor.col, bv cVisible, iv cShape, sv cTitle] 55, bx b2 [iv bCols, .slice bRowsq bRows.length bRowsk, iv bCursor.row, iv bCursor.col, bv bVisible, iv bShape, sv bTitle] 55, bx b1 [iv aCols, .slice aRowsq aRows.length aRowsk, iv aCursor.row, iv aCursor.col, bv aVisible, iv aShape, sv aTitle] 55]) (fun (fu : Nat) (at_ : Int) => [sl cSp3 (va r9.q) rdamageSpans2.1, sl cSp3 (va r7.q) rdamageSpans1.1, sl cSp3 (va r5.q) rdamageSpans.1, sl cSlc aRowsq aRowsrs, rowsF cCel aRowsrs aRows, sl cSlc bRowsq bRowsrs, rowsF cCel bRowsrs bRows, sl cSlc cRowsq cRowsrs, rowsF cCel cRowsrs cRows, sl cSpn (some ⟨0, 0, none⟩) tab0, sl cSpn (some ⟨1, 0, none⟩) tab1]) (fun (fu : Nat) (at_ : Int) => fu) (((rdamageSpans2.1.getD t55 Sp3.zero).to - ((rdamageSpans2.1.getD t55 Sp3.zero).frm)).toNat + 1) ((rdamageSpans2.1.getD t55 Sp3.zero).frm) ⟨(Nat.lt_succ_self _), hR, (by omega)⟩ ⟨rfl, rfl, rfl, rfl, rfl, rfl, (by first | rfl | (simp only [List.length_set, List.length_append, List.length_cons, List.length_nil]; rfl) | simp | (simp; omega)), rfl, rfl, rfl, trivial⟩ (mk [true, true, true, true] rfl) Foll.refl ?_
        rintro fu at_ ⟨hm20, hR, hk⟩
        obtain ⟨fu1, rfl⟩ : ∃ m, fu = m + 1 := ⟨fu - 1, by omega⟩
        replace hR := (law24_DamageTriangle_l3.eq_2 ..).symm.trans hR
        refine J_seq ?_
        refine sr 4 rfl ?_
        refine ip 2 2 [(61, iv at_), (62, pt b19 2)] (by kernel_rfl) ?_
        refine ix rfl (det_own_one (v := iv ((rdamageSpans2.1.getD t55 Sp3.zero).to)) ty3 rfl rfl 0 rfl rfl) ?_
        refine ip 1 0 [(64, bv (decide (at_ < (rdamageSpans2.1.getD t55 Sp3.zero).to)))] (by kernel_rfl) ?_
        refine ie ?_
        refine J_if rfl (fun h21 => ?_) (fun h21 => ?_)
        · have h21p : at_ < (rdamageSpans2.1.getD t55 Sp3.zero).to := by simpa using h21
          replace hR := bt hR h21
          refine J_skip ?_
          refine nx ?_
          refine J_seq ?_
          refine J_block ?_
          refine sd 37 rfl (by kernel_rfl) rfl ?_
          refine dp 1 36 [(67, pt b1 1)] (by kernel_rfl) ?_
          refine dd rfl (det_own_one (v := .slice aRowsq aRows.length aRowsk) ty51 rfl rfl 3 rfl rfl) ?_
          refine dp 1 34 [(69, pt b19 0)] (by kernel_rfl) ?_
          refine dd rfl (det_own_one (v := iv ((rdamageSpans2.1.getD t55 Sp3.zero).row)) ty3 rfl rfl 0 rfl rfl) ?_
          refine JD_base 3 rfl (by omega) fun a22 hq23 => ?_
          refine JD_fact1 (rows_atD (k := ((rdamageSpans2.1.getD t55 Sp3.zero).row).toNat) (d := (⟨none, 0, 0⟩ : Slc)) hrowsaRowsrs 4 rfl (by have := hrowsaRowsrs.1; omega)) ?_
          have := rows_cap hrowsaRowsrs (k := ((rdamageSpans2.1.getD t55 Sp3.zero).row).toNat) (d := (⟨none, 0, 0⟩ : Slc)) (by have := hrowsaRowsrs.1; omega)
          refine dd rfl (det_ixq slt51 rfl rfl hq23 rfl (((rdamageSpans2.1.getD t55 Sp3.zero).row).toNat) (by omega) (by omega)) ?_
          refine dd rfl (det_conv (det_ld_one (v := .slice ((aRowsrs.getD (((rdamageSpans2.1.getD t55 Sp3.zero).row).toNat) (⟨none, 0, 0⟩ : Slc)).q) ((aRowsrs.getD (((rdamageSpans2.1.getD t55 Sp3.zero).row).toNat) (⟨none, 0, 0⟩ : Slc)).n) ((aRowsrs.getD (((rdamageSpans2.1.getD t55 Sp3.zero).row).toNat) (⟨none, 0, 0⟩ : Slc)).k)) (us := [.slice ((aRowsrs.getD (((rdamageSpans2.1.getD t55 Sp3.zero).row).toNat) (⟨none, 0, 0⟩ : Slc)).q) ((aRowsrs.getD (((rdamageSpans2.1.getD t55 Sp3.zero).row).toNat) (⟨none, 0, 0⟩ : Slc)).n) ((aRowsrs.getD (((rdamageSpans2.1.getD t55 Sp3.zero).row).toNat) (⟨none, 0, 0⟩ : Slc)).k)]) ty74 rfl rfl (at_slq (c := cSlc) (sz := 1) hq23 (fun _ => rfl) 4 rfl (gd (⟨none, 0, 0⟩ : Slc) (by have := hrowsaRowsrs.1; omega))) rfl) (rows_val hrowsaRowsrs (by have := hrowsaRowsrs.1; omega))) ?_
          refine dp 1 30 [(73, iv at_)] (by kernel_rfl) ?_
          refine JD_base 0 rfl (by omega) fun a24 hq25 => ?_
          refine dd rfl (det_ixq slt74 rfl rfl hq25 rfl ((at_).toNat) (by omega) (by omega)) ?_
          refine dd rfl (det_ld_agg (us := cCel ((aRows.getD (((rdamageSpans2.1.getD t55 Sp3.zero).row).toNat) []).getD ((at_).toNat) Cel.zero)) ty79 rfl rfl (at_slq (c := cCel) (sz := 12) hq25 (fun _ => rfl) 0 rfl (gd Cel.zero (by omega))) rfl) ?_
          refine dp 1 27 [(76, pt b3 1)] (by kernel_rfl) ?_
          refine dd rfl (det_own_one (v := .slice cRowsq cRows.length cRowsk) ty51 rfl rfl 1 rfl rfl) ?_
          refine dp 1 25 [(78, pt b19 0)] (by kernel_rfl) ?_
          refine dd rfl (det_own_one (v := iv ((rdamageSpans2.1.getD t55 Sp3.zero).row)) ty3 rfl rfl 0 rfl rfl) ?_
          refine JD_base 8 rfl (by omega) fun a26 hq27 => ?_
          refine JD_fact1 (rows_atD (k := ((rdamageSpans2.1.getD t55 Sp3.zero).row).toNat) (d := (⟨none, 0, 0⟩ : Slc)) hrowscRowsrs 9 rfl (by have := hrowscRowsrs.1; omega)) ?_
          have := rows_cap hrowscRowsrs (k := ((rdamageSpans2.1.getD t55 Sp3.zero).row).toNat) (d := (⟨none, 0, 0⟩ : Slc)) (by have := hrowscRowsrs.1; omega)
          refine dd rfl (det_ixq slt51 rfl rfl hq27 rfl (((rdamageSpans2.1.getD t55 Sp3.zero).row).toNat) (by omega) (by omega)) ?_
          refine dd rfl (det_conv (det_ld_one (v := .slice ((cRowsrs.getD (((rdamageSpans2.1.getD t55 Sp3.zero).row).toNat) (⟨none, 0, 0⟩ : Slc)).q) ((cRowsrs.getD (((rdamageSpans2.1.getD t55 Sp3.zero).row).toNat) (⟨none, 0, 0⟩ : Slc)).n) ((cRowsrs.getD (((rdamageSpans2.1.getD t55 Sp3.zero).row).toNat) (⟨none, 0, 0⟩ : Slc)).k)) (us := [.slice ((cRowsrs.getD (((rdamageSpans2.1.getD t55 Sp3.zero).row).toNat) (⟨none, 0, 0⟩ : Slc)).q) ((cRowsrs.getD (((rdamageSpans2.1.getD t55 Sp3.zero).row).toNat) (⟨none, 0, 0⟩ : Slc)).n) ((cRowsrs.getD (((rdamageSpans2.1.getD t55 Sp3.zero).row).toNat) (⟨none, 0, 0⟩ : Slc)).k)]) ty74 rfl rfl (at_slq (c := cSlc) (sz := 1) hq27 (fun _ => rfl) 9 rfl (gd (⟨none, 0, 0⟩ : Slc) (by have := hrowscRowsrs.1; omega))) rfl) (rows_val hrowscRowsrs (by have := hrowscRowsrs.1; omega))) ?_
          refine dp 1 21 [(82, iv at_)] (by kernel_rfl) ?_
          refine JD_base 0 rfl (by omega) fun a28 hq29 => ?_
          refine dd rfl (det_ixq slt74 rfl rfl hq29 rfl ((at_).toNat) (by omega) (by omega)) ?_
          refine dd rfl (det_ld_agg (us := cCel ((cRows.getD (((rdamageSpans2.1.getD t55 Sp3.zero).row).toNat) []).getD ((at_).toNat) Cel.zero)) ty79 rfl rfl (at_slq (c := cCel) (sz := 12) hq29 (fun _ => rfl) 0 rfl (gd Cel.zero (by omega))) rfl) ?_
          refine dd rfl (det_nes (a := ((aRows.getD (((rdamageSpans2.1.getD t55 Sp3.zero).row).toNat) []).getD ((at_).toNat) Cel.zero)) (b := ((cRows.getD (((rdamageSpans2.1.getD t55 Sp3.zero).row).toNat) []).getD ((at_).toNat) Cel.zero)) eqt79 rfl rfl rfl) ?_
          refine dp 1 17 [(86, bv (!(decide (((aRows.getD (((rdamageSpans2.1.getD t55 Sp3.zero).row).toNat) []).getD ((at_).toNat) Cel.zero) = ((cRows.getD (((rdamageSpans2.1.getD t55 Sp3.zero).row).toNat) []).getD ((at_).toNat) Cel.zero)))))] (by kernel_rfl) ?_
          refine dand 8 9 86 94 (!(law24_DamageTriangle_1 rdamageSpans.1 ((rdamageSpans2.1.getD t55 Sp3.zero).row) at_)) rfl (by kernel_rfl) (fun g30 => ?_) ?_
          · have g30p : ¬ ((aRows.getD (((rdamageSpans2.1.getD t55 Sp3.zero).row).toNat) []).getD ((at_).toNat) Cel.zero) = ((cRows.getD (((rdamageSpans2.1.getD t55 Sp3.zero).row).toNat) []).getD ((at_).toNat) Cel.zero) := by simpa using g30
            refine dp 3 5 [(87, .func (.func 41) #[] #[]), (88, .slice (va r5.q) rdamageSpans.1.length r5.k), (89, pt b19 0)] (by kernel_rfl) ?_
            refine dd rfl (det_own_one (v := iv ((rdamageSpans2.1.getD t55 Sp3.zero).row)) ty3 rfl rfl 0 rfl rfl) ?_
            refine dp 1 3 [(91, iv at_)] (by kernel_rfl) ?_
            refine ddc rfl (det_call (law24_DamageTriangle_1_c rdamageSpans.1 ((rdamageSpans2.1.getD t55 Sp3.zero).row) at_ (va r5.q) r5.k (by first | omega | (simp only [List.length_take, List.length_drop, List.length_append, List.length_cons, List.length_nil, List.length_set, List.length_map]; omega) | decide) (by first | omega | (simp only [List.length_take, List.length_drop, List.length_append, List.length_cons, List.length_nil, List.length_set, List.length_map]; omega) | decide) _ rfl) rfl rfl rfl rfl rfl (Foll.pick [4] rfl)) ?_
            refine dp 2 0 [(94, bv (!(law24_DamageTriangle_1 rdamageSpans.1 ((rdamageSpans2.1.getD t55 Sp3.zero).row) at_)))] (by kernel_rfl) ?_
            exact JD_end (armD 8 86 94 g30 rfl rfl rfl rfl rfl)
          refine dp 1 8 [(95, bv ((!(decide (((aRows.getD (((rdamageSpans2.1.getD t55 Sp3.zero).row).toNat) []).getD ((at_).toNat) Cel.zero) = ((cRows.getD (((rdamageSpans2.1.getD t55 Sp3.zero).row).toNat) []).getD ((at_).toNat) Cel.zero)))) && (!(law24_DamageTriangle_1 rdamageSpans.1 ((rdamageSpans2.1.getD t55 Sp3.zero).row) at_))))] (by kernel_rfl) ?_
          refine dand 8 0 95 103 (!(law24_DamageTriangle_1 rdamageSpans1.1 ((rdamageSpans2.1.getD t55 Sp3.zero).row) at_)) rfl (by kernel_rfl) (fun g31 => ?_) ?_
          · have g31p := g31; try simp only [Bool.and_eq_true, Bool.or_eq_true, Bool.and_eq_false_iff, Bool.or_eq_false_iff, Bool.not_eq_true', Bool.not_eq_false', decide_eq_true_eq, decide_eq_false_iff_not] at g31p
            refine dp 3 5 [(96, .func (.func 41) #[] #[]), (97, .slice (va r7.q) rdamageSpans1.1.length r7.k), (98, pt b19 0)] (by kernel_rfl) ?_
            refine dd rfl (det_own_one (v := iv ((rdamageSpans2.1.getD t55 Sp3.zero).row)) ty3 rfl rfl 0 rfl rfl) ?_
            refine dp 1 3 [(100, iv at_)] (by kernel_rfl) ?_
            refine ddc rfl (det_call (law24_DamageTriangle_1_c rdamageSpans1.1 ((rdamageSpans2.1.getD t55 Sp3.zero).row) at_ (va r7.q) r7.k (by first | omega | (simp only [List.length_take, List.length_drop, List.length_append, List.length_cons, List.length_nil, List.length_set, List.length_map]; omega) | decide) (by first | omega | (simp only [List.length_take, List.length_drop, List.length_append, List.length_cons, List.length_nil, List.length_set, List.length_map]; omega) | decide) _ rfl) rfl rfl rfl rfl rfl (Foll.pick [3] rfl)) ?_
            refine dp 2 0 [(103, bv (!(law24_DamageTriangle_1 rdamageSpans1.1 ((rdamageSpans2.1.getD t55 Sp3.zero).row) at_)))] (by kernel_rfl) ?_
            exact JD_end (armD 8 95 103 g31 rfl rfl rfl rfl rfl)
          refine de ?_
          refine J_if rfl (fun h32 => ?_) (fun h32 => ?_)
          · have h32p := h32; try simp only [Bool.and_eq_true, Bool.or_eq_true, Bool.and_eq_false_iff, Bool.or_eq_false_iff, Bool.not_eq_true', Bool.not_eq_false', decide_eq_true_eq, decide_eq_false_iff_not] at h32p
            replace hR := bt hR h32
            refine sr 1 rfl ?_
            refine ip 1 0 [(6, bv false)] (by kernel_rfl) ?_
            refine ie ?_
            refine J_ret ?_
            subst hR
            exact ends_ret rfl ⟨hr, hD⟩ (by simp [hD]) (res1 rfl (resV_tmp rfl)) () (by rfl) (mk [false, false, false, false] rfl) Foll.nil
          · have h32p := h32; try simp only [Bool.and_eq_true, Bool.or_eq_true, Bool.and_eq_false_iff, Bool.or_eq_false_iff, Bool.not_eq_true', Bool.not_eq_false', decide_eq_true_eq, decide_eq_false_iff_not] at h32p
            replace hR := bf hR h32
            refine J_skip ?_
            refine nx ?_
            refine J_region 3 rfl ?_
            refine ip 1 2 [(65, iv at_)] (by kernel_rfl) ?_
            refine ix rfl (det_add64 rfl rfl rfl rfl (by omega)) ?_
            refine ip 1 0 [(16, iv (at_ + 1))] (by kernel_rfl) ?_
            refine JI_end ?_
            exact againL2 (z1 := (fu1 + 1)) (z2 := at_) fu1 (at_ + 1) ⟨(by omega), hR, (by omega)⟩ (Nat.lt_succ_self _) ⟨rfl, rfl, rfl, rfl, rfl, rfl, (by first | rfl | (simp only [List.length_set, List.length_append, List.length_cons, List.length_nil]; rfl) | simp | (simp; omega)), rfl, rfl, rfl, trivial⟩ (mk [true, true, true, true] rfl) (Foll.pick [2, 3, 4, 5, 6, 7, 8, 9, 10, 11, 12] rfl)
        · have h21p : ¬ (at_ < (rdamageSpans2.1.getD t55 Sp3.zero).to) := by simpa using h21
          replace hR := bf hR h21
          refine J_exit ?_
          refine nx ?_
          refine J_region 2 rfl ?_
          refine ix rfl (det_add64 rfl rfl rfl rfl (by omega)) ?_
          refine ip 1 0 [(55, iv ((t55 : Int) + 1))] (by kernel_rfl) ?_
          refine JI_end ?_
          exact againL1 (z1 := t55) (t55 + 1) ⟨(by omega), hR⟩ (by (try dsimp only); omega) ⟨rfl, rfl, rfl, rfl, rfl, rfl, rfl, (by first | rfl | (simp only [List.length_set, List.length_append, List.length_cons, List.length_nil]; rfl) | simp | (simp; omega)), trivial⟩ (mk [false, true, true, true] rfl) Foll.refl
      · have h16p : ¬ ((t55 : Int) < (rdamageSpans2.1.length : Int)) := by simpa using h16
        rw [dropn h16p] at hR; replace hR := (law24_DamageTriangle_l2.eq_1 ..).symm.trans hR
        refine J_exit ?_
        refine nx ?_
        refine sr 1 rfl ?_
        refine ip 1 0 [(6, bv true)] (by kernel_rfl) ?_
        refine ie ?_
        refine J_ret ?_
        subst hR
        exact ends_ret rfl ⟨hr, hD⟩ (by simp [hD]) (res1 rfl (resV_tmp rfl)) () (by rfl) (mk [false, false, false] rfl) Foll.nil

def law24_DamageLeads (aCols : Int) (aRows : List (List Cel)) (aCursor : Plc) (aVisible : Bool) (aShape : Int) (aTitle : List UInt8) (bCols : Int) (bRows : List (List Cel)) (bCursor : Plc) (bVisible : Bool) (bShape : Int) (bTitle : List UInt8) (gap : UInt8) : Bool :=
  (bif (!law24_wakes) then false else (bindV (damage_Spans aCols aRows aCursor aVisible aShape aTitle bCols bRows bCursor bVisible bShape bTitle) fun (rdamageSpans : List Sp3 × Int) => (bif (!decide (rdamageSpans.2 = 0)) then ((decide (rdamageSpans.2 = 330)) || (decide (rdamageSpans.2 = 2))) else (bindV (damage_Over aCols aRows aCursor aVisible aShape aTitle bCols bRows bCursor bVisible bShape bTitle rdamageSpans.1) fun (rdamageOver : Int × List (List Cel) × Int × Int × Bool × Int × List UInt8 × Int) => (bif (((((!decide (rdamageOver.2.2.2.2.2.2.2 = 0)) || (!(law24_cells rdamageOver.1 rdamageOver.2.1 (⟨rdamageOver.2.2.1, rdamageOver.2.2.2.1⟩ : Plc) rdamageOver.2.2.2.2.1 rdamageOver.2.2.2.2.2.1 rdamageOver.2.2.2.2.2.2.1 bCols bRows bCursor bVisible bShape bTitle))) || (!decide ((frame_Check rdamageOver.1 rdamageOver.2.1 (⟨rdamageOver.2.2.1, rdamageOver.2.2.2.1⟩ : Plc) rdamageOver.2.2.2.2.1 rdamageOver.2.2.2.2.2.1 rdamageOver.2.2.2.2.2.2.1) = 0))) || (!(decide ((⟨rdamageOver.2.2.1, rdamageOver.2.2.2.1⟩ : Plc) = aCursor)))) || (!(decide (rdamageOver.2.2.2.2.2.2.1 = aTitle)))) then false else (bindV (damage_Join rdamageSpans.1 (IntKind.i64.wrap ((gap.toNat : Int) % 5))) fun (rdamageJoin : List Sp3) => (bindV (damage_Over aCols aRows aCursor aVisible aShape aTitle bCols bRows bCursor bVisible bShape bTitle rdamageJoin) fun (rdamageOver1 : Int × List (List Cel) × Int × Int × Bool × Int × List UInt8 × Int) => ((((decide (rdamageOver1.2.2.2.2.2.2.2 = 0)) && (law24_cells rdamageOver1.1 rdamageOver1.2.1 (⟨rdamageOver1.2.2.1, rdamageOver1.2.2.2.1⟩ : Plc) rdamageOver1.2.2.2.2.1 rdamageOver1.2.2.2.2.2.1 rdamageOver1.2.2.2.2.2.2.1 bCols bRows bCursor bVisible bShape bTitle)) && (decide ((rdamageJoin.length : Int) ≤ (rdamageSpans.1.length : Int)))) && (decide ((damage_Count rdamageSpans.1) ≤ (damage_Count rdamageJoin)))))))))))

set_option maxRecDepth 100000 in
theorem law24_DamageLeads_c (aCols : Int) (aRows : List (List Cel)) (aCursor : Plc) (aVisible : Bool) (aShape : Int) (aTitle : List UInt8) (bCols : Int) (bRows : List (List Cel)) (bCursor : Plc) (bVisible : Bool) (bShape : Int) (bTitle : List UInt8) (gap : UInt8) (aRowsq : Option Addr) (aRowsrs : List Slc) (aRowsk : Nat) (bRowsq : Option Addr) (bRowsrs : List Slc) (bRowsk : Nat) (hrowsaRowsrs : RowsOk aRowsrs aRows) (hlaRows : aRows.length ≤ 9223372036854775807) (hcaRows : aRows.length ≤ aRowsk) (hrowsbRowsrs : RowsOk bRowsrs bRows) (hlbRows : bRows.length ≤ 9223372036854775807) (hcbRows : bRows.length ≤ bRowsk) (hT : aTitle.length ≤ 100000000) (hT2 : bTitle.length ≤ 100000000) (R : Bool) (hR : law24_DamageLeads aCols aRows aCursor aVisible aShape aTitle bCols bRows bCursor bVisible bShape bTitle gap = R) : ConV Tryz.prog 13 [ag [iv aCols, .slice aRowsq aRows.length aRowsk, iv aCursor.row, iv aCursor.col, bv aVisible, iv aShape, sv aTitle], ag [iv bCols, .slice bRowsq bRows.length bRowsk, iv bCursor.row, iv bCursor.col, bv bVisible, iv bShape, sv bTitle], .int .u8 (gap.toNat : Int)] [sl cSlc aRowsq aRowsrs, rowsF cCel aRowsrs aRows, sl cSlc bRowsq bRowsrs, rowsF cCel bRowsrs bRows, sl cSpn (some ⟨0, 0, none⟩) tab0, sl cSpn (some ⟨1, 0, none⟩) tab1] (bv R) := by
  refine con_of_J (n := 96) Tryz.func13 rfl (by kernel_rfl) rfl rfl [(0, ag [iv aCols, .slice aRowsq aRows.length aRowsk, iv aCursor.row, iv aCursor.col, bv aVisible, iv aShape, sv aTitle]), (1, ag [iv bCols, .slice bRowsq bRows.length bRowsk, iv bCursor.row, iv bCursor.col, bv bVisible, iv bShape, sv bTitle]), (2, .int .u8 (gap.toNat : Int))] ⟨rfl, rfl, rfl, trivial⟩ fun X hX hr hD => ?_
  replace hR := (law24_DamageLeads.eq_1 ..).symm.trans hR
  have := hrowsaRowsrs.1
  have := hrowsbRowsrs.1
  refine sr 3 rfl ?_
  refine it rfl (tri_box (cs := [iv aCols, .slice aRowsq aRows.length aRowsk, iv aCursor.row, iv aCursor.col, bv aVisible, iv aShape, sv aTitle]) rfl rfl rfl) fun b1 => ?_
  refine it rfl (tri_box (cs := [iv bCols, .slice bRowsq bRows.length bRowsk, iv bCursor.row, iv bCursor.col, bv bVisible, iv bShape, sv bTitle]) rfl rfl rfl) fun b2 => ?_
  refine ip 1 0 [] (by kernel_rfl) ?_
  refine ie ?_
  refine J_seq ?_
  refine sr 2 rfl ?_
  refine ixc rfl (det_call (law24_wakes_c _ rfl) rfl rfl rfl rfl rfl (Foll.pick [4, 5] rfl)) ?_
  refine ip 1 0 [(14, bv (!law24_wakes))] (by kernel_rfl) ?_
  refine ie ?_
  refine J_if rfl (fun h3 => ?_) (fun h3 => ?_)
  · replace hR := bt hR h3
    refine sr 1 rfl ?_
    refine ip 1 0 [(6, bv false)] (by kernel_rfl) ?_
    refine ie ?_
    refine J_ret ?_
    subst hR
    exact ends_ret rfl ⟨hr, hD⟩ (by simp [hD]) (res1 rfl (resV_tmp rfl)) () (by rfl) (mk [false, false] rfl) Foll.nil
  · replace hR := bf hR h3
    refine J_skip ?_
    refine nx ?_
    refine sr 8 rfl ?_
    refine ix rfl (det_own_agg (us := [iv aCols, .slice aRowsq aRows.length aRowsk, iv aCursor.row, iv aCursor.col, bv aVisible, iv aShape, sv aTitle]) ty55 rfl rfl 1 rfl rfl rfl) ?_
    refine ix rfl (det_own_agg (us := [iv bCols, .slice bRowsq bRows.length bRowsk, iv bCursor.row, iv bCursor.col, bv bVisible, iv bShape, sv bTitle]) ty55 rfl rfl 0 rfl rfl rfl) ?_
    have hQ := bindVx hR; clear hR; obtain ⟨rdamageSpans, hrdamageSpans, hR⟩ := hQ
    refine it rfl (tri_callP (L2 := [bx b2 [iv bCols, .slice bRowsq bRows.length bRowsk, iv bCursor.row, iv bCursor.col, bv bVisible, iv bShape, sv bTitle] 55, bx b1 [iv aCols, .slice aRowsq aRows.length aRowsk, iv aCursor.row, iv aCursor.col, bv aVisible, iv aShape, sv aTitle] 55]) (damage_Spans_c aCols aRows aCursor aVisible aShape aTitle bCols bRows bCursor bVisible bShape bTitle aRowsq aRowsrs aRowsk bRowsq bRowsrs bRowsk hrowsaRowsrs (by first | omega | (simp only [List.length_take, List.length_drop, List.length_append, List.length_cons, List.length_nil, List.length_set, List.length_map]; omega) | decide) (by first | omega | (simp only [List.length_take, List.length_drop, List.length_append, List.length_cons, List.length_nil, List.length_set, List.length_map]; omega) | decide) hrowsbRowsrs (by first | omega | (simp only [List.length_take, List.length_drop, List.length_append, List.length_cons, List.length_nil, List.length_set, List.length_map]; omega) | decide) (by first | omega | (simp only [List.length_take, List.length_drop, List.length_append, List.length_cons, List.length_nil, List.length_set, List.length_map]; omega) | decide) (by first | omega | (simp only [List.length_nil]; omega)) (by first | omega | (simp only [List.length_nil]; omega)) rdamageSpans hrdamageSpans) rfl rfl rfl rfl rfl Foll.refl (List.Perm.refl _) (fun ⟨r4, hk5⟩ => (bx b2 [iv bCols, .slice bRowsq bRows.length bRowsk, iv bCursor.row, iv bCursor.col, bv bVisible, iv bShape, sv bTitle] 55 :: bx b1 [iv aCols, .slice aRowsq aRows.length aRowsk, iv aCursor.row, iv aCursor.col, bv aVisible, iv aShape, sv aTitle] 55 :: (vo cSp3 63 r4 rdamageSpans.1) ++ ([]))) (fun ⟨r4, hk5⟩ => permC [vo cSp3 63 r4 rdamageSpans.1, [bx b2 [iv bCols, .slice bRowsq bRows.length bRowsk, iv bCursor.row, iv bCursor.col, bv bVisible, iv bShape, sv bTitle] 55], [bx b1 [iv aCols, .slice aRowsq aRows.length aRowsk, iv aCursor.row, iv aCursor.col, bv aVisible, iv aShape, sv aTitle] 55]] [1, 2, 0] 3 rfl (by decide) (by first | rfl | simp only [List.flatten_cons, List.flatten_nil, List.append_nil, List.cons_append, List.nil_append, List.append_assoc]) [[bx b2 [iv bCols, .slice bRowsq bRows.length bRowsk, iv bCursor.row, iv bCursor.col, bv bVisible, iv bShape, sv bTitle] 55], [bx b1 [iv aCols, .slice aRowsq aRows.length aRowsk, iv aCursor.row, iv aCursor.col, bv aVisible, iv aShape, sv aTitle] 55], vo cSp3 63 r4 rdamageSpans.1] rfl (by first | rfl | simp only [List.flatten_cons, List.flatten_nil, List.append_nil, List.cons_append, List.nil_append, List.append_assoc]))) fun ⟨r4, hk5⟩ => ?_
    have := VOk.le hk5
    have := VOk.cap hk5
    have := damage_Spans_len aCols aRows aCursor aVisible aShape aTitle bCols bRows bCursor bVisible bShape bTitle; try rw [hrdamageSpans] at this
    refine JI_seal [bx b2 [iv bCols, .slice bRowsq bRows.length bRowsk, iv bCursor.row, iv bCursor.col, bv bVisible, iv bShape, sv bTitle] 55, bx b1 [iv aCols, .slice aRowsq aRows.length aRowsk, iv aCursor.row, iv aCursor.col, bv aVisible, iv aShape, sv aTitle] 55] [] (T := 63) (c := cSp3) (r := r4) (xs := rdamageSpans.1) hk5 (by first | rfl | simp only [List.cons_append, List.append_assoc, List.nil_append, List.append_nil]) ?_
    refine ip 5 0 [(7, .slice (va r4.q) rdamageSpans.1.length r4.k), (8, iv rdamageSpans.2)] (by kernel_rfl) ?_
    refine ie ?_
    refine J_seq ?_
    refine sr 2 rfl ?_
    refine ip 2 0 [(22, bv (!decide (rdamageSpans.2 = 0)))] (by kernel_rfl) ?_
    refine ie ?_
    refine J_if rfl (fun h6 => ?_) (fun h6 => ?_)
    · have h6p : ¬ rdamageSpans.2 = 0 := by simpa using h6
      replace hR := bt hR h6
      refine sr 7 rfl ?_
      refine ip 3 4 [(25, bv (decide (rdamageSpans.2 = 330)))] (by kernel_rfl) ?_
      refine ior 3 1 25 28 (decide (rdamageSpans.2 = 2)) rfl (by kernel_rfl) (fun g7 => ?_) ?_
      · have g7p : ¬ (rdamageSpans.2 = 330) := by simpa using g7
        refine ip 3 0 [(28, bv (decide (rdamageSpans.2 = 2)))] (by kernel_rfl) ?_
        exact JI_end (armI 2 25 28 g7 Foll.refl (mk [true, true] rfl) rfl rfl rfl rfl rfl)
      refine ip 1 0 [(6, bv ((decide (rdamageSpans.2 = 330)) || (decide (rdamageSpans.2 = 2))))] (by kernel_rfl) ?_
      refine ie ?_
      refine J_ret ?_
      subst hR
      exact ends_ret rfl ⟨hr, hD⟩ (by simp [hD]) (res1 rfl (resV_tmp rfl)) () (by rfl) (mk [false, false] rfl) Foll.nil
    · have h6p : ¬ (¬ rdamageSpans.2 = 0) := by simpa using h6
      replace hR := bf hR h6
      refine J_skip ?_
      refine nx ?_
      refine sr 10 rfl ?_
      refine ix rfl (det_own_agg (us := [iv aCols, .slice aRowsq aRows.length aRowsk, iv aCursor.row, iv aCursor.col, bv aVisible, iv aShape, sv aTitle]) ty55 rfl rfl 1 rfl rfl rfl) ?_
      refine ix rfl (det_own_agg (us := [iv bCols, .slice bRowsq bRows.length bRowsk, iv bCursor.row, iv bCursor.col, bv bVisible, iv bShape, sv bTitle]) ty55 rfl rfl 0 rfl rfl rfl) ?_
      refine ip 1 7 [(32, .slice (va r4.q) rdamageSpans.1.length r4.k)] (by kernel_rfl) ?_
      have hQ := bindVx hR; clear hR; obtain ⟨rdamageOver, hrdamageOver, hR⟩ := hQ
      refine it rfl (tri_callP (L2 := [bx b2 [iv bCols, .slice bRowsq bRows.length bRowsk, iv bCursor.row, iv bCursor.col, bv bVisible, iv bShape, sv bTitle] 55, bx b1 [iv aCols, .slice aRowsq aRows.length aRowsk, iv aCursor.row, iv aCursor.col, bv aVisible, iv aShape, sv aTitle] 55]) (damage_Over_c aCols aRows aCursor aVisible aShape aTitle bCols bRows bCursor bVisible bShape bTitle rdamageSpans.1 aRowsq aRowsrs aRowsk bRowsq bRowsrs bRowsk (va r4.q) r4.k hrowsaRowsrs (by first | omega | (simp only [List.length_take, List.length_drop, List.length_append, List.length_cons, List.length_nil, List.length_set, List.length_map]; omega) | decide) (by first | omega | (simp only [List.length_take, List.length_drop, List.length_append, List.length_cons, List.length_nil, List.length_set, List.length_map]; omega) | decide) hrowsbRowsrs (by first | omega | (simp only [List.length_take, List.length_drop, List.length_append, List.length_cons, List.length_nil, List.length_set, List.length_map]; omega) | decide) (by first | omega | (simp only [List.length_take, List.length_drop, List.length_append, List.length_cons, List.length_nil, List.length_set, List.length_map]; omega) | decide) (by first | omega | (simp only [List.length_take, List.length_drop, List.length_append, List.length_cons, List.length_nil, List.length_set, List.length_map]; omega) | decide) (by first | omega | (simp only [List.length_take, List.length_drop, List.length_append, List.length_cons, List.length_nil, List.length_set, List.length_map]; omega) | decide) (by first | omega | (simp only [List.length_nil]; omega)) (by first | omega | (simp only [List.length_nil]; omega)) rdamageOver hrdamageOver) rfl rfl rfl rfl rfl (Foll.pick [1, 2, 3, 4, 0, 5, 6] rfl) (List.Perm.refl _) (fun ⟨⟨r8, rs9⟩, hp12⟩ => (bx b2 [iv bCols, .slice bRowsq bRows.length bRowsk, iv bCursor.row, iv bCursor.col, bv bVisible, iv bShape, sv bTitle] 55 :: bx b1 [iv aCols, .slice aRowsq aRows.length aRowsk, iv aCursor.row, iv aCursor.col, bv aVisible, iv aShape, sv aTitle] 55 :: (vo cSlc 74 r8 rs9) ++ ([]))) (fun ⟨⟨r8, rs9⟩, hp12⟩ => permC [vo cSlc 74 r8 rs9, [bx b2 [iv bCols, .slice bRowsq bRows.length bRowsk, iv bCursor.row, iv bCursor.col, bv bVisible, iv bShape, sv bTitle] 55], [bx b1 [iv aCols, .slice aRowsq aRows.length aRowsk, iv aCursor.row, iv aCursor.col, bv aVisible, iv aShape, sv aTitle] 55]] [1, 2, 0] 3 rfl (by decide) (by first | rfl | simp only [List.flatten_cons, List.flatten_nil, List.append_nil, List.cons_append, List.nil_append, List.append_assoc]) [[bx b2 [iv bCols, .slice bRowsq bRows.length bRowsk, iv bCursor.row, iv bCursor.col, bv bVisible, iv bShape, sv bTitle] 55], [bx b1 [iv aCols, .slice aRowsq aRows.length aRowsk, iv aCursor.row, iv aCursor.col, bv aVisible, iv aShape, sv aTitle] 55], vo cSlc 74 r8 rs9] rfl (by first | rfl | simp only [List.flatten_cons, List.flatten_nil, List.append_nil, List.cons_append, List.nil_append, List.append_assoc]))) fun ⟨⟨r8, rs9⟩, hp12⟩ => ?_
      obtain ⟨hk10, hw11⟩ := hp12
      have := VOk.le hk10
      have := VOk.cap hk10
      have := hw11.1
      have := damage_Over_title aCols aRows aCursor aVisible aShape aTitle bCols bRows bCursor bVisible bShape bTitle rdamageSpans.1; try rw [hrdamageOver] at this
      refine JI_seal [bx b2 [iv bCols, .slice bRowsq bRows.length bRowsk, iv bCursor.row, iv bCursor.col, bv bVisible, iv bShape, sv bTitle] 55, bx b1 [iv aCols, .slice aRowsq aRows.length aRowsk, iv aCursor.row, iv aCursor.col, bv aVisible, iv aShape, sv aTitle] 55] [] (T := 74) (c := cSlc) (r := r8) (xs := rs9) (VOk.cast hk10 (by rw [hw11.1])) (by first | rfl | simp only [List.cons_append, List.append_assoc, List.nil_append, List.append_nil]) ?_
      refine ip 3 3 [(34, ag [iv rdamageOver.1, .slice (va r8.q) rdamageOver.2.1.length r8.k, iv rdamageOver.2.2.1, iv rdamageOver.2.2.2.1, bv rdamageOver.2.2.2.2.1, iv rdamageOver.2.2.2.2.2.1, sv rdamageOver.2.2.2.2.2.2.1]), (35, iv rdamageOver.2.2.2.2.2.2.2)] (by kernel_rfl) ?_
      refine it rfl (tri_alloc (cs := [iv 0, .slice none 0 0, iv 0, iv 0, bv false, iv 0, sv ([] : List UInt8)]) zero55 rfl) fun b13 => ?_
      refine it rfl (tri_store (us := [iv rdamageOver.1, .slice (va r8.q) rdamageOver.2.1.length r8.k, iv rdamageOver.2.2.1, iv rdamageOver.2.2.2.1, bv rdamageOver.2.2.2.2.1, iv rdamageOver.2.2.2.2.2.1, sv rdamageOver.2.2.2.2.2.2.1]) (cs' := [iv rdamageOver.1, .slice (va r8.q) rdamageOver.2.1.length r8.k, iv rdamageOver.2.2.1, iv rdamageOver.2.2.2.1, bv rdamageOver.2.2.2.2.1, iv rdamageOver.2.2.2.2.2.1, sv rdamageOver.2.2.2.2.2.2.1]) ty55 rfl rfl rfl 0 rfl rfl rfl rfl rfl rfl) fun _ => ?_
      refine ip 1 0 [(10, iv rdamageOver.2.2.2.2.2.2.2)] (by kernel_rfl) ?_
      refine ie ?_
      refine J_seq ?_
      refine sr 27 rfl ?_
      refine ip 3 24 [(38, bv (!decide (rdamageOver.2.2.2.2.2.2.2 = 0)))] (by kernel_rfl) ?_
      refine ior 5 19 38 43 (!(law24_cells rdamageOver.1 rdamageOver.2.1 (⟨rdamageOver.2.2.1, rdamageOver.2.2.2.1⟩ : Plc) rdamageOver.2.2.2.2.1 rdamageOver.2.2.2.2.2.1 rdamageOver.2.2.2.2.2.2.1 bCols bRows bCursor bVisible bShape bTitle)) rfl (by kernel_rfl) (fun g14 => ?_) ?_
      · have g14p : ¬ (¬ rdamageOver.2.2.2.2.2.2.2 = 0) := by simpa using g14
        refine ix rfl (det_own_agg (us := [iv rdamageOver.1, .slice (va r8.q) rdamageOver.2.1.length r8.k, iv rdamageOver.2.2.1, iv rdamageOver.2.2.2.1, bv rdamageOver.2.2.2.2.1, iv rdamageOver.2.2.2.2.2.1, sv rdamageOver.2.2.2.2.2.2.1]) ty55 rfl rfl 0 rfl rfl rfl) ?_
        refine ix rfl (det_own_agg (us := [iv bCols, .slice bRowsq bRows.length bRowsk, iv bCursor.row, iv bCursor.col, bv bVisible, iv bShape, sv bTitle]) ty55 rfl rfl 1 rfl rfl rfl) ?_
        refine ixc rfl (det_call (law24_cells_c rdamageOver.1 rdamageOver.2.1 (⟨rdamageOver.2.2.1, rdamageOver.2.2.2.1⟩ : Plc) rdamageOver.2.2.2.2.1 rdamageOver.2.2.2.2.2.1 rdamageOver.2.2.2.2.2.2.1 bCols bRows bCursor bVisible bShape bTitle (va r8.q) rs9 r8.k bRowsq bRowsrs bRowsk hw11 (by first | omega | (simp only [List.length_take, List.length_drop, List.length_append, List.length_cons, List.length_nil, List.length_set, List.length_map]; omega) | decide) (by first | omega | (simp only [List.length_take, List.length_drop, List.length_append, List.length_cons, List.length_nil, List.length_set, List.length_map]; omega) | decide) hrowsbRowsrs (by first | omega | (simp only [List.length_take, List.length_drop, List.length_append, List.length_cons, List.length_nil, List.length_set, List.length_map]; omega) | decide) (by first | omega | (simp only [List.length_take, List.length_drop, List.length_append, List.length_cons, List.length_nil, List.length_set, List.length_map]; omega) | decide) _ rfl) rfl rfl rfl rfl rfl (Foll.pick [0, 1, 5, 6] rfl)) ?_
        refine ip 2 0 [(43, bv (!(law24_cells rdamageOver.1 rdamageOver.2.1 (⟨rdamageOver.2.2.1, rdamageOver.2.2.2.1⟩ : Plc) rdamageOver.2.2.2.2.1 rdamageOver.2.2.2.2.2.1 rdamageOver.2.2.2.2.2.2.1 bCols bRows bCursor bVisible bShape bTitle)))] (by kernel_rfl) ?_
        exact JI_end (armI 5 38 43 g14 Foll.refl (mk [true, true, true] rfl) rfl rfl rfl rfl rfl)
      refine ip 1 18 [(44, bv ((!decide (rdamageOver.2.2.2.2.2.2.2 = 0)) || (!(law24_cells rdamageOver.1 rdamageOver.2.1 (⟨rdamageOver.2.2.1, rdamageOver.2.2.2.1⟩ : Plc) rdamageOver.2.2.2.2.1 rdamageOver.2.2.2.2.2.1 rdamageOver.2.2.2.2.2.2.1 bCols bRows bCursor bVisible bShape bTitle))))] (by kernel_rfl) ?_
      refine ior 4 14 44 48 (!decide ((frame_Check rdamageOver.1 rdamageOver.2.1 (⟨rdamageOver.2.2.1, rdamageOver.2.2.2.1⟩ : Plc) rdamageOver.2.2.2.2.1 rdamageOver.2.2.2.2.2.1 rdamageOver.2.2.2.2.2.2.1) = 0)) rfl (by kernel_rfl) (fun g15 => ?_) ?_
      · have g15p := g15; try simp only [Bool.and_eq_true, Bool.or_eq_true, Bool.and_eq_false_iff, Bool.or_eq_false_iff, Bool.not_eq_true', Bool.not_eq_false', decide_eq_true_eq, decide_eq_false_iff_not] at g15p
        refine ix rfl (det_own_agg (us := [iv rdamageOver.1, .slice (va r8.q) rdamageOver.2.1.length r8.k, iv rdamageOver.2.2.1, iv rdamageOver.2.2.2.1, bv rdamageOver.2.2.2.2.1, iv rdamageOver.2.2.2.2.2.1, sv rdamageOver.2.2.2.2.2.2.1]) ty55 rfl rfl 0 rfl rfl rfl) ?_
        refine ixc rfl (det_call (frame_Check_c rdamageOver.1 rdamageOver.2.1 (⟨rdamageOver.2.2.1, rdamageOver.2.2.2.1⟩ : Plc) rdamageOver.2.2.2.2.1 rdamageOver.2.2.2.2.2.1 rdamageOver.2.2.2.2.2.2.1 (va r8.q) rs9 r8.k hw11 (by first | omega | (simp only [List.length_take, List.length_drop, List.length_append, List.length_cons, List.length_nil, List.length_set, List.length_map]; omega) | decide) (by first | omega | (simp only [List.length_take, List.length_drop, List.length_append, List.length_cons, List.length_nil, List.length_set, List.length_map]; omega) | decide) (by first | omega | (simp only [List.length_nil]; omega)) _ rfl) rfl rfl rfl rfl rfl (Foll.pick [0, 1, 7, 8] rfl)) ?_
        refine ip 2 0 [(48, bv (!decide ((frame_Check rdamageOver.1 rdamageOver.2.1 (⟨rdamageOver.2.2.1, rdamageOver.2.2.2.1⟩ : Plc) rdamageOver.2.2.2.2.1 rdamageOver.2.2.2.2.2.1 rdamageOver.2.2.2.2.2.2.1) = 0)))] (by kernel_rfl) ?_
        exact JI_end (armI 4 44 48 g15 Foll.refl (mk [true, true, true] rfl) rfl rfl rfl rfl rfl)
      refine ip 1 13 [(49, bv (((!decide (rdamageOver.2.2.2.2.2.2.2 = 0)) || (!(law24_cells rdamageOver.1 rdamageOver.2.1 (⟨rdamageOver.2.2.1, rdamageOver.2.2.2.1⟩ : Plc) rdamageOver.2.2.2.2.1 rdamageOver.2.2.2.2.2.1 rdamageOver.2.2.2.2.2.2.1 bCols bRows bCursor bVisible bShape bTitle))) || (!decide ((frame_Check rdamageOver.1 rdamageOver.2.1 (⟨rdamageOver.2.2.1, rdamageOver.2.2.2.1⟩ : Plc) rdamageOver.2.2.2.2.1 rdamageOver.2.2.2.2.2.1 rdamageOver.2.2.2.2.2.2.1) = 0))))] (by kernel_rfl) ?_
      refine ior 6 7 49 55 (!(decide ((⟨rdamageOver.2.2.1, rdamageOver.2.2.2.1⟩ : Plc) = aCursor))) rfl (by kernel_rfl) (fun g16 => ?_) ?_
      · have g16p := g16; try simp only [Bool.and_eq_true, Bool.or_eq_true, Bool.and_eq_false_iff, Bool.or_eq_false_iff, Bool.not_eq_true', Bool.not_eq_false', decide_eq_true_eq, decide_eq_false_iff_not] at g16p
        refine ip 1 5 [(50, pt b13 2)] (by kernel_rfl) ?_
        refine ix rfl (det_own_agg (us := [iv rdamageOver.2.2.1, iv rdamageOver.2.2.2.1]) ty53 rfl rfl 0 rfl rfl rfl) ?_
        refine ip 1 3 [(52, pt b1 2)] (by kernel_rfl) ?_
        refine ix rfl (det_own_agg (us := [iv aCursor.row, iv aCursor.col]) ty53 rfl rfl 2 rfl rfl rfl) ?_
        refine ix rfl (det_nes (a := (⟨rdamageOver.2.2.1, rdamageOver.2.2.2.1⟩ : Plc)) (b := aCursor) eqt53 rfl rfl rfl) ?_
        refine ip 1 0 [(55, bv (!(decide ((⟨rdamageOver.2.2.1, rdamageOver.2.2.2.1⟩ : Plc) = aCursor))))] (by kernel_rfl) ?_
        exact JI_end (armI 7 49 55 g16 Foll.refl (mk [true, true, true] rfl) rfl rfl rfl rfl rfl)
      refine ip 1 6 [(56, bv ((((!decide (rdamageOver.2.2.2.2.2.2.2 = 0)) || (!(law24_cells rdamageOver.1 rdamageOver.2.1 (⟨rdamageOver.2.2.1, rdamageOver.2.2.2.1⟩ : Plc) rdamageOver.2.2.2.2.1 rdamageOver.2.2.2.2.2.1 rdamageOver.2.2.2.2.2.2.1 bCols bRows bCursor bVisible bShape bTitle))) || (!decide ((frame_Check rdamageOver.1 rdamageOver.2.1 (⟨rdamageOver.2.2.1, rdamageOver.2.2.2.1⟩ : Plc) rdamageOver.2.2.2.2.1 rdamageOver.2.2.2.2.2.1 rdamageOver.2.2.2.2.2.2.1) = 0))) || (!(decide ((⟨rdamageOver.2.2.1, rdamageOver.2.2.2.1⟩ : Plc) = aCursor)))))] (by kernel_rfl) ?_
      refine ior 6 0 56 62 (!(decide (rdamageOver.2.2.2.2.2.2.1 = aTitle))) rfl (by kernel_rfl) (fun g17 => ?_) ?_
      · have g17p := g17; try simp only [Bool.and_eq_true, Bool.or_eq_true, Bool.and_eq_false_iff, Bool.or_eq_false_iff, Bool.not_eq_true', Bool.not_eq_false', decide_eq_true_eq, decide_eq_false_iff_not] at g17p
        refine ip 1 5 [(57, pt b13 6)] (by kernel_rfl) ?_
        refine ix rfl (det_own_one (v := sv rdamageOver.2.2.2.2.2.2.1) ty9 rfl rfl 0 rfl rfl) ?_
        refine ip 1 3 [(59, pt b1 6)] (by kernel_rfl) ?_
        refine ix rfl (det_own_one (v := sv aTitle) ty9 rfl rfl 2 rfl rfl) ?_
        refine ix rfl (det_stne rfl rfl rfl) ?_
        refine ip 1 0 [(62, bv (!(decide (rdamageOver.2.2.2.2.2.2.1 = aTitle))))] (by kernel_rfl) ?_
        exact JI_end (armI 7 56 62 g17 Foll.refl (mk [true, true, true] rfl) rfl rfl rfl rfl rfl)
      refine ie ?_
      refine J_if rfl (fun h18 => ?_) (fun h18 => ?_)
      · have h18p := h18; try simp only [Bool.and_eq_true, Bool.or_eq_true, Bool.and_eq_false_iff, Bool.or_eq_false_iff, Bool.not_eq_true', Bool.not_eq_false', decide_eq_true_eq, decide_eq_false_iff_not] at h18p
        replace hR := bt hR h18
        refine sr 1 rfl ?_
        refine ip 1 0 [(6, bv false)] (by kernel_rfl) ?_
        refine ie ?_
        refine J_ret ?_
        subst hR
        exact ends_ret rfl ⟨hr, hD⟩ (by simp [hD]) (res1 rfl (resV_tmp rfl)) () (by rfl) (mk [false, false, false] rfl) Foll.nil
      · have h18p := h18; try simp only [Bool.and_eq_true, Bool.or_eq_true, Bool.and_eq_false_iff, Bool.or_eq_false_iff, Bool.not_eq_true', Bool.not_eq_false', decide_eq_true_eq, decide_eq_false_iff_not] at h18p
        replace hR := bf hR h18
        refine J_skip ?_
        refine nx ?_
        refine sr 6 rfl ?_
        refine ip 2 4 [(63, .slice (va r4.q) rdamageSpans.1.length r4.k), (64, .int .u8 (gap.toNat : Int))] (by kernel_rfl) ?_
        refine ix rfl (det_remn (c := ((gap.toNat : Int) % 5)) rfl rfl rfl (by decide) (by omega)) ?_
        refine ip 1 2 [(66, iv (IntKind.i64.wrap ((gap.toNat : Int) % 5)))] (by kernel_rfl) ?_
        have hQ := bindVx hR; clear hR; obtain ⟨rdamageJoin, hrdamageJoin, hR⟩ := hQ
        refine it rfl (tri_callP (L2 := [bx b13 [iv rdamageOver.1, .slice (va r8.q) rdamageOver.2.1.length r8.k, iv rdamageOver.2.2.1, iv rdamageOver.2.2.2.1, bv rdamageOver.2.2.2.2.1, iv rdamageOver.2.2.2.2.2.1, sv rdamageOver.2.2.2.2.2.2.1] 55, bx b2 [iv bCols, .slice bRowsq bRows.length bRowsk, iv bCursor.row, iv bCursor.col, bv bVisible, iv bShape, sv bTitle] 55, bx b1 [iv aCols, .slice aRowsq aRows.length aRowsk, iv aCursor.row, iv aCursor.col, bv aVisible, iv aShape, sv aTitle] 55]) (damage_Join_c rdamageSpans.1 (IntKind.i64.wrap ((gap.toNat : Int) % 5)) (va r4.q) r4.k (by first | omega | (simp only [List.length_take, List.length_drop, List.length_append, List.length_cons, List.length_nil, List.length_set, List.length_map]; omega) | decide) (by first | omega | (simp only [List.length_take, List.length_drop, List.length_append, List.length_cons, List.length_nil, List.length_set, List.length_map]; omega) | decide) (by first | omega | (simp only [List.length_append, List.length_cons, List.length_nil, List.length_take, List.length_drop, List.length_set]; omega)) rdamageJoin hrdamageJoin) rfl rfl rfl rfl rfl (Foll.pick [2] rfl) (List.Perm.refl _) (fun ⟨r19, hk20⟩ => (bx b13 [iv rdamageOver.1, .slice (va r8.q) rdamageOver.2.1.length r8.k, iv rdamageOver.2.2.1, iv rdamageOver.2.2.2.1, bv rdamageOver.2.2.2.2.1, iv rdamageOver.2.2.2.2.2.1, sv rdamageOver.2.2.2.2.2.2.1] 55 :: bx b2 [iv bCols, .slice bRowsq bRows.length bRowsk, iv bCursor.row, iv bCursor.col, bv bVisible, iv bShape, sv bTitle] 55 :: bx b1 [iv aCols, .slice aRowsq aRows.length aRowsk, iv aCursor.row, iv aCursor.col, bv aVisible, iv aShape, sv aTitle] 55 :: (vo cSp3 63 r19 rdamageJoin) ++ ([]))) (fun ⟨r19, hk20⟩ => permC [vo cSp3 63 r19 rdamageJoin, [bx b13 [iv rdamageOver.1, .slice (va r8.q) rdamageOver.2.1.length r8.k, iv rdamageOver.2.2.1, iv rdamageOver.2.2.2.1, bv rdamageOver.2.2.2.2.1, iv rdamageOver.2.2.2.2.2.1, sv rdamageOver.2.2.2.2.2.2.1] 55], [bx b2 [iv bCols, .slice bRowsq bRows.length bRowsk, iv bCursor.row, iv bCursor.col, bv bVisible, iv bShape, sv bTitle] 55], [bx b1 [iv aCols, .slice aRowsq aRows.length aRowsk, iv aCursor.row, iv aCursor.col, bv aVisible, iv aShape, sv aTitle] 55]] [1, 2, 3, 0] 4 rfl (by decide) (by first | rfl | simp only [List.flatten_cons, List.flatten_nil, List.append_nil, List.cons_append, List.nil_append, List.append_assoc]) [[bx b13 [iv rdamageOver.1, .slice (va r8.q) rdamageOver.2.1.length r8.k, iv rdamageOver.2.2.1, iv rdamageOver.2.2.2.1, bv rdamageOver.2.2.2.2.1, iv rdamageOver.2.2.2.2.2.1, sv rdamageOver.2.2.2.2.2.2.1] 55], [bx b2 [iv bCols, .slice bRowsq bRows.length bRowsk, iv bCursor.row, iv bCursor.col, bv bVisible, iv bShape, sv bTitle] 55], [bx b1 [iv aCols, .slice aRowsq aRows.length aRowsk, iv aCursor.row, iv aCursor.col, bv aVisible, iv aShape, sv aTitle] 55], vo cSp3 63 r19 rdamageJoin] rfl (by first | rfl | simp only [List.flatten_cons, List.flatten_nil, List.append_nil, List.cons_append, List.nil_append, List.append_assoc]))) fun ⟨r19, hk20⟩ => ?_
        have := VOk.le hk20
        have := VOk.cap hk20
        refine JI_seal [bx b13 [iv rdamageOver.1, .slice (va r8.q) rdamageOver.2.1.length r8.k, iv rdamageOver.2.2.1, iv rdamageOver.2.2.2.1, bv rdamageOver.2.2.2.2.1, iv rdamageOver.2.2.2.2.2.1, sv rdamageOver.2.2.2.2.2.2.1] 55, bx b2 [iv bCols, .slice bRowsq bRows.length bRowsk, iv bCursor.row, iv bCursor.col, bv bVisible, iv bShape, sv bTitle] 55, bx b1 [iv aCols, .slice aRowsq aRows.length aRowsk, iv aCursor.row, iv aCursor.col, bv aVisible, iv aShape, sv aTitle] 55] [] (T := 63) (c := cSp3) (r := r19) (xs := rdamageJoin) hk20 (by first | rfl | simp only [List.cons_append, List.append_assoc, List.nil_append, List.append_nil]) ?_
        refine ip 1 0 [(11, .slice (va r19.q) rdamageJoin.length r19.k)] (by kernel_rfl) ?_
        refine ie ?_
        refine sr 10 rfl ?_
        refine ix rfl (det_own_agg (us := [iv aCols, .slice aRowsq aRows.length aRowsk, iv aCursor.row, iv aCursor.col, bv aVisible, iv aShape, sv aTitle]) ty55 rfl rfl 2 rfl rfl rfl) ?_
        refine ix rfl (det_own_agg (us := [iv bCols, .slice bRowsq bRows.length bRowsk, iv bCursor.row, iv bCursor.col, bv bVisible, iv bShape, sv bTitle]) ty55 rfl rfl 1 rfl rfl rfl) ?_
        refine ip 1 7 [(71, .slice (va r19.q) rdamageJoin.length r19.k)] (by kernel_rfl) ?_
        have hQ := bindVx hR; clear hR; obtain ⟨rdamageOver1, hrdamageOver1, hR⟩ := hQ
        refine it rfl (tri_callP (L2 := [bx b13 [iv rdamageOver.1, .slice (va r8.q) rdamageOver.2.1.length r8.k, iv rdamageOver.2.2.1, iv rdamageOver.2.2.2.1, bv rdamageOver.2.2.2.2.1, iv rdamageOver.2.2.2.2.2.1, sv rdamageOver.2.2.2.2.2.2.1] 55, bx b2 [iv bCols, .slice bRowsq bRows.length bRowsk, iv bCursor.row, iv bCursor.col, bv bVisible, iv bShape, sv bTitle] 55, bx b1 [iv aCols, .slice aRowsq aRows.length aRowsk, iv aCursor.row, iv aCursor.col, bv aVisible, iv aShape, sv aTitle] 55]) (damage_Over_c aCols aRows aCursor aVisible aShape aTitle bCols bRows bCursor bVisible bShape bTitle rdamageJoin aRowsq aRowsrs aRowsk bRowsq bRowsrs bRowsk (va r19.q) r19.k hrowsaRowsrs (by first | omega | (simp only [List.length_take, List.length_drop, List.length_append, List.length_cons, List.length_nil, List.length_set, List.length_map]; omega) | decide) (by first | omega | (simp only [List.length_take, List.length_drop, List.length_append, List.length_cons, List.length_nil, List.length_set, List.length_map]; omega) | decide) hrowsbRowsrs (by first | omega | (simp only [List.length_take, List.length_drop, List.length_append, List.length_cons, List.length_nil, List.length_set, List.length_map]; omega) | decide) (by first | omega | (simp only [List.length_take, List.length_drop, List.length_append, List.length_cons, List.length_nil, List.length_set, List.length_map]; omega) | decide) (by first | omega | (simp only [List.length_take, List.length_drop, List.length_append, List.length_cons, List.length_nil, List.length_set, List.length_map]; omega) | decide) (by first | omega | (simp only [List.length_take, List.length_drop, List.length_append, List.length_cons, List.length_nil, List.length_set, List.length_map]; omega) | decide) (by first | omega | (simp only [List.length_nil]; omega)) (by first | omega | (simp only [List.length_nil]; omega)) rdamageOver1 hrdamageOver1) rfl rfl rfl rfl rfl (Foll.pick [4, 5, 6, 7, 0, 8, 9] rfl) (List.Perm.refl _) (fun ⟨⟨r21, rs22⟩, hp25⟩ => (bx b13 [iv rdamageOver.1, .slice (va r8.q) rdamageOver.2.1.length r8.k, iv rdamageOver.2.2.1, iv rdamageOver.2.2.2.1, bv rdamageOver.2.2.2.2.1, iv rdamageOver.2.2.2.2.2.1, sv rdamageOver.2.2.2.2.2.2.1] 55 :: bx b2 [iv bCols, .slice bRowsq bRows.length bRowsk, iv bCursor.row, iv bCursor.col, bv bVisible, iv bShape, sv bTitle] 55 :: bx b1 [iv aCols, .slice aRowsq aRows.length aRowsk, iv aCursor.row, iv aCursor.col, bv aVisible, iv aShape, sv aTitle] 55 :: (vo cSlc 74 r21 rs22) ++ ([]))) (fun ⟨⟨r21, rs22⟩, hp25⟩ => permC [vo cSlc 74 r21 rs22, [bx b13 [iv rdamageOver.1, .slice (va r8.q) rdamageOver.2.1.length r8.k, iv rdamageOver.2.2.1, iv rdamageOver.2.2.2.1, bv rdamageOver.2.2.2.2.1, iv rdamageOver.2.2.2.2.2.1, sv rdamageOver.2.2.2.2.2.2.1] 55], [bx b2 [iv bCols, .slice bRowsq bRows.length bRowsk, iv bCursor.row, iv bCursor.col, bv bVisible, iv bShape, sv bTitle] 55], [bx b1 [iv aCols, .slice aRowsq aRows.length aRowsk, iv aCursor.row, iv aCursor.col, bv aVisible, iv aShape, sv aTitle] 55]] [1, 2, 3, 0] 4 rfl (by decide) (by first | rfl | simp only [List.flatten_cons, List.flatten_nil, List.append_nil, List.cons_append, List.nil_append, List.append_assoc]) [[bx b13 [iv rdamageOver.1, .slice (va r8.q) rdamageOver.2.1.length r8.k, iv rdamageOver.2.2.1, iv rdamageOver.2.2.2.1, bv rdamageOver.2.2.2.2.1, iv rdamageOver.2.2.2.2.2.1, sv rdamageOver.2.2.2.2.2.2.1] 55], [bx b2 [iv bCols, .slice bRowsq bRows.length bRowsk, iv bCursor.row, iv bCursor.col, bv bVisible, iv bShape, sv bTitle] 55], [bx b1 [iv aCols, .slice aRowsq aRows.length aRowsk, iv aCursor.row, iv aCursor.col, bv aVisible, iv aShape, sv aTitle] 55], vo cSlc 74 r21 rs22] rfl (by first | rfl | simp only [List.flatten_cons, List.flatten_nil, List.append_nil, List.cons_append, List.nil_append, List.append_assoc]))) fun ⟨⟨r21, rs22⟩, hp25⟩ => ?_
        obtain ⟨hk23, hw24⟩ := hp25
        have := VOk.le hk23
        have := VOk.cap hk23
        have := hw24.1
        have := damage_Over_title aCols aRows aCursor aVisible aShape aTitle bCols bRows bCursor bVisible bShape bTitle rdamageJoin; try rw [hrdamageOver1] at this
        refine JI_seal [bx b13 [iv rdamageOver.1, .slice (va r8.q) rdamageOver.2.1.length r8.k, iv rdamageOver.2.2.1, iv rdamageOver.2.2.2.1, bv rdamageOver.2.2.2.2.1, iv rdamageOver.2.2.2.2.2.1, sv rdamageOver.2.2.2.2.2.2.1] 55, bx b2 [iv bCols, .slice bRowsq bRows.length bRowsk, iv bCursor.row, iv bCursor.col, bv bVisible, iv bShape, sv bTitle] 55, bx b1 [iv aCols, .slice aRowsq aRows.length aRowsk, iv aCursor.row, iv aCursor.col, bv aVisible, iv aShape, sv aTitle] 55] [] (T := 74) (c := cSlc) (r := r21) (xs := rs22) (VOk.cast hk23 (by rw [hw24.1])) (by first | rfl | simp only [List.cons_append, List.append_assoc, List.nil_append, List.append_nil]) ?_
        refine ip 3 3 [(73, ag [iv rdamageOver1.1, .slice (va r21.q) rdamageOver1.2.1.length r21.k, iv rdamageOver1.2.2.1, iv rdamageOver1.2.2.2.1, bv rdamageOver1.2.2.2.2.1, iv rdamageOver1.2.2.2.2.2.1, sv rdamageOver1.2.2.2.2.2.2.1]), (74, iv rdamageOver1.2.2.2.2.2.2.2)] (by kernel_rfl) ?_
        refine it rfl (tri_alloc (cs := [iv 0, .slice none 0 0, iv 0, iv 0, bv false, iv 0, sv ([] : List UInt8)]) zero55 rfl) fun b26 => ?_
        refine it rfl (tri_store (us := [iv rdamageOver1.1, .slice (va r21.q) rdamageOver1.2.1.length r21.k, iv rdamageOver1.2.2.1, iv rdamageOver1.2.2.2.1, bv rdamageOver1.2.2.2.2.1, iv rdamageOver1.2.2.2.2.2.1, sv rdamageOver1.2.2.2.2.2.2.1]) (cs' := [iv rdamageOver1.1, .slice (va r21.q) rdamageOver1.2.1.length r21.k, iv rdamageOver1.2.2.1, iv rdamageOver1.2.2.2.1, bv rdamageOver1.2.2.2.2.1, iv rdamageOver1.2.2.2.2.2.1, sv rdamageOver1.2.2.2.2.2.2.1]) ty55 rfl rfl rfl 0 rfl rfl rfl rfl rfl rfl) fun _ => ?_
        refine ip 1 0 [(10, iv rdamageOver1.2.2.2.2.2.2.2)] (by kernel_rfl) ?_
        refine ie ?_
        refine sr 22 rfl ?_
        refine ip 3 19 [(77, bv (decide (rdamageOver1.2.2.2.2.2.2.2 = 0)))] (by kernel_rfl) ?_
        refine iand 4 15 77 81 (law24_cells rdamageOver1.1 rdamageOver1.2.1 (⟨rdamageOver1.2.2.1, rdamageOver1.2.2.2.1⟩ : Plc) rdamageOver1.2.2.2.2.1 rdamageOver1.2.2.2.2.2.1 rdamageOver1.2.2.2.2.2.2.1 bCols bRows bCursor bVisible bShape bTitle) rfl (by kernel_rfl) (fun g27 => ?_) ?_
        · have g27p : rdamageOver1.2.2.2.2.2.2.2 = 0 := by simpa using g27
          refine ix rfl (det_own_agg (us := [iv rdamageOver1.1, .slice (va r21.q) rdamageOver1.2.1.length r21.k, iv rdamageOver1.2.2.1, iv rdamageOver1.2.2.2.1, bv rdamageOver1.2.2.2.2.1, iv rdamageOver1.2.2.2.2.2.1, sv rdamageOver1.2.2.2.2.2.2.1]) ty55 rfl rfl 0 rfl rfl rfl) ?_
          refine ix rfl (det_own_agg (us := [iv bCols, .slice bRowsq bRows.length bRowsk, iv bCursor.row, iv bCursor.col, bv bVisible, iv bShape, sv bTitle]) ty55 rfl rfl 2 rfl rfl rfl) ?_
          refine ixc rfl (det_call (law24_cells_c rdamageOver1.1 rdamageOver1.2.1 (⟨rdamageOver1.2.2.1, rdamageOver1.2.2.2.1⟩ : Plc) rdamageOver1.2.2.2.2.1 rdamageOver1.2.2.2.2.2.1 rdamageOver1.2.2.2.2.2.2.1 bCols bRows bCursor bVisible bShape bTitle (va r21.q) rs22 r21.k bRowsq bRowsrs bRowsk hw24 (by first | omega | (simp only [List.length_take, List.length_drop, List.length_append, List.length_cons, List.length_nil, List.length_set, List.length_map]; omega) | decide) (by first | omega | (simp only [List.length_take, List.length_drop, List.length_append, List.length_cons, List.length_nil, List.length_set, List.length_map]; omega) | decide) hrowsbRowsrs (by first | omega | (simp only [List.length_take, List.length_drop, List.length_append, List.length_cons, List.length_nil, List.length_set, List.length_map]; omega) | decide) (by first | omega | (simp only [List.length_take, List.length_drop, List.length_append, List.length_cons, List.length_nil, List.length_set, List.length_map]; omega) | decide) _ rfl) rfl rfl rfl rfl rfl (Foll.pick [0, 1, 8, 9] rfl)) ?_
          refine ip 1 0 [(81, bv (law24_cells rdamageOver1.1 rdamageOver1.2.1 (⟨rdamageOver1.2.2.1, rdamageOver1.2.2.2.1⟩ : Plc) rdamageOver1.2.2.2.2.1 rdamageOver1.2.2.2.2.2.1 rdamageOver1.2.2.2.2.2.2.1 bCols bRows bCursor bVisible bShape bTitle))] (by kernel_rfl) ?_
          exact JI_end (armI 5 77 81 g27 Foll.refl (mk [true, true, true, true] rfl) rfl rfl rfl rfl rfl)
        refine ip 1 14 [(82, bv ((decide (rdamageOver1.2.2.2.2.2.2.2 = 0)) && (law24_cells rdamageOver1.1 rdamageOver1.2.1 (⟨rdamageOver1.2.2.1, rdamageOver1.2.2.2.1⟩ : Plc) rdamageOver1.2.2.2.2.1 rdamageOver1.2.2.2.2.2.1 rdamageOver1.2.2.2.2.2.2.1 bCols bRows bCursor bVisible bShape bTitle)))] (by kernel_rfl) ?_
        refine iand 6 8 82 88 (decide ((rdamageJoin.length : Int) ≤ (rdamageSpans.1.length : Int))) rfl (by kernel_rfl) (fun g28 => ?_) ?_
        · have g28p := g28; try simp only [Bool.and_eq_true, Bool.or_eq_true, Bool.and_eq_false_iff, Bool.or_eq_false_iff, Bool.not_eq_true', Bool.not_eq_false', decide_eq_true_eq, decide_eq_false_iff_not] at g28p
          refine ip 6 0 [(88, bv (decide ((rdamageJoin.length : Int) ≤ (rdamageSpans.1.length : Int))))] (by kernel_rfl) ?_
          exact JI_end (armI 2 82 88 g28 Foll.refl (mk [true, true, true, true] rfl) rfl rfl rfl rfl rfl)
        refine ip 1 7 [(89, bv (((decide (rdamageOver1.2.2.2.2.2.2.2 = 0)) && (law24_cells rdamageOver1.1 rdamageOver1.2.1 (⟨rdamageOver1.2.2.1, rdamageOver1.2.2.2.1⟩ : Plc) rdamageOver1.2.2.2.2.1 rdamageOver1.2.2.2.2.2.1 rdamageOver1.2.2.2.2.2.2.1 bCols bRows bCursor bVisible bShape bTitle)) && (decide ((rdamageJoin.length : Int) ≤ (rdamageSpans.1.length : Int)))))] (by kernel_rfl) ?_
        refine iand 6 1 89 95 (decide ((damage_Count rdamageSpans.1) ≤ (damage_Count rdamageJoin))) rfl (by kernel_rfl) (fun g29 => ?_) ?_
        · have g29p := g29; try simp only [Bool.and_eq_true, Bool.or_eq_true, Bool.and_eq_false_iff, Bool.or_eq_false_iff, Bool.not_eq_true', Bool.not_eq_false', decide_eq_true_eq, decide_eq_false_iff_not] at g29p
          refine ip 1 5 [(90, .slice (va r19.q) rdamageJoin.length r19.k)] (by kernel_rfl) ?_
          refine ixc rfl (det_call (damage_Count_c rdamageJoin (va r19.q) r19.k (by first | omega | (simp only [List.length_take, List.length_drop, List.length_append, List.length_cons, List.length_nil, List.length_set, List.length_map]; omega) | decide) (by first | omega | (simp only [List.length_take, List.length_drop, List.length_append, List.length_cons, List.length_nil, List.length_set, List.length_map]; omega) | decide) _ rfl) rfl rfl rfl rfl rfl (Foll.pick [2] rfl)) ?_
          refine ip 1 3 [(92, .slice (va r4.q) rdamageSpans.1.length r4.k)] (by kernel_rfl) ?_
          refine ixc rfl (det_call (damage_Count_c rdamageSpans.1 (va r4.q) r4.k (by first | omega | (simp only [List.length_take, List.length_drop, List.length_append, List.length_cons, List.length_nil, List.length_set, List.length_map]; omega) | decide) (by first | omega | (simp only [List.length_take, List.length_drop, List.length_append, List.length_cons, List.length_nil, List.length_set, List.length_map]; omega) | decide) _ rfl) rfl rfl rfl rfl rfl (Foll.pick [5] rfl)) ?_
          refine ip 2 0 [(95, bv (decide ((damage_Count rdamageSpans.1) ≤ (damage_Count rdamageJoin))))] (by kernel_rfl) ?_
          exact JI_end (armI 6 89 95 g29 Foll.refl (mk [true, true, true, true] rfl) rfl rfl rfl rfl rfl)
        refine ip 1 0 [(6, bv ((((decide (rdamageOver1.2.2.2.2.2.2.2 = 0)) && (law24_cells rdamageOver1.1 rdamageOver1.2.1 (⟨rdamageOver1.2.2.1, rdamageOver1.2.2.2.1⟩ : Plc) rdamageOver1.2.2.2.2.1 rdamageOver1.2.2.2.2.2.1 rdamageOver1.2.2.2.2.2.2.1 bCols bRows bCursor bVisible bShape bTitle)) && (decide ((rdamageJoin.length : Int) ≤ (rdamageSpans.1.length : Int)))) && (decide ((damage_Count rdamageSpans.1) ≤ (damage_Count rdamageJoin)))))] (by kernel_rfl) ?_
        refine ie ?_
        refine J_ret ?_
        subst hR
        exact ends_ret rfl ⟨hr, hD⟩ (by simp [hD]) (res1 rfl (resV_tmp rfl)) () (by rfl) (mk [false, false, false, false] rfl) Foll.nil

end Go.Proofs.YtlcaphkcfmlljaaGreatDoor
