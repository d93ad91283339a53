import Derived.Test.YtlcaphkcfmlljaaGreatDoorD2
import Derived.Test.YtlcaphkcfmlljaaGreatDoorFenV
import Derived.Test.YtlcaphkcfmlljaaGreatDoorProg
import Derived.Test.YtlcaphkcfmlljaaGreatDoorT4a
import Derived.Test.YtlcaphkcfmlljaaGreatDoorT4b
import Derived.Test.YtlcaphkcfmlljaaGreatDoorT4c
import Derived.Test.YtlcaphkcfmlljaaGreatDoorT5
import Derived.Test.YtlcaphkcfmlljaaGreatDoorT8
import Derived.Test.YtlcaphkcfmlljaaGreatDoorT9
import Derived.Test.YtlcaphkcfmlljaaGreatDoorT10
set_option linter.unusedVariables false
set_option linter.unusedSimpArgs false
set_option linter.unnecessarySimpa false
namespace Go.Proofs.YtlcaphkcfmlljaaGreatDoor
open Go Go.Fen

def ref24_Sizes (aCols : Int) (aRows : List (List Cel)) (aCursor : Plc) (aVisible : Bool) (aShape : Int) (aTitle : List UInt8) (bCols : Int) (bRows : List (List Cel)) (bCursor : Plc) (bVisible : Bool) (bShape : Int) (bTitle : List UInt8) : Bool :=
  ((decide (aCols = bCols)) && (decide ((aRows.length : Int) = (bRows.length : Int))))

set_option maxRecDepth 100000 in
theorem ref24_Sizes_c (aCols : Int) (aRows : List (List Cel)) (aCursor : Plc) (aVisible : Bool) (aShape : Int) (aTitle : List UInt8) (bCols : Int) (bRows : List (List Cel)) (bCursor : Plc) (bVisible : Bool) (bShape : Int) (bTitle : List UInt8) (aRowsq : Option Addr) (aRowsrs : List Slc) (aRowsk : Nat) (bRowsq : Option Addr) (bRowsrs : List Slc) (bRowsk : Nat) (hrowsaRowsrs : RowsOk aRowsrs aRows) (hlaRows : aRows.length ≤ 9223372036854775807) (hcaRows : aRows.length ≤ aRowsk) (hrowsbRowsrs : RowsOk bRowsrs bRows) (hlbRows : bRows.length ≤ 9223372036854775807) (hcbRows : bRows.length ≤ bRowsk) (R : Bool) (hR : ref24_Sizes aCols aRows aCursor aVisible aShape aTitle bCols bRows bCursor bVisible bShape bTitle = R) : ConV Tryz.prog 29 [ag [iv aCols, .slice aRowsq aRows.length aRowsk, iv aCursor.row, iv aCursor.col, bv aVisible, iv aShape, sv aTitle], ag [iv bCols, .slice bRowsq bRows.length bRowsk, iv bCursor.row, iv bCursor.col, bv bVisible, iv bShape, sv bTitle]] [sl cSlc aRowsq aRowsrs, rowsF cCel aRowsrs aRows, sl cSlc bRowsq bRowsrs, rowsF cCel bRowsrs bRows] (bv R) := by
  refine con_of_J (n := 19) Tryz.func29 rfl (by kernel_rfl) rfl rfl [(0, ag [iv aCols, .slice aRowsq aRows.length aRowsk, iv aCursor.row, iv aCursor.col, bv aVisible, iv aShape, sv aTitle]), (1, ag [iv bCols, .slice bRowsq bRows.length bRowsk, iv bCursor.row, iv bCursor.col, bv bVisible, iv bShape, sv bTitle])] ⟨rfl, rfl, trivial⟩ fun X hX hr hD => ?_
  replace hR := (ref24_Sizes.eq_1 ..).symm.trans hR
  have := hrowsaRowsrs.1
  have := hrowsbRowsrs.1
  refine sr 3 rfl ?_
  refine it rfl (tri_box (cs := [iv aCols, .slice aRowsq aRows.length aRowsk, iv aCursor.row, iv aCursor.col, bv aVisible, iv aShape, sv aTitle]) rfl rfl rfl) fun b1 => ?_
  refine it rfl (tri_box (cs := [iv bCols, .slice bRowsq bRows.length bRowsk, iv bCursor.row, iv bCursor.col, bv bVisible, iv bShape, sv bTitle]) rfl rfl rfl) fun b2 => ?_
  refine ip 1 0 [] (by kernel_rfl) ?_
  refine ie ?_
  refine sr 15 rfl ?_
  refine ip 1 14 [(5, pt b1 0)] (by kernel_rfl) ?_
  refine ix rfl (det_own_one (v := iv aCols) ty3 rfl rfl 1 rfl rfl) ?_
  refine ip 1 12 [(7, pt b2 0)] (by kernel_rfl) ?_
  refine ix rfl (det_own_one (v := iv bCols) ty3 rfl rfl 0 rfl rfl) ?_
  refine ip 2 9 [(10, bv (decide (aCols = bCols)))] (by kernel_rfl) ?_
  refine iand 8 1 10 18 (decide ((aRows.length : Int) = (bRows.length : Int))) rfl (by kernel_rfl) (fun g3 => ?_) ?_
  · have g3p : aCols = bCols := by simpa using g3
    refine ip 1 7 [(11, pt b1 1)] (by kernel_rfl) ?_
    refine ix rfl (det_own_one (v := .slice aRowsq aRows.length aRowsk) ty51 rfl rfl 1 rfl rfl) ?_
    refine ip 2 4 [(13, iv (aRows.length : Int)), (14, pt b2 1)] (by kernel_rfl) ?_
    refine ix rfl (det_own_one (v := .slice bRowsq bRows.length bRowsk) ty51 rfl rfl 0 rfl rfl) ?_
    refine ip 3 0 [(18, bv (decide ((aRows.length : Int) = (bRows.length : Int))))] (by kernel_rfl) ?_
    exact JI_end (armI 7 10 18 g3 Foll.refl (mk [true, true] rfl) rfl rfl rfl rfl rfl)
  refine ip 1 0 [(4, bv ((decide (aCols = bCols)) && (decide ((aRows.length : Int) = (bRows.length : Int)))))] (by kernel_rfl) ?_
  refine ie ?_
  refine J_ret ?_
  subst hR
  exact ends_ret rfl ⟨hr, hD⟩ (by simp [hD]) (res1 rfl (resV_tmp rfl)) () (by rfl) (mk [false, false] rfl) Foll.nil

def law24_DamageSpans (aCols : Int) (aRows : List (List Cel)) (aCursor : Plc) (aVisible : Bool) (aShape : Int) (aTitle : List UInt8) (bCols : Int) (bRows : List (List Cel)) (bCursor : Plc) (bVisible : Bool) (bShape : Int) (bTitle : List UInt8) : Bool :=
  (bif (!law24_wakes) then false else (bindV (damage_Spans aCols aRows aCursor aVisible aShape aTitle bCols bRows bCursor bVisible bShape bTitle) fun (rdamageSpans : List Sp3 × Int) => (bif ((!(ref23_Right aCols aRows aCursor aVisible aShape aTitle)) || (!(ref23_Right bCols bRows bCursor bVisible bShape bTitle))) then ((decide (rdamageSpans.2 = 330)) && (decide ((rdamageSpans.1.length : Int) = 0))) else (bif (!(ref24_Sizes aCols aRows aCursor aVisible aShape aTitle bCols bRows bCursor bVisible bShape bTitle)) then ((decide (rdamageSpans.2 = 2)) && (decide ((rdamageSpans.1.length : Int) = 0))) else ((decide (rdamageSpans.2 = 0)) && (slices_Equal_api_Span_api_Span rdamageSpans.1 (ref24_Spans aCols aRows aCursor aVisible aShape aTitle bCols bRows bCursor bVisible bShape bTitle)))))))

set_option maxRecDepth 100000 in
theorem law24_DamageSpans_c (aCols : Int) (aRows : List (List Cel)) (aCursor : Plc) (aVisible : Bool) (aShape : Int) (aTitle : List UInt8) (bCols : Int) (bRows : List (List Cel)) (bCursor : Plc) (bVisible : Bool) (bShape : Int) (bTitle : List UInt8) (aRowsq : Option Addr) (aRowsrs : List Slc) (aRowsk : Nat) (bRowsq : Option Addr) (bRowsrs : List Slc) (bRowsk : Nat) (hrowsaRowsrs : RowsOk aRowsrs aRows) (hlaRows : aRows.length ≤ 9223372036854775807) (hcaRows : aRows.length ≤ aRowsk) (hrowsbRowsrs : RowsOk bRowsrs bRows) (hlbRows : bRows.length ≤ 9223372036854775807) (hcbRows : bRows.length ≤ bRowsk) (hT : aTitle.length ≤ 100000000) (hT2 : bTitle.length ≤ 100000000) (R : Bool) (hR : law24_DamageSpans aCols aRows aCursor aVisible aShape aTitle bCols bRows bCursor bVisible bShape bTitle = R) : ConV Tryz.prog 8 [ag [iv aCols, .slice aRowsq aRows.length aRowsk, iv aCursor.row, iv aCursor.col, bv aVisible, iv aShape, sv aTitle], ag [iv bCols, .slice bRowsq bRows.length bRowsk, iv bCursor.row, iv bCursor.col, bv bVisible, iv bShape, sv bTitle]] [sl cSlc aRowsq aRowsrs, rowsF cCel aRowsrs aRows, sl cSlc bRowsq bRowsrs, rowsF cCel bRowsrs bRows, sl cSpn (some ⟨0, 0, none⟩) tab0, sl cSpn (some ⟨1, 0, none⟩) tab1] (bv R) := by
  refine con_of_J (n := 52) Tryz.func8 rfl (by kernel_rfl) rfl rfl [(0, ag [iv aCols, .slice aRowsq aRows.length aRowsk, iv aCursor.row, iv aCursor.col, bv aVisible, iv aShape, sv aTitle]), (1, ag [iv bCols, .slice bRowsq bRows.length bRowsk, iv bCursor.row, iv bCursor.col, bv bVisible, iv bShape, sv bTitle])] ⟨rfl, rfl, trivial⟩ fun X hX hr hD => ?_
  replace hR := (law24_DamageSpans.eq_1 ..).symm.trans hR
  have := hrowsaRowsrs.1
  have := hrowsbRowsrs.1
  refine sr 3 rfl ?_
  refine it rfl (tri_box (cs := [iv aCols, .slice aRowsq aRows.length aRowsk, iv aCursor.row, iv aCursor.col, bv aVisible, iv aShape, sv aTitle]) rfl rfl rfl) fun b1 => ?_
  refine it rfl (tri_box (cs := [iv bCols, .slice bRowsq bRows.length bRowsk, iv bCursor.row, iv bCursor.col, bv bVisible, iv bShape, sv bTitle]) rfl rfl rfl) fun b2 => ?_
  refine ip 1 0 [] (by kernel_rfl) ?_
  refine ie ?_
  refine J_seq ?_
  refine sr 2 rfl ?_
  refine ixc rfl (det_call (law24_wakes_c _ rfl) rfl rfl rfl rfl rfl (Foll.pick [4, 5] rfl)) ?_
  refine ip 1 0 [(8, bv (!law24_wakes))] (by kernel_rfl) ?_
  refine ie ?_
  refine J_if rfl (fun h3 => ?_) (fun h3 => ?_)
  · replace hR := bt hR h3
    refine sr 1 rfl ?_
    refine ip 1 0 [(4, bv false)] (by kernel_rfl) ?_
    refine ie ?_
    refine J_ret ?_
    subst hR
    exact ends_ret rfl ⟨hr, hD⟩ (by simp [hD]) (res1 rfl (resV_tmp rfl)) () (by rfl) (mk [false, false] rfl) Foll.nil
  · replace hR := bf hR h3
    refine J_skip ?_
    refine nx ?_
    refine sr 8 rfl ?_
    refine ix rfl (det_own_agg (us := [iv aCols, .slice aRowsq aRows.length aRowsk, iv aCursor.row, iv aCursor.col, bv aVisible, iv aShape, sv aTitle]) ty55 rfl rfl 1 rfl rfl rfl) ?_
    refine ix rfl (det_own_agg (us := [iv bCols, .slice bRowsq bRows.length bRowsk, iv bCursor.row, iv bCursor.col, bv bVisible, iv bShape, sv bTitle]) ty55 rfl rfl 0 rfl rfl rfl) ?_
    have hQ := bindVx hR; clear hR; obtain ⟨rdamageSpans, hrdamageSpans, hR⟩ := hQ
    refine it rfl (tri_callP (L2 := [bx b2 [iv bCols, .slice bRowsq bRows.length bRowsk, iv bCursor.row, iv bCursor.col, bv bVisible, iv bShape, sv bTitle] 55, bx b1 [iv aCols, .slice aRowsq aRows.length aRowsk, iv aCursor.row, iv aCursor.col, bv aVisible, iv aShape, sv aTitle] 55]) (damage_Spans_c aCols aRows aCursor aVisible aShape aTitle bCols bRows bCursor bVisible bShape bTitle aRowsq aRowsrs aRowsk bRowsq bRowsrs bRowsk hrowsaRowsrs (by first | omega | (simp only [List.length_take, List.length_drop, List.length_append, List.length_cons, List.length_nil, List.length_set, List.length_map]; omega) | decide) (by first | omega | (simp only [List.length_take, List.length_drop, List.length_append, List.length_cons, List.length_nil, List.length_set, List.length_map]; omega) | decide) hrowsbRowsrs (by first | omega | (simp only [List.length_take, List.length_drop, List.length_append, List.length_cons, List.length_nil, List.length_set, List.length_map]; omega) | decide) (by first | omega | (simp only [List.length_take, List.length_drop, List.length_append, List.length_cons, List.length_nil, List.length_set, List.length_map]; omega) | decide) (by first | omega | (simp only [List.length_nil]; omega)) (by first | omega | (simp only [List.length_nil]; omega)) rdamageSpans hrdamageSpans) rfl rfl rfl rfl rfl Foll.refl (List.Perm.refl _) (fun ⟨r4, hk5⟩ => (bx b2 [iv bCols, .slice bRowsq bRows.length bRowsk, iv bCursor.row, iv bCursor.col, bv bVisible, iv bShape, sv bTitle] 55 :: bx b1 [iv aCols, .slice aRowsq aRows.length aRowsk, iv aCursor.row, iv aCursor.col, bv aVisible, iv aShape, sv aTitle] 55 :: (vo cSp3 63 r4 rdamageSpans.1) ++ ([]))) (fun ⟨r4, hk5⟩ => permC [vo cSp3 63 r4 rdamageSpans.1, [bx b2 [iv bCols, .slice bRowsq bRows.length bRowsk, iv bCursor.row, iv bCursor.col, bv bVisible, iv bShape, sv bTitle] 55], [bx b1 [iv aCols, .slice aRowsq aRows.length aRowsk, iv aCursor.row, iv aCursor.col, bv aVisible, iv aShape, sv aTitle] 55]] [1, 2, 0] 3 rfl (by decide) (by first | rfl | simp only [List.flatten_cons, List.flatten_nil, List.append_nil, List.cons_append, List.nil_append, List.append_assoc]) [[bx b2 [iv bCols, .slice bRowsq bRows.length bRowsk, iv bCursor.row, iv bCursor.col, bv bVisible, iv bShape, sv bTitle] 55], [bx b1 [iv aCols, .slice aRowsq aRows.length aRowsk, iv aCursor.row, iv aCursor.col, bv aVisible, iv aShape, sv aTitle] 55], vo cSp3 63 r4 rdamageSpans.1] rfl (by first | rfl | simp only [List.flatten_cons, List.flatten_nil, List.append_nil, List.cons_append, List.nil_append, List.append_assoc]))) fun ⟨r4, hk5⟩ => ?_
    have := VOk.le hk5
    have := VOk.cap hk5
    have := damage_Spans_len aCols aRows aCursor aVisible aShape aTitle bCols bRows bCursor bVisible bShape bTitle; try rw [hrdamageSpans] at this
    refine JI_seal [bx b2 [iv bCols, .slice bRowsq bRows.length bRowsk, iv bCursor.row, iv bCursor.col, bv bVisible, iv bShape, sv bTitle] 55, bx b1 [iv aCols, .slice aRowsq aRows.length aRowsk, iv aCursor.row, iv aCursor.col, bv aVisible, iv aShape, sv aTitle] 55] [] (T := 63) (c := cSp3) (r := r4) (xs := rdamageSpans.1) hk5 (by first | rfl | simp only [List.cons_append, List.append_assoc, List.nil_append, List.append_nil]) ?_
    refine ip 5 0 [(5, .slice (va r4.q) rdamageSpans.1.length r4.k), (6, iv rdamageSpans.2)] (by kernel_rfl) ?_
    refine ie ?_
    refine J_seq ?_
    refine J_block ?_
    refine sr 9 rfl ?_
    refine ix rfl (det_own_agg (us := [iv aCols, .slice aRowsq aRows.length aRowsk, iv aCursor.row, iv aCursor.col, bv aVisible, iv aShape, sv aTitle]) ty55 rfl rfl 1 rfl rfl rfl) ?_
    refine ixc rfl (det_call (ref23_Right_c aCols aRows aCursor aVisible aShape aTitle aRowsq aRowsrs aRowsk hrowsaRowsrs (by first | omega | (simp only [List.length_take, List.length_drop, List.length_append, List.length_cons, List.length_nil, List.length_set, List.length_map]; omega) | decide) (by first | omega | (simp only [List.length_take, List.length_drop, List.length_append, List.length_cons, List.length_nil, List.length_set, List.length_map]; omega) | decide) _ rfl) rfl rfl rfl rfl rfl (Foll.pick [1, 2] rfl)) ?_
    refine ip 2 5 [(19, bv (!(ref23_Right aCols aRows aCursor aVisible aShape aTitle)))] (by kernel_rfl) ?_
    refine ior 4 1 19 23 (!(ref23_Right bCols bRows bCursor bVisible bShape bTitle)) rfl (by kernel_rfl) (fun g6 => ?_) ?_
    · refine ix rfl (det_own_agg (us := [iv bCols, .slice bRowsq bRows.length bRowsk, iv bCursor.row, iv bCursor.col, bv bVisible, iv bShape, sv bTitle]) ty55 rfl rfl 0 rfl rfl rfl) ?_
      refine ixc rfl (det_call (ref23_Right_c bCols bRows bCursor bVisible bShape bTitle bRowsq bRowsrs bRowsk hrowsbRowsrs (by first | omega | (simp only [List.length_take, List.length_drop, List.length_append, List.length_cons, List.length_nil, List.length_set, List.length_map]; omega) | decide) (by first | omega | (simp only [List.length_take, List.length_drop, List.length_append, List.length_cons, List.length_nil, List.length_set, List.length_map]; omega) | decide) _ rfl) rfl rfl rfl rfl rfl (Foll.pick [3, 4] rfl)) ?_
      refine ip 2 0 [(23, bv (!(ref23_Right bCols bRows bCursor bVisible bShape bTitle)))] (by kernel_rfl) ?_
      exact JI_end (armI 4 19 23 g6 Foll.refl (mk [true, true] rfl) rfl rfl rfl rfl rfl)
    refine ip 1 0 [(15, bv ((!(ref23_Right aCols aRows aCursor aVisible aShape aTitle)) || (!(ref23_Right bCols bRows bCursor bVisible bShape bTitle))))] (by kernel_rfl) ?_
    refine ie ?_
    refine J_if rfl (fun h7 => ?_) (fun h7 => ?_)
    · have h7p := h7; try simp only [Bool.and_eq_true, Bool.or_eq_true, Bool.and_eq_false_iff, Bool.or_eq_false_iff, Bool.not_eq_true', Bool.not_eq_false', decide_eq_true_eq, decide_eq_false_iff_not] at h7p
      replace hR := bt hR h7
      refine sr 8 rfl ?_
      refine ip 3 5 [(26, bv (decide (rdamageSpans.2 = 330)))] (by kernel_rfl) ?_
      refine iand 4 1 26 30 (decide ((rdamageSpans.1.length : Int) = 0)) rfl (by kernel_rfl) (fun g8 => ?_) ?_
      · have g8p : rdamageSpans.2 = 330 := by simpa using g8
        refine ip 4 0 [(30, bv (decide ((rdamageSpans.1.length : Int) = 0)))] (by kernel_rfl) ?_
        exact JI_end (armI 2 26 30 g8 Foll.refl (mk [true, true] rfl) rfl rfl rfl rfl rfl)
      refine ip 1 0 [(4, bv ((decide (rdamageSpans.2 = 330)) && (decide ((rdamageSpans.1.length : Int) = 0))))] (by kernel_rfl) ?_
      refine ie ?_
      refine J_ret ?_
      subst hR
      exact ends_ret rfl ⟨hr, hD⟩ (by simp [hD]) (res1 rfl (resV_tmp rfl)) () (by rfl) (mk [false, false] rfl) Foll.nil
    · have h7p := h7; try simp only [Bool.and_eq_true, Bool.or_eq_true, Bool.and_eq_false_iff, Bool.or_eq_false_iff, Bool.not_eq_true', Bool.not_eq_false', decide_eq_true_eq, decide_eq_false_iff_not] at h7p
      replace hR := bf hR h7
      try (have hq := h7; simp only [Bool.or_eq_false_iff, Bool.not_eq_false'] at hq; have hka := ref23_Right_ok hq.1; have hkb := ref23_Right_ok hq.2)
      try (have hqs : aCols = bCols ∧ aRows.length = bRows.length := (by have q := h7; simp [ref24_Sizes] at q; omega); have hz0 : aRows.length ≤ 40 ∧ aRows.length = bRows.length ∧ 0 ≤ aCols ∧ aCols ≤ 80 := (by omega); have hra0 : ∀ i, i < aRows.length → ((aRows.getD i []).length : Int) = aCols := hka.2.2.2.2; have hrb0 : ∀ i, i < bRows.length → ((bRows.getD i []).length : Int) = aCols := (fun i hi => by have := hkb.2.2.2.2 i hi; omega); have hra1 : ∀ i, i < aRows.length → (aRows.getD i []).length ≤ 80 ∧ (aRows.getD i []).length = (bRows.getD i []).length := (fun i hi => by have := hra0 i hi; have := hrb0 i (by omega); omega))
      refine sr 5 rfl ?_
      refine ix rfl (det_own_agg (us := [iv aCols, .slice aRowsq aRows.length aRowsk, iv aCursor.row, iv aCursor.col, bv aVisible, iv aShape, sv aTitle]) ty55 rfl rfl 1 rfl rfl rfl) ?_
      refine ix rfl (det_own_agg (us := [iv bCols, .slice bRowsq bRows.length bRowsk, iv bCursor.row, iv bCursor.col, bv bVisible, iv bShape, sv bTitle]) ty55 rfl rfl 0 rfl rfl rfl) ?_
      refine ixc rfl (det_call (ref24_Sizes_c aCols aRows aCursor aVisible aShape aTitle bCols bRows bCursor bVisible bShape bTitle aRowsq aRowsrs aRowsk bRowsq bRowsrs bRowsk hrowsaRowsrs (by first | omega | (simp only [List.length_take, List.length_drop, List.length_append, List.length_cons, List.length_nil, List.length_set, List.length_map]; omega) | decide) (by first | omega | (simp only [List.length_take, List.length_drop, List.length_append, List.length_cons, List.length_nil, List.length_set, List.length_map]; omega) | decide) hrowsbRowsrs (by first | omega | (simp only [List.length_take, List.length_drop, List.length_append, List.length_cons, List.length_nil, List.length_set, List.length_map]; omega) | decide) (by first | omega | (simp only [List.length_take, List.length_drop, List.length_append, List.length_cons, List.length_nil, List.length_set, List.length_map]; omega) | decide) _ rfl) rfl rfl rfl rfl rfl (Foll.pick [1, 2, 3, 4] rfl)) ?_
      refine ip 2 0 [(31, bv (!(ref24_Sizes aCols aRows aCursor aVisible aShape aTitle bCols bRows bCursor bVisible bShape bTitle)))] (by kernel_rfl) ?_
      refine ie ?_
      refine J_if rfl (fun h9 => ?_) (fun h9 => ?_)
      · replace hR := bt hR h9
        refine sr 8 rfl ?_
        refine ip 3 5 [(38, bv (decide (rdamageSpans.2 = 2)))] (by kernel_rfl) ?_
        refine iand 4 1 38 42 (decide ((rdamageSpans.1.length : Int) = 0)) rfl (by kernel_rfl) (fun g10 => ?_) ?_
        · have g10p : rdamageSpans.2 = 2 := by simpa using g10
          refine ip 4 0 [(42, bv (decide ((rdamageSpans.1.length : Int) = 0)))] (by kernel_rfl) ?_
          exact JI_end (armI 2 38 42 g10 Foll.refl (mk [true, true] rfl) rfl rfl rfl rfl rfl)
        refine ip 1 0 [(4, bv ((decide (rdamageSpans.2 = 2)) && (decide ((rdamageSpans.1.length : Int) = 0))))] (by kernel_rfl) ?_
        refine ie ?_
        refine J_ret ?_
        subst hR
        exact ends_ret rfl ⟨hr, hD⟩ (by simp [hD]) (res1 rfl (resV_tmp rfl)) () (by rfl) (mk [false, false] rfl) Foll.nil
      · replace hR := bf hR h9
        try (have hq := h9; simp only [Bool.or_eq_false_iff, Bool.not_eq_false'] at hq; have hka := ref23_Right_ok hq.1; have hkb := ref23_Right_ok hq.2)
        try (have hqs : aCols = bCols ∧ aRows.length = bRows.length := (by have q := h9; simp [ref24_Sizes] at q; omega); have hz0 : aRows.length ≤ 40 ∧ aRows.length = bRows.length ∧ 0 ≤ aCols ∧ aCols ≤ 80 := (by omega); have hra0 : ∀ i, i < aRows.length → ((aRows.getD i []).length : Int) = aCols := hka.2.2.2.2; have hrb0 : ∀ i, i < bRows.length → ((bRows.getD i []).length : Int) = aCols := (fun i hi => by have := hkb.2.2.2.2 i hi; omega); have hra1 : ∀ i, i < aRows.length → (aRows.getD i []).length ≤ 80 ∧ (aRows.getD i []).length = (bRows.getD i []).length := (fun i hi => by have := hra0 i hi; have := hrb0 i (by omega); omega))
        refine J_skip ?_
        refine nx ?_
        refine sr 10 rfl ?_
        refine ip 3 7 [(45, bv (decide (rdamageSpans.2 = 0)))] (by kernel_rfl) ?_
        refine iand 6 1 45 51 (slices_Equal_api_Span_api_Span rdamageSpans.1 (ref24_Spans aCols aRows aCursor aVisible aShape aTitle bCols bRows bCursor bVisible bShape bTitle)) rfl (by kernel_rfl) (fun g11 => ?_) ?_
        · have g11p : rdamageSpans.2 = 0 := by simpa using g11
          refine ip 1 5 [(46, .slice (va r4.q) rdamageSpans.1.length r4.k)] (by kernel_rfl) ?_
          refine ix rfl (det_own_agg (us := [iv aCols, .slice aRowsq aRows.length aRowsk, iv aCursor.row, iv aCursor.col, bv aVisible, iv aShape, sv aTitle]) ty55 rfl rfl 1 rfl rfl rfl) ?_
          refine ix rfl (det_own_agg (us := [iv bCols, .slice bRowsq bRows.length bRowsk, iv bCursor.row, iv bCursor.col, bv bVisible, iv bShape, sv bTitle]) ty55 rfl rfl 0 rfl rfl rfl) ?_
          refine it rfl (tri_callP (L2 := [bx b2 [iv bCols, .slice bRowsq bRows.length bRowsk, iv bCursor.row, iv bCursor.col, bv bVisible, iv bShape, sv bTitle] 55, bx b1 [iv aCols, .slice aRowsq aRows.length aRowsk, iv aCursor.row, iv aCursor.col, bv aVisible, iv aShape, sv aTitle] 55]) (ref24_Spans_c aCols aRows aCursor aVisible aShape aTitle bCols bRows bCursor bVisible bShape bTitle aRowsq aRowsrs aRowsk bRowsq bRowsrs bRowsk hrowsaRowsrs (by first | omega | (simp only [List.length_take, List.length_drop, List.length_append, List.length_cons, List.length_nil, List.length_set, List.length_map]; omega) | decide) (by first | omega | (simp only [List.length_take, List.length_drop, List.length_append, List.length_cons, List.length_nil, List.length_set, List.length_map]; omega) | decide) hrowsbRowsrs (by first | omega | (simp only [List.length_take, List.length_drop, List.length_append, List.length_cons, List.length_nil, List.length_set, List.length_map]; omega) | decide) (by first | omega | (simp only [List.length_take, List.length_drop, List.length_append, List.length_cons, List.length_nil, List.length_set, List.length_map]; omega) | decide) (by first | omega | (simp only [List.length_append, List.length_cons, List.length_nil, List.length_take, List.length_drop, List.length_set]; omega)) (by exact hra1) _ rfl) rfl rfl rfl rfl rfl (Foll.pick [1, 2, 3, 4] rfl) (List.Perm.refl _) (fun ⟨r12, hk13⟩ => (bx b2 [iv bCols, .slice bRowsq bRows.length bRowsk, iv bCursor.row, iv bCursor.col, bv bVisible, iv bShape, sv bTitle] 55 :: bx b1 [iv aCols, .slice aRowsq aRows.length aRowsk, iv aCursor.row, iv aCursor.col, bv aVisible, iv aShape, sv aTitle] 55 :: (vo cSp3 63 r12 (ref24_Spans aCols aRows aCursor aVisible aShape aTitle bCols bRows bCursor bVisible bShape bTitle)) ++ ([]))) (fun ⟨r12, hk13⟩ => permC [vo cSp3 63 r12 (ref24_Spans aCols aRows aCursor aVisible aShape aTitle bCols bRows bCursor bVisible bShape bTitle), [bx b2 [iv bCols, .slice bRowsq bRows.length bRowsk, iv bCursor.row, iv bCursor.col, bv bVisible, iv bShape, sv bTitle] 55], [bx b1 [iv aCols, .slice aRowsq aRows.length aRowsk, iv aCursor.row, iv aCursor.col, bv aVisible, iv aShape, sv aTitle] 55]] [1, 2, 0] 3 rfl (by decide) (by first | rfl | simp only [List.flatten_cons, List.flatten_nil, List.append_nil, List.cons_append, List.nil_append, List.append_assoc]) [[bx b2 [iv bCols, .slice bRowsq bRows.length bRowsk, iv bCursor.row, iv bCursor.col, bv bVisible, iv bShape, sv bTitle] 55], [bx b1 [iv aCols, .slice aRowsq aRows.length aRowsk, iv aCursor.row, iv aCursor.col, bv aVisible, iv aShape, sv aTitle] 55], vo cSp3 63 r12 (ref24_Spans aCols aRows aCursor aVisible aShape aTitle bCols bRows bCursor bVisible bShape bTitle)] rfl (by first | rfl | simp only [List.flatten_cons, List.flatten_nil, List.append_nil, List.cons_append, List.nil_append, List.append_assoc]))) fun ⟨r12, hk13⟩ => ?_
          have := VOk.le hk13
          have := VOk.cap hk13
          refine JI_seal [bx b2 [iv bCols, .slice bRowsq bRows.length bRowsk, iv bCursor.row, iv bCursor.col, bv bVisible, iv bShape, sv bTitle] 55, bx b1 [iv aCols, .slice aRowsq aRows.length aRowsk, iv aCursor.row, iv aCursor.col, bv aVisible, iv aShape, sv aTitle] 55] [] (T := 63) (c := cSp3) (r := r12) (xs := (ref24_Spans aCols aRows aCursor aVisible aShape aTitle bCols bRows bCursor bVisible bShape bTitle)) hk13 (by first | rfl | simp only [List.cons_append, List.append_assoc, List.nil_append, List.append_nil]) ?_
          refine ixc rfl (det_call (slices_Equal_api_Span_api_Span_c rdamageSpans.1 (ref24_Spans aCols aRows aCursor aVisible aShape aTitle bCols bRows bCursor bVisible bShape bTitle) (va r4.q) r4.k (va r12.q) r12.k (by first | omega | (simp only [List.length_take, List.length_drop, List.length_append, List.length_cons, List.length_nil, List.length_set, List.length_map]; omega) | decide) (by first | omega | (simp only [List.length_take, List.length_drop, List.length_append, List.length_cons, List.length_nil, List.length_set, List.length_map]; omega) | decide) (by first | omega | (simp only [List.length_take, List.length_drop, List.length_append, List.length_cons, List.length_nil, List.length_set, List.length_map]; omega) | decide) (by first | omega | (simp only [List.length_take, List.length_drop, List.length_append, List.length_cons, List.length_nil, List.length_set, List.length_map]; omega) | decide) _ rfl) rfl rfl rfl rfl rfl (Foll.pick [1, 0] rfl)) ?_
          refine ip 1 0 [(51, bv (slices_Equal_api_Span_api_Span rdamageSpans.1 (ref24_Spans aCols aRows aCursor aVisible aShape aTitle bCols bRows bCursor bVisible bShape bTitle)))] (by kernel_rfl) ?_
          exact JI_end (armI 7 45 51 g11 (Foll.pick [1, 2, 3, 4, 5, 6, 7] rfl) (mk [true, true] rfl) rfl rfl rfl rfl rfl)
        refine ip 1 0 [(4, bv ((decide (rdamageSpans.2 = 0)) && (slices_Equal_api_Span_api_Span rdamageSpans.1 (ref24_Spans aCols aRows aCursor aVisible aShape aTitle bCols bRows bCursor bVisible bShape bTitle))))] (by kernel_rfl) ?_
        refine ie ?_
        refine J_ret ?_
        subst hR
        exact ends_ret rfl ⟨hr, hD⟩ (by simp [hD]) (res1 rfl (resV_tmp rfl)) () (by rfl) (mk [false, false] rfl) Foll.nil

end Go.Proofs.YtlcaphkcfmlljaaGreatDoor

