import Derived.Test.YtlcaphkcfmlljaaGreatDoorD2
import Derived.Test.YtlcaphkcfmlljaaGreatDoorFenV
import Derived.Test.YtlcaphkcfmlljaaGreatDoorProg
import Derived.Test.YtlcaphkcfmlljaaGreatDoorT4a
import Derived.Test.YtlcaphkcfmlljaaGreatDoorT4b
import Derived.Test.YtlcaphkcfmlljaaGreatDoorT4c
import Derived.Test.YtlcaphkcfmlljaaGreatDoorT5
import Derived.Test.YtlcaphkcfmlljaaGreatDoorT8
import Derived.Test.YtlcaphkcfmlljaaGreatDoorT9
import Derived.Test.YtlcaphkcfmlljaaGreatDoorT10
set_option linter.unusedVariables false
set_option linter.unusedSimpArgs false
set_option linter.unnecessarySimpa false
namespace Go.Proofs.YtlcaphkcfmlljaaGreatDoor
open Go Go.Fen

def ref24_Sizes (aCols : Int) (aRows : List (List Cel)) (aCursor : Plc) (aVisible : Bool) (aShape : Int) (aTitle : List UInt8) (bCols : Int) (bRows : List (List Cel)) (bCursor : Plc) (bVisible : Bool) (bShape : Int) (bTitle : List UInt8) : Bool :=
  ((decide (aCols = bCols)) && (decide ((aRows.length : Int) = (bRows.length : Int))))

set_option maxRecDepth 100000 in
theorem ref24_Sizes_c (aCols : Int) (aRows : List (List Cel)) (aCursor : Plc) (aVisible : Bool) (aShape : Int) (aTitle : List UInt8) (bCols : Int) (bRows : List (List Cel)) (bCursor : Plc) (bVisible : Bool) (bShape : Int) (bTitle : List UInt8) (aRowsq : Option Addr) (aRowsrs : List Slc) (aRowsk : Nat) (bRowsq : Option Addr) (bRowsrs : List Slc) (bRowsk : Nat) (hrowsaRowsrs : RowsOk aRowsrs aRows) (hlaRows : aRows.length ≤ 9223372036854775807) (hcaRows : aRows.length ≤ aRowsk) (hrowsbRowsrs : RowsOk bRowsrs bRows) (hlbRows : bRows.length ≤ 9223372036854775807) (hcbRows : bRows.length ≤ bRowsk) (R : Bool) (hR : ref24_Sizes aCols aRows aCursor aVisible aShape aTitle bCols bRows bCursor bVisible bShape bTitle = R) : ConV Tryz.prog 29 [ag [iv aCols, .slice aRowsq aRows.length aRowsk, iv aCursor.row, iv aCursor.col, bv aVisible, iv aShape, sv aTitle], ag [iv bCols, .slice bRowsq bRows.length bRowsk, iv bCursor.row, iv bCursor.col, bv bVisible, iv bShape, sv bTitle]] [sl cSlc aRowsq aRowsrs, rowsF cCel aRowsrs aRows, sl cSlc bRowsq bRowsrs, rowsF cCel bRowsrs bRows] (bv R) := by
  refine con_of_J (n := 19) Tryz.func29 rfl (by kernel_rfl) rfl rfl [(0, ag [iv aCols, .slice aRowsq aRows.length aRowsk, iv aCursor.row, iv aCursor.col, bv aVisible, iv aShape, sv aTitle]), (1, ag [iv bCols, .slice bRowsq bRows.length bRowsk, iv bCursor.row, iv bCursor.col, bv bVisible, iv bShape, sv bTitle])] ⟨rfl, rfl, trivial⟩ fun X hX hr hD => ?_
  replace hR := (ref24_Sizes.eq_1 ..).symm.trans hR
  have := hrowsaRowsrs.1
  have := hrowsbRowsrs.1
  refine sr 3 rfl ?_
  refine it rfl (tri_box (cs := [iv aCols, .slice aRowsq aRows.length aRowsk, iv aCursor.row, iv aCursor.col, bv aVisible, iv aShape, sv aTitle]) rfl rfl rfl) fun b1 => ?_
  refine it rfl (tri_box (cs := [iv bCols, .slice bRowsq bRows.length bRowsk, iv bCursor.row, iv bCursor.col, bv bVisible, iv bShape, sv bTitle]) rfl rfl rfl) fun b2 => ?_
  refine ip 1 0 [] (by kernel_rfl) ?_
  refine ie ?_
  refine sr 15 rfl ?_
  refine ip 1 14 [(5, pt b1 0)] (by kernel_rfl) ?_
  refine ix rfl (det_own_one (v := iv aCols) ty3 rfl rfl 1 rfl rfl) ?_
  refine ip 1 12 [(7, pt b2 0)] (by kernel_rfl) ?_
  refine ix rfl (det_own_one (v := iv bCols) ty3 rfl rfl 0 rfl rfl) ?_
  refine ip 2 9 [(10, bv (decide (aCols = bCols)))] (by kernel_rfl) ?_
  refine iand 8 1 10 18 (decide ((aRows.length : Int) = (bRows.length : Int))) rfl (by kernel_rfl) (fun g3 => ?_) ?_
  · have g3p : aCols = bCols := by simpa using g3
    refine ip 1 7 [(11, pt b1 1)] (by kernel_rfl) ?_
    refine ix rfl (det_own_one (v := .slice aRowsq aRows.length aRowsk) ty51 rfl rfl 1 rfl rfl) ?_
    refine ip 2 4 [(13, iv (aRows.length : Int)), (14, pt b2 1)] (by kernel_rfl) ?_
    refine ix rfl (det_own_one (v := .slice bRowsq bRows.length bRowsk) ty51 rfl rfl 0 rfl rfl) ?_
    refine ip 3 0 [(18, bv (decide ((aRows.length : Int) = (bRows.length : Int))))] (by kernel_rfl) ?_
    exact JI_end (armI 7 10 18 g3 Foll.refl (mk [true, true] rfl) rfl rfl rfl rfl rfl)
  refine ip 1 0 [(4, bv ((decide (aCols = bCols)) && (decide ((aRows.length : Int) = (bRows.length : Int)))))] (by kernel_rfl) ?_
  refine ie ?_
  refine J_ret ?_
  subst hR
  exact ends_ret rfl ⟨hr, hD⟩ (by simp [hD]) (res1 rfl (resV_tmp rfl)) () (by rfl) (mk [false, false] rfl) Foll.nil

def law24_DamageOver_l0 (aCols : Int) (aRows : List (List Cel)) (aCursor : Plc) (aVisible : Bool) (aShape : Int) (aTitle : List UInt8) (bCols : Int) (bRows : List (List Cel)) (bCursor : Plc) (bVisible : Bool) (bShape : Int) (bTitle : List UInt8) (x : List Sp3) (rdamageOver : Int × List (List Cel) × Int × Int × Bool × Int × List UInt8 × Int) : List Sp3 → Nat → Bool
  | [], t58 => (bif (decide (rdamageOver.2.2.2.2.2.2.2 = 0)) then (bindV (ref24_Over aCols aRows aCursor aVisible aShape aTitle bCols bRows bCursor bVisible bShape bTitle (x.take ((if (100 : Int) < (x.length : Int) then (100 : Int) else (x.length : Int)).toNat))) fun (rref24Over : Int × List (List Cel) × Int × Int × Bool × Int × List UInt8) => (ref23_Same rdamageOver.1 rdamageOver.2.1 (⟨rdamageOver.2.2.1, rdamageOver.2.2.2.1⟩ : Plc) rdamageOver.2.2.2.2.1 rdamageOver.2.2.2.2.2.1 rdamageOver.2.2.2.2.2.2.1 rref24Over.1 rref24Over.2.1 (⟨rref24Over.2.2.1, rref24Over.2.2.2.1⟩ : Plc) rref24Over.2.2.2.2.1 rref24Over.2.2.2.2.2.1 rref24Over.2.2.2.2.2.2)) else false)
  | hd_l0 :: tl_l0, t58 => (bif (!(ref24_Fits aCols aRows aCursor aVisible aShape aTitle bCols bRows bCursor bVisible bShape bTitle hd_l0)) then ((decide (rdamageOver.2.2.2.2.2.2.2 = 2)) && (decide ((rdamageOver.2.1.length : Int) = 0))) else law24_DamageOver_l0 aCols aRows aCursor aVisible aShape aTitle bCols bRows bCursor bVisible bShape bTitle x rdamageOver tl_l0 (t58 + 1))
def law24_DamageOver (aCols : Int) (aRows : List (List Cel)) (aCursor : Plc) (aVisible : Bool) (aShape : Int) (aTitle : List UInt8) (bCols : Int) (bRows : List (List Cel)) (bCursor : Plc) (bVisible : Bool) (bShape : Int) (bTitle : List UInt8) (x : List Sp3) : Bool :=
  (bif (!law24_wakes) then false else (bindV (damage_Over aCols aRows aCursor aVisible aShape aTitle bCols bRows bCursor bVisible bShape bTitle (x.take ((if (100 : Int) < (x.length : Int) then (100 : Int) else (x.length : Int)).toNat))) fun (rdamageOver : Int × List (List Cel) × Int × Int × Bool × Int × List UInt8 × Int) => (bif ((!(ref23_Right aCols aRows aCursor aVisible aShape aTitle)) || (!(ref23_Right bCols bRows bCursor bVisible bShape bTitle))) then ((decide (rdamageOver.2.2.2.2.2.2.2 = 330)) && (decide ((rdamageOver.2.1.length : Int) = 0))) else (bif (!(ref24_Sizes aCols aRows aCursor aVisible aShape aTitle bCols bRows bCursor bVisible bShape bTitle)) then ((decide (rdamageOver.2.2.2.2.2.2.2 = 2)) && (decide ((rdamageOver.2.1.length : Int) = 0))) else law24_DamageOver_l0 aCols aRows aCursor aVisible aShape aTitle bCols bRows bCursor bVisible bShape bTitle x rdamageOver (x.take ((if (100 : Int) < (x.length : Int) then (100 : Int) else (x.length : Int)).toNat)) 0))))

set_option maxRecDepth 100000 in
theorem law24_DamageOver_c (aCols : Int) (aRows : List (List Cel)) (aCursor : Plc) (aVisible : Bool) (aShape : Int) (aTitle : List UInt8) (bCols : Int) (bRows : List (List Cel)) (bCursor : Plc) (bVisible : Bool) (bShape : Int) (bTitle : List UInt8) (x : List Sp3) (aRowsq : Option Addr) (aRowsrs : List Slc) (aRowsk : Nat) (bRowsq : Option Addr) (bRowsrs : List Slc) (bRowsk : Nat) (xq : Option Addr) (xk : Nat) (hrowsaRowsrs : RowsOk aRowsrs aRows) (hlaRows : aRows.length ≤ 9223372036854775807) (hcaRows : aRows.length ≤ aRowsk) (hrowsbRowsrs : RowsOk bRowsrs bRows) (hlbRows : bRows.length ≤ 9223372036854775807) (hcbRows : bRows.length ≤ bRowsk) (hlx : x.length ≤ 9223372036854775807) (hcx : x.length ≤ xk) (hT : aTitle.length ≤ 100000000) (hT2 : bTitle.length ≤ 100000000) (R : Bool) (hR : law24_DamageOver aCols aRows aCursor aVisible aShape aTitle bCols bRows bCursor bVisible bShape bTitle x = R) : ConV Tryz.prog 10 [ag [iv aCols, .slice aRowsq aRows.length aRowsk, iv aCursor.row, iv aCursor.col, bv aVisible, iv aShape, sv aTitle], ag [iv bCols, .slice bRowsq bRows.length bRowsk, iv bCursor.row, iv bCursor.col, bv bVisible, iv bShape, sv bTitle], .slice xq x.length xk] [sl cSlc aRowsq aRowsrs, rowsF cCel aRowsrs aRows, sl cSlc bRowsq bRowsrs, rowsF cCel bRowsrs bRows, sl cSp3 xq x, sl cSpn (some ⟨0, 0, none⟩) tab0, sl cSpn (some ⟨1, 0, none⟩) tab1] (bv R) := by
  refine con_of_J (n := 86) Tryz.func10 rfl (by kernel_rfl) rfl rfl [(0, ag [iv aCols, .slice aRowsq aRows.length aRowsk, iv aCursor.row, iv aCursor.col, bv aVisible, iv aShape, sv aTitle]), (1, ag [iv bCols, .slice bRowsq bRows.length bRowsk, iv bCursor.row, iv bCursor.col, bv bVisible, iv bShape, sv bTitle]), (2, .slice xq x.length xk)] ⟨rfl, rfl, rfl, trivial⟩ fun X hX hr hD => ?_
  replace hR := (law24_DamageOver.eq_1 ..).symm.trans hR
  have := hrowsaRowsrs.1
  have := hrowsbRowsrs.1
  refine sr 3 rfl ?_
  refine it rfl (tri_box (cs := [iv aCols, .slice aRowsq aRows.length aRowsk, iv aCursor.row, iv aCursor.col, bv aVisible, iv aShape, sv aTitle]) rfl rfl rfl) fun b1 => ?_
  refine it rfl (tri_box (cs := [iv bCols, .slice bRowsq bRows.length bRowsk, iv bCursor.row, iv bCursor.col, bv bVisible, iv bShape, sv bTitle]) rfl rfl rfl) fun b2 => ?_
  refine ip 1 0 [] (by kernel_rfl) ?_
  refine ie ?_
  refine J_seq ?_
  refine sr 2 rfl ?_
  refine ixc rfl (det_call (law24_wakes_c _ rfl) rfl rfl rfl rfl rfl (Foll.pick [5, 6] rfl)) ?_
  refine ip 1 0 [(13, bv (!law24_wakes))] (by kernel_rfl) ?_
  refine ie ?_
  refine J_if rfl (fun h3 => ?_) (fun h3 => ?_)
  · replace hR := bt hR h3
    refine sr 1 rfl ?_
    refine ip 1 0 [(6, bv false)] (by kernel_rfl) ?_
    refine ie ?_
    refine J_ret ?_
    subst hR
    exact ends_ret rfl ⟨hr, hD⟩ (by simp [hD]) (res1 rfl (resV_tmp rfl)) () (by rfl) (mk [false, false] rfl) Foll.nil
  · replace hR := bf hR h3
    refine J_skip ?_
    refine nx ?_
    refine sr 6 rfl ?_
    refine ip 4 2 [(14, .slice xq x.length xk), (17, iv (if (100 : Int) < (x.length : Int) then (100 : Int) else (x.length : Int)))] (by kernel_rfl) ?_
    have := mm_min (x.length : Int) (100 : Int)
    refine JI_fact1 (sl_take (at_of 4 rfl) ((if (100 : Int) < (x.length : Int) then (100 : Int) else (x.length : Int)).toNat)) ?_
    refine ix rfl (det_slc0 (n' := (x.take ((if (100 : Int) < (x.length : Int) then (100 : Int) else (x.length : Int)).toNat)).length) slt56 rfl rfl ((if (100 : Int) < (x.length : Int) then (100 : Int) else (x.length : Int)).toNat) xk (sb_some rfl (by omega)) sb_none (by omega) (by omega) (by first | rfl | omega | (simp only [List.length_take, List.length_drop]; omega) | (simp; done)) rfl) ?_
    refine ip 1 0 [(7, .slice xq ((x.take ((if (100 : Int) < (x.length : Int) then (100 : Int) else (x.length : Int)).toNat)).length) xk)] (by kernel_rfl) ?_
    refine ie ?_
    refine sr 10 rfl ?_
    refine ix rfl (det_own_agg (us := [iv aCols, .slice aRowsq aRows.length aRowsk, iv aCursor.row, iv aCursor.col, bv aVisible, iv aShape, sv aTitle]) ty55 rfl rfl 1 rfl rfl rfl) ?_
    refine ix rfl (det_own_agg (us := [iv bCols, .slice bRowsq bRows.length bRowsk, iv bCursor.row, iv bCursor.col, bv bVisible, iv bShape, sv bTitle]) ty55 rfl rfl 0 rfl rfl rfl) ?_
    refine ip 1 7 [(22, .slice xq ((x.take ((if (100 : Int) < (x.length : Int) then (100 : Int) else (x.length : Int)).toNat)).length) xk)] (by kernel_rfl) ?_
    have hQ := bindVx hR; clear hR; obtain ⟨rdamageOver, hrdamageOver, hR⟩ := hQ
    refine it rfl (tri_callP (L2 := [bx b2 [iv bCols, .slice bRowsq bRows.length bRowsk, iv bCursor.row, iv bCursor.col, bv bVisible, iv bShape, sv bTitle] 55, bx b1 [iv aCols, .slice aRowsq aRows.length aRowsk, iv aCursor.row, iv aCursor.col, bv aVisible, iv aShape, sv aTitle] 55]) (damage_Over_c aCols aRows aCursor aVisible aShape aTitle bCols bRows bCursor bVisible bShape bTitle (x.take ((if (100 : Int) < (x.length : Int) then (100 : Int) else (x.length : Int)).toNat)) aRowsq aRowsrs aRowsk bRowsq bRowsrs bRowsk xq xk hrowsaRowsrs (by first | omega | (simp only [List.length_take, List.length_drop, List.length_append, List.length_cons, List.length_nil, List.length_set, List.length_map]; omega) | decide) (by first | omega | (simp only [List.length_take, List.length_drop, List.length_append, List.length_cons, List.length_nil, List.length_set, List.length_map]; omega) | decide) hrowsbRowsrs (by first | omega | (simp only [List.length_take, List.length_drop, List.length_append, List.length_cons, List.length_nil, List.length_set, List.length_map]; omega) | decide) (by first | omega | (simp only [List.length_take, List.length_drop, List.length_append, List.length_cons, List.length_nil, List.length_set, List.length_map]; omega) | decide) (by first | omega | (simp only [List.length_take, List.length_drop, List.length_append, List.length_cons, List.length_nil, List.length_set, List.length_map]; omega) | decide) (by first | omega | (simp only [List.length_take, List.length_drop, List.length_append, List.length_cons, List.length_nil, List.length_set, List.length_map]; omega) | decide) (by first | omega | (simp only [List.length_nil]; omega)) (by first | omega | (simp only [List.length_nil]; omega)) rdamageOver hrdamageOver) rfl rfl rfl rfl rfl (Foll.pick [1, 2, 3, 4, 0, 6, 7] rfl) (List.Perm.refl _) (fun ⟨⟨r4, rs5⟩, hp8⟩ => (bx b2 [iv bCols, .slice bRowsq bRows.length bRowsk, iv bCursor.row, iv bCursor.col, bv bVisible, iv bShape, sv bTitle] 55 :: bx b1 [iv aCols, .slice aRowsq aRows.length aRowsk, iv aCursor.row, iv aCursor.col, bv aVisible, iv aShape, sv aTitle] 55 :: (vo cSlc 74 r4 rs5) ++ ([]))) (fun ⟨⟨r4, rs5⟩, hp8⟩ => permC [vo cSlc 74 r4 rs5, [bx b2 [iv bCols, .slice bRowsq bRows.length bRowsk, iv bCursor.row, iv bCursor.col, bv bVisible, iv bShape, sv bTitle] 55], [bx b1 [iv aCols, .slice aRowsq aRows.length aRowsk, iv aCursor.row, iv aCursor.col, bv aVisible, iv aShape, sv aTitle] 55]] [1, 2, 0] 3 rfl (by decide) (by first | rfl | simp only [List.flatten_cons, List.flatten_nil, List.append_nil, List.cons_append, List.nil_append, List.append_assoc]) [[bx b2 [iv bCols, .slice bRowsq bRows.length bRowsk, iv bCursor.row, iv bCursor.col, bv bVisible, iv bShape, sv bTitle] 55], [bx b1 [iv aCols, .slice aRowsq aRows.length aRowsk, iv aCursor.row, iv aCursor.col, bv aVisible, iv aShape, sv aTitle] 55], vo cSlc 74 r4 rs5] rfl (by first | rfl | simp only [List.flatten_cons, List.flatten_nil, List.append_nil, List.cons_append, List.nil_append, List.append_assoc]))) fun ⟨⟨r4, rs5⟩, hp8⟩ => ?_
    obtain ⟨hk6, hw7⟩ := hp8
    have := VOk.le hk6
    have := VOk.cap hk6
    have := hw7.1
    have := damage_Over_title aCols aRows aCursor aVisible aShape aTitle bCols bRows bCursor bVisible bShape bTitle (x.take ((if (100 : Int) < (x.length : Int) then (100 : Int) else (x.length : Int)).toNat)); try rw [hrdamageOver] at this
    refine JI_seal [bx b2 [iv bCols, .slice bRowsq bRows.length bRowsk, iv bCursor.row, iv bCursor.col, bv bVisible, iv bShape, sv bTitle] 55, bx b1 [iv aCols, .slice aRowsq aRows.length aRowsk, iv aCursor.row, iv aCursor.col, bv aVisible, iv aShape, sv aTitle] 55] [] (T := 74) (c := cSlc) (r := r4) (xs := rs5) (VOk.cast hk6 (by rw [hw7.1])) (by first | rfl | simp only [List.cons_append, List.append_assoc, List.nil_append, List.append_nil]) ?_
    refine ip 3 3 [(24, ag [iv rdamageOver.1, .slice (va r4.q) rdamageOver.2.1.length r4.k, iv rdamageOver.2.2.1, iv rdamageOver.2.2.2.1, bv rdamageOver.2.2.2.2.1, iv rdamageOver.2.2.2.2.2.1, sv rdamageOver.2.2.2.2.2.2.1]), (25, iv rdamageOver.2.2.2.2.2.2.2)] (by kernel_rfl) ?_
    refine it rfl (tri_alloc (cs := [iv 0, .slice none 0 0, iv 0, iv 0, bv false, iv 0, sv ([] : List UInt8)]) zero55 rfl) fun b9 => ?_
    refine it rfl (tri_store (us := [iv rdamageOver.1, .slice (va r4.q) rdamageOver.2.1.length r4.k, iv rdamageOver.2.2.1, iv rdamageOver.2.2.2.1, bv rdamageOver.2.2.2.2.1, iv rdamageOver.2.2.2.2.2.1, sv rdamageOver.2.2.2.2.2.2.1]) (cs' := [iv rdamageOver.1, .slice (va r4.q) rdamageOver.2.1.length r4.k, iv rdamageOver.2.2.1, iv rdamageOver.2.2.2.1, bv rdamageOver.2.2.2.2.1, iv rdamageOver.2.2.2.2.2.1, sv rdamageOver.2.2.2.2.2.2.1]) ty55 rfl rfl rfl 0 rfl rfl rfl rfl rfl rfl) fun _ => ?_
    refine ip 1 0 [(9, iv rdamageOver.2.2.2.2.2.2.2)] (by kernel_rfl) ?_
    refine ie ?_
    refine J_seq ?_
    refine J_block ?_
    refine sr 9 rfl ?_
    refine ix rfl (det_own_agg (us := [iv aCols, .slice aRowsq aRows.length aRowsk, iv aCursor.row, iv aCursor.col, bv aVisible, iv aShape, sv aTitle]) ty55 rfl rfl 2 rfl rfl rfl) ?_
    refine ixc rfl (det_call (ref23_Right_c aCols aRows aCursor aVisible aShape aTitle aRowsq aRowsrs aRowsk hrowsaRowsrs (by first | omega | (simp only [List.length_take, List.length_drop, List.length_append, List.length_cons, List.length_nil, List.length_set, List.length_map]; omega) | decide) (by first | omega | (simp only [List.length_take, List.length_drop, List.length_append, List.length_cons, List.length_nil, List.length_set, List.length_map]; omega) | decide) _ rfl) rfl rfl rfl rfl rfl (Foll.pick [3, 4] rfl)) ?_
    refine ip 2 5 [(30, bv (!(ref23_Right aCols aRows aCursor aVisible aShape aTitle)))] (by kernel_rfl) ?_
    refine ior 4 1 30 34 (!(ref23_Right bCols bRows bCursor bVisible bShape bTitle)) rfl (by kernel_rfl) (fun g10 => ?_) ?_
    · refine ix rfl (det_own_agg (us := [iv bCols, .slice bRowsq bRows.length bRowsk, iv bCursor.row, iv bCursor.col, bv bVisible, iv bShape, sv bTitle]) ty55 rfl rfl 1 rfl rfl rfl) ?_
      refine ixc rfl (det_call (ref23_Right_c bCols bRows bCursor bVisible bShape bTitle bRowsq bRowsrs bRowsk hrowsbRowsrs (by first | omega | (simp only [List.length_take, List.length_drop, List.length_append, List.length_cons, List.length_nil, List.length_set, List.length_map]; omega) | decide) (by first | omega | (simp only [List.length_take, List.length_drop, List.length_append, List.length_cons, List.length_nil, List.length_set, List.length_map]; omega) | decide) _ rfl) rfl rfl rfl rfl rfl (Foll.pick [5, 6] rfl)) ?_
      refine ip 2 0 [(34, bv (!(ref23_Right bCols bRows bCursor bVisible bShape bTitle)))] (by kernel_rfl) ?_
      exact JI_end (armI 4 30 34 g10 Foll.refl (mk [true, true, true] rfl) rfl rfl rfl rfl rfl)
    refine ip 1 0 [(26, bv ((!(ref23_Right aCols aRows aCursor aVisible aShape aTitle)) || (!(ref23_Right bCols bRows bCursor bVisible bShape bTitle))))] (by kernel_rfl) ?_
    refine ie ?_
    refine J_if rfl (fun h11 => ?_) (fun h11 => ?_)
    · have h11p := h11; try simp only [Bool.and_eq_true, Bool.or_eq_true, Bool.and_eq_false_iff, Bool.or_eq_false_iff, Bool.not_eq_true', Bool.not_eq_false', decide_eq_true_eq, decide_eq_false_iff_not] at h11p
      replace hR := bt hR h11
      refine sr 9 rfl ?_
      refine ip 3 6 [(37, bv (decide (rdamageOver.2.2.2.2.2.2.2 = 330)))] (by kernel_rfl) ?_
      refine iand 5 1 37 42 (decide ((rdamageOver.2.1.length : Int) = 0)) rfl (by kernel_rfl) (fun g12 => ?_) ?_
      · have g12p : rdamageOver.2.2.2.2.2.2.2 = 330 := by simpa using g12
        refine ip 1 4 [(38, pt b9 1)] (by kernel_rfl) ?_
        refine ix rfl (det_own_one (v := .slice (va r4.q) rdamageOver.2.1.length r4.k) ty51 rfl rfl 0 rfl rfl) ?_
        refine ip 3 0 [(42, bv (decide ((rdamageOver.2.1.length : Int) = 0)))] (by kernel_rfl) ?_
        exact JI_end (armI 4 37 42 g12 Foll.refl (mk [true, true, true] rfl) rfl rfl rfl rfl rfl)
      refine ip 1 0 [(6, bv ((decide (rdamageOver.2.2.2.2.2.2.2 = 330)) && (decide ((rdamageOver.2.1.length : Int) = 0))))] (by kernel_rfl) ?_
      refine ie ?_
      refine J_ret ?_
      subst hR
      exact ends_ret rfl ⟨hr, hD⟩ (by simp [hD]) (res1 rfl (resV_tmp rfl)) () (by rfl) (mk [false, false, false] rfl) Foll.nil
    · have h11p := h11; try simp only [Bool.and_eq_true, Bool.or_eq_true, Bool.and_eq_false_iff, Bool.or_eq_false_iff, Bool.not_eq_true', Bool.not_eq_false', decide_eq_true_eq, decide_eq_false_iff_not] at h11p
      replace hR := bf hR h11
      try (have hq := h11; simp only [Bool.or_eq_false_iff, Bool.not_eq_false'] at hq; have hka := ref23_Right_ok hq.1; have hkb := ref23_Right_ok hq.2)
      try (have hqs : aCols = bCols ∧ aRows.length = bRows.length := (by have q := h11; simp [ref24_Sizes] at q; omega); have hz0 : aRows.length ≤ 40 ∧ aRows.length = bRows.length ∧ 0 ≤ aCols ∧ aCols ≤ 80 := (by omega); have hra0 : ∀ i, i < aRows.length → ((aRows.getD i []).length : Int) = aCols := hka.2.2.2.2; have hrb0 : ∀ i, i < bRows.length → ((bRows.getD i []).length : Int) = aCols := (fun i hi => by have := hkb.2.2.2.2 i hi; omega); have hra1 : ∀ i, i < aRows.length → (aRows.getD i []).length ≤ 80 ∧ (aRows.getD i []).length = (bRows.getD i []).length := (fun i hi => by have := hra0 i hi; have := hrb0 i (by omega); omega))
      refine sr 5 rfl ?_
      refine ix rfl (det_own_agg (us := [iv aCols, .slice aRowsq aRows.length aRowsk, iv aCursor.row, iv aCursor.col, bv aVisible, iv aShape, sv aTitle]) ty55 rfl rfl 2 rfl rfl rfl) ?_
      refine ix rfl (det_own_agg (us := [iv bCols, .slice bRowsq bRows.length bRowsk, iv bCursor.row, iv bCursor.col, bv bVisible, iv bShape, sv bTitle]) ty55 rfl rfl 1 rfl rfl rfl) ?_
      refine ixc rfl (det_call (ref24_Sizes_c aCols aRows aCursor aVisible aShape aTitle bCols bRows bCursor bVisible bShape bTitle aRowsq aRowsrs aRowsk bRowsq bRowsrs bRowsk hrowsaRowsrs (by first | omega | (simp only [List.length_take, List.length_drop, List.length_append, List.length_cons, List.length_nil, List.length_set, List.length_map]; omega) | decide) (by first | omega | (simp only [List.length_take, List.length_drop, List.length_append, List.length_cons, List.length_nil, List.length_set, List.length_map]; omega) | decide) hrowsbRowsrs (by first | omega | (simp only [List.length_take, List.length_drop, List.length_append, List.length_cons, List.length_nil, List.length_set, List.length_map]; omega) | decide) (by first | omega | (simp only [List.length_take, List.length_drop, List.length_append, List.length_cons, List.length_nil, List.length_set, List.length_map]; omega) | decide) _ rfl) rfl rfl rfl rfl rfl (Foll.pick [3, 4, 5, 6] rfl)) ?_
      refine ip 2 0 [(43, bv (!(ref24_Sizes aCols aRows aCursor aVisible aShape aTitle bCols bRows bCursor bVisible bShape bTitle)))] (by kernel_rfl) ?_
      refine ie ?_
      refine J_if rfl (fun h13 => ?_) (fun h13 => ?_)
      · replace hR := bt hR h13
        refine sr 9 rfl ?_
        refine ip 3 6 [(50, bv (decide (rdamageOver.2.2.2.2.2.2.2 = 2)))] (by kernel_rfl) ?_
        refine iand 5 1 50 55 (decide ((rdamageOver.2.1.length : Int) = 0)) rfl (by kernel_rfl) (fun g14 => ?_) ?_
        · have g14p : rdamageOver.2.2.2.2.2.2.2 = 2 := by simpa using g14
          refine ip 1 4 [(51, pt b9 1)] (by kernel_rfl) ?_
          refine ix rfl (det_own_one (v := .slice (va r4.q) rdamageOver.2.1.length r4.k) ty51 rfl rfl 0 rfl rfl) ?_
          refine ip 3 0 [(55, bv (decide ((rdamageOver.2.1.length : Int) = 0)))] (by kernel_rfl) ?_
          exact JI_end (armI 4 50 55 g14 Foll.refl (mk [true, true, true] rfl) rfl rfl rfl rfl rfl)
        refine ip 1 0 [(6, bv ((decide (rdamageOver.2.2.2.2.2.2.2 = 2)) && (decide ((rdamageOver.2.1.length : Int) = 0))))] (by kernel_rfl) ?_
        refine ie ?_
        refine J_ret ?_
        subst hR
        exact ends_ret rfl ⟨hr, hD⟩ (by simp [hD]) (res1 rfl (resV_tmp rfl)) () (by rfl) (mk [false, false, false] rfl) Foll.nil
      · replace hR := bf hR h13
        try (have hq := h13; simp only [Bool.or_eq_false_iff, Bool.not_eq_false'] at hq; have hka := ref23_Right_ok hq.1; have hkb := ref23_Right_ok hq.2)
        try (have hqs : aCols = bCols ∧ aRows.length = bRows.length := (by have q := h13; simp [ref24_Sizes] at q; omega); have hz0 : aRows.length ≤ 40 ∧ aRows.length = bRows.length ∧ 0 ≤ aCols ∧ aCols ≤ 80 := (by omega); have hra0 : ∀ i, i < aRows.length → ((aRows.getD i []).length : Int) = aCols := hka.2.2.2.2; have hrb0 : ∀ i, i < bRows.length → ((bRows.getD i []).length : Int) = aCols := (fun i hi => by have := hkb.2.2.2.2 i hi; omega); have hra1 : ∀ i, i < aRows.length → (aRows.getD i []).length ≤ 80 ∧ (aRows.getD i []).length = (bRows.getD i []).length := (fun i hi => by have := hra0 i hi; have := hrb0 i (by omega); omega))
        refine J_skip ?_
        refine nx ?_
        refine J_seq ?_
        refine sr 3 rfl ?_
        refine ip 3 0 [(56, .slice xq ((x.take ((if (100 : Int) < (x.length : Int) then (100 : Int) else (x.length : Int)).toNat)).length) xk), (57, iv ((x.take ((if (100 : Int) < (x.length : Int) then (100 : Int) else (x.length : Int)).toNat)).length : Int)), (58, iv 0)] (by kernel_rfl) ?_
        refine ie ?_
        refine J_block ?_
        refine JL1 (fun (t58 : Nat) => t58 ≤ (x.take ((if (100 : Int) < (x.length : Int) then (100 : Int) else (x.length : Int)).toNat)).length ∧ law24_DamageOver_l0 aCols aRows aCursor aVisible aShape aTitle bCols bRows bCursor bVisible bShape bTitle x rdamageOver ((x.take ((if (100 : Int) < (x.length : Int) then (100 : Int) else (x.length : Int)).toNat)).drop t58) t58 = R) (fun (t58 : Nat) => [(3, pt b1 0), (4, pt b2 0), (7, .slice xq ((x.take ((if (100 : Int) < (x.length : Int) then (100 : Int) else (x.length : Int)).toNat)).length) xk), (8, pt b9 0), (9, iv rdamageOver.2.2.2.2.2.2.2), (56, .slice xq ((x.take ((if (100 : Int) < (x.length : Int) then (100 : Int) else (x.length : Int)).toNat)).length) xk), (57, iv ((x.take ((if (100 : Int) < (x.length : Int) then (100 : Int) else (x.length : Int)).toNat)).length : Int)), (58, iv (t58 : Int))]) (fun (t58 : Nat) => [bx b9 [iv rdamageOver.1, .slice (va r4.q) rdamageOver.2.1.length r4.k, iv rdamageOver.2.2.1, iv rdamageOver.2.2.2.1, bv rdamageOver.2.2.2.2.1, iv rdamageOver.2.2.2.2.2.1, sv rdamageOver.2.2.2.2.2.2.1] 55, bx b2 [iv bCols, .slice bRowsq bRows.length bRowsk, iv bCursor.row, iv bCursor.col, bv bVisible, iv bShape, sv bTitle] 55, bx b1 [iv aCols, .slice aRowsq aRows.length aRowsk, iv aCursor.row, iv aCursor.col, bv aVisible, iv aShape, sv aTitle] 55]) (fun (t58 : Nat) => [sl cSlc (va r4.q) rs5, rowsF cCel rs5 rdamageOver.2.1, sl cSp3 xq (x.take ((if (100 : Int) < (x.length : Int) then (100 : Int) else (x.length : Int)).toNat)), sl cSlc aRowsq aRowsrs, rowsF cCel aRowsrs aRows, sl cSlc bRowsq bRowsrs, rowsF cCel bRowsrs bRows, sl cSp3 xq x, sl cSpn (some ⟨0, 0, none⟩) tab0, sl cSpn (some ⟨1, 0, none⟩) tab1]) (fun (t58 : Nat) => (x.take ((if (100 : Int) < (x.length : Int) then (100 : Int) else (x.length : Int)).toNat)).length - t58) 0 ⟨(by omega), hR⟩ ⟨rfl, rfl, rfl, rfl, rfl, rfl, rfl, (by first | rfl | (simp only [List.length_set, List.length_append, List.length_cons, List.length_nil]; rfl) | simp | (simp; omega)), trivial⟩ (mk [true, true, true] rfl) Foll.refl ?_
        rintro t58 ⟨hm15, hR⟩
        have htk : (x.take ((if (100 : Int) < (x.length : Int) then (100 : Int) else (x.length : Int)).toNat)).length ≤ x.length := by rw [List.length_take]; exact Nat.min_le_right _ _
        refine sr 1 rfl ?_
        refine ip 1 0 [(59, bv (decide ((t58 : Int) < ((x.take ((if (100 : Int) < (x.length : Int) then (100 : Int) else (x.length : Int)).toNat)).length : Int))))] (by kernel_rfl) ?_
        refine ie ?_
        refine J_seq ?_
        refine J_if rfl (fun h16 => ?_) (fun h16 => ?_)
        · have h16p : (t58 : Int) < ((x.take ((if (100 : Int) < (x.length : Int) then (100 : Int) else (x.length : Int)).toNat)).length : Int) := by simpa using h16
          rw [dropc Sp3.zero (show t58 < (x.take ((if (100 : Int) < (x.length : Int) then (100 : Int) else (x.length : Int)).toNat)).length by omega)] at hR; replace hR := (law24_DamageOver_l0.eq_2 ..).symm.trans hR
          refine J_skip ?_
          refine nx ?_
          refine J_seq ?_
          refine J_block ?_
          refine sr 4 rfl ?_
          refine JI_base 2 rfl (by omega) fun a17 hq18 => ?_
          refine ix rfl (det_ixq slt56 rfl rfl hq18 rfl t58 rfl (by omega)) ?_
          refine ix rfl (det_ld_agg (us := cSp3 ((x.take ((if (100 : Int) < (x.length : Int) then (100 : Int) else (x.length : Int)).toNat)).getD t58 Sp3.zero)) ty63 rfl rfl (at_slq (c := cSp3) (sz := 3) hq18 (fun _ => rfl) 2 rfl (gd Sp3.zero (by omega))) rfl) ?_
          refine it rfl (tri_alloc (cs := cSp3 Sp3.zero) zero63 rfl) fun b19 => ?_
          refine it rfl (tri_store (us := cSp3 ((x.take ((if (100 : Int) < (x.length : Int) then (100 : Int) else (x.length : Int)).toNat)).getD t58 Sp3.zero)) (cs' := cSp3 ((x.take ((if (100 : Int) < (x.length : Int) then (100 : Int) else (x.length : Int)).toNat)).getD t58 Sp3.zero)) ty63 rfl rfl rfl 0 rfl rfl rfl rfl rfl rfl) fun _ => ?_
          refine ie ?_
          refine sr 5 rfl ?_
          refine ix rfl (det_own_agg (us := [iv aCols, .slice aRowsq aRows.length aRowsk, iv aCursor.row, iv aCursor.col, bv aVisible, iv aShape, sv aTitle]) ty55 rfl rfl 3 rfl rfl rfl) ?_
          refine ix rfl (det_own_agg (us := [iv bCols, .slice bRowsq bRows.length bRowsk, iv bCursor.row, iv bCursor.col, bv bVisible, iv bShape, sv bTitle]) ty55 rfl rfl 2 rfl rfl rfl) ?_
          refine ix rfl (det_own_agg (us := cSp3 ((x.take ((if (100 : Int) < (x.length : Int) then (100 : Int) else (x.length : Int)).toNat)).getD t58 Sp3.zero)) ty63 rfl rfl 0 rfl rfl rfl) ?_
          refine ixc rfl (det_call (ref24_Fits_c aCols aRows aCursor aVisible aShape aTitle bCols bRows bCursor bVisible bShape bTitle ((x.take ((if (100 : Int) < (x.length : Int) then (100 : Int) else (x.length : Int)).toNat)).getD t58 Sp3.zero) aRowsq aRowsrs aRowsk bRowsq bRowsrs bRowsk hrowsaRowsrs (by first | omega | (simp only [List.length_take, List.length_drop, List.length_append, List.length_cons, List.length_nil, List.length_set, List.length_map]; omega) | decide) (by first | omega | (simp only [List.length_take, List.length_drop, List.length_append, List.length_cons, List.length_nil, List.length_set, List.length_map]; omega) | decide) hrowsbRowsrs (by first | omega | (simp only [List.length_take, List.length_drop, List.length_append, List.length_cons, List.length_nil, List.length_set, List.length_map]; omega) | decide) (by first | omega | (simp only [List.length_take, List.length_drop, List.length_append, List.length_cons, List.length_nil, List.length_set, List.length_map]; omega) | decide) (by first | omega | exact hz0) (by exact hra0) (by exact hrb0) _ rfl) rfl rfl rfl rfl rfl (Foll.pick [3, 4, 5, 6] rfl)) ?_
          refine ip 1 0 [(66, bv (!(ref24_Fits aCols aRows aCursor aVisible aShape aTitle bCols bRows bCursor bVisible bShape bTitle ((x.take ((if (100 : Int) < (x.length : Int) then (100 : Int) else (x.length : Int)).toNat)).getD t58 Sp3.zero))))] (by kernel_rfl) ?_
          refine ie ?_
          refine J_if rfl (fun h20 => ?_) (fun h20 => ?_)
          · replace hR := bt hR h20
            refine sr 9 rfl ?_
            refine ip 3 6 [(69, bv (decide (rdamageOver.2.2.2.2.2.2.2 = 2)))] (by kernel_rfl) ?_
            refine iand 5 1 69 74 (decide ((rdamageOver.2.1.length : Int) = 0)) rfl (by kernel_rfl) (fun g21 => ?_) ?_
            · have g21p : rdamageOver.2.2.2.2.2.2.2 = 2 := by simpa using g21
              refine ip 1 4 [(70, pt b9 1)] (by kernel_rfl) ?_
              refine ix rfl (det_own_one (v := .slice (va r4.q) rdamageOver.2.1.length r4.k) ty51 rfl rfl 1 rfl rfl) ?_
              refine ip 3 0 [(74, bv (decide ((rdamageOver.2.1.length : Int) = 0)))] (by kernel_rfl) ?_
              exact JI_end (armI 4 69 74 g21 Foll.refl (mk [true, true, true, true] rfl) rfl rfl rfl rfl rfl)
            refine ip 1 0 [(6, bv ((decide (rdamageOver.2.2.2.2.2.2.2 = 2)) && (decide ((rdamageOver.2.1.length : Int) = 0))))] (by kernel_rfl) ?_
            refine ie ?_
            refine J_ret ?_
            subst hR
            exact ends_ret rfl ⟨hr, hD⟩ (by simp [hD]) (res1 rfl (resV_tmp rfl)) () (by rfl) (mk [false, false, false, false] rfl) Foll.nil
          · replace hR := bf hR h20
            try (have hq := h20; simp only [Bool.or_eq_false_iff, Bool.not_eq_false'] at hq; have hka := ref23_Right_ok hq.1; have hkb := ref23_Right_ok hq.2)
            try (have hqs : aCols = bCols ∧ aRows.length = bRows.length := (by have q := h20; simp [ref24_Sizes] at q; omega); have hz0 : aRows.length ≤ 40 ∧ aRows.length = bRows.length ∧ 0 ≤ aCols ∧ aCols ≤ 80 := (by omega); have hra0 : ∀ i, i < aRows.length → ((aRows.getD i []).length : Int) = aCols := hka.2.2.2.2; have hrb0 : ∀ i, i < bRows.length → ((bRows.getD i []).length : Int) = aCols := (fun i hi => by have := hkb.2.2.2.2 i hi; omega); have hra1 : ∀ i, i < aRows.length → (aRows.getD i []).length ≤ 80 ∧ (aRows.getD i []).length = (bRows.getD i []).length := (fun i hi => by have := hra0 i hi; have := hrb0 i (by omega); omega))
            refine J_skip ?_
            refine nx ?_
            refine J_region 2 rfl ?_
            refine ix rfl (det_add64 rfl rfl rfl rfl (by omega)) ?_
            refine ip 1 0 [(58, iv ((t58 : Int) + 1))] (by kernel_rfl) ?_
            refine JI_end ?_
            exact againL1 (z1 := t58) (t58 + 1) ⟨(by omega), hR⟩ (by (try dsimp only); omega) ⟨rfl, rfl, rfl, rfl, rfl, rfl, rfl, (by first | rfl | (simp only [List.length_set, List.length_append, List.length_cons, List.length_nil]; rfl) | simp | (simp; omega)), trivial⟩ (mk [false, true, true, true] rfl) Foll.refl
        · have h16p : ¬ ((t58 : Int) < ((x.take ((if (100 : Int) < (x.length : Int) then (100 : Int) else (x.length : Int)).toNat)).length : Int)) := by simpa using h16
          rw [dropn h16p] at hR; replace hR := (law24_DamageOver_l0.eq_1 ..).symm.trans hR
          try (have hq := h16; simp only [Bool.or_eq_false_iff, Bool.not_eq_false'] at hq; have hka := ref23_Right_ok hq.1; have hkb := ref23_Right_ok hq.2)
          try (have hqs : aCols = bCols ∧ aRows.length = bRows.length := (by have q := h16; simp [ref24_Sizes] at q; omega); have hz0 : aRows.length ≤ 40 ∧ aRows.length = bRows.length ∧ 0 ≤ aCols ∧ aCols ≤ 80 := (by omega); have hra0 : ∀ i, i < aRows.length → ((aRows.getD i []).length : Int) = aCols := hka.2.2.2.2; have hrb0 : ∀ i, i < bRows.length → ((bRows.getD i []).length : Int) = aCols := (fun i hi => by have := hkb.2.2.2.2 i hi; omega); have hra1 : ∀ i, i < aRows.length → (aRows.getD i []).length ≤ 80 ∧ (aRows.getD i []).length = (bRows.getD i []).length := (fun i hi => by have := hra0 i hi; have := hrb0 i (by omega); omega))
          refine J_exit ?_
          refine nx ?_
          refine sh 11 [(11, [bx b9 [iv rdamageOver.1, .slice (va r4.q) rdamageOver.2.1.length r4.k, iv rdamageOver.2.2.1, iv rdamageOver.2.2.2.1, bv rdamageOver.2.2.2.2.1, iv rdamageOver.2.2.2.2.2.1, sv rdamageOver.2.2.2.2.2.2.1] 55]), (11, [bx b2 [iv bCols, .slice bRowsq bRows.length bRowsk, iv bCursor.row, iv bCursor.col, bv bVisible, iv bShape, sv bTitle] 55]), (11, [bx b1 [iv aCols, .slice aRowsq aRows.length aRowsk, iv aCursor.row, iv aCursor.col, bv aVisible, iv aShape, sv aTitle] 55])] [sl cSlc (va r4.q) rs5, rowsF cCel rs5 rdamageOver.2.1, sl cSp3 xq (x.take ((if (100 : Int) < (x.length : Int) then (100 : Int) else (x.length : Int)).toNat)), sl cSlc aRowsq aRowsrs, rowsF cCel aRowsrs aRows, sl cSlc bRowsq bRowsrs, rowsF cCel bRowsrs bRows, sl cSp3 xq x, sl cSpn (some ⟨0, 0, none⟩) tab0, sl cSpn (some ⟨1, 0, none⟩) tab1] [bx b9 [iv rdamageOver.1, .slice (va r4.q) rdamageOver.2.1.length r4.k, iv rdamageOver.2.2.1, iv rdamageOver.2.2.2.1, bv rdamageOver.2.2.2.2.1, iv rdamageOver.2.2.2.2.2.1, sv rdamageOver.2.2.2.2.2.2.1] 55, bx b2 [iv bCols, .slice bRowsq bRows.length bRowsk, iv bCursor.row, iv bCursor.col, bv bVisible, iv bShape, sv bTitle] 55, bx b1 [iv aCols, .slice aRowsq aRows.length aRowsk, iv aCursor.row, iv aCursor.col, bv aVisible, iv aShape, sv aTitle] 55] #[false, false, false, false, false, false, false, false, false, false, false] (by kernel_rfl) rfl (by kernel_rfl) (by kernel_rfl) (by kernel_rfl) (mk [true, true, true] rfl) Foll.refl ?_
          refine hpur [0, 1, 2] 8 #[true, true, true, false, false, false, false, false, false, false, false] [(78, bv (decide (rdamageOver.2.2.2.2.2.2.2 = 0)))] (by kernel_rfl) ?_
          refine JH_cases 78 _ rfl (fun g22 => ?_) (fun g22 => ?_)
          · have g22p : rdamageOver.2.2.2.2.2.2.2 = 0 := by simpa using g22
            replace hR := bt hR g22
            refine hpur [6] 7 #[true, true, true, false, false, false, true, false, false, false, false] [(82, .slice xq ((x.take ((if (100 : Int) < (x.length : Int) then (100 : Int) else (x.length : Int)).toNat)).length) xk)] (by kernel_rfl) ?_
            refine htak 3 [bx b9 [iv rdamageOver.1, .slice (va r4.q) rdamageOver.2.1.length r4.k, iv rdamageOver.2.2.1, iv rdamageOver.2.2.2.1, bv rdamageOver.2.2.2.2.1, iv rdamageOver.2.2.2.2.2.1, sv rdamageOver.2.2.2.2.2.2.1] 55, bx b2 [iv bCols, .slice bRowsq bRows.length bRowsk, iv bCursor.row, iv bCursor.col, bv bVisible, iv bShape, sv bTitle] 55, bx b1 [iv aCols, .slice aRowsq aRows.length aRowsk, iv aCursor.row, iv aCursor.col, bv aVisible, iv aShape, sv aTitle] 55] #[true, true, true, true, false, false, true, false, false, false, false] rfl rfl rfl (by kernel_rfl) (by kernel_rfl) (by kernel_rfl) (det_own_agg (us := [iv rdamageOver.1, .slice (va r4.q) rdamageOver.2.1.length r4.k, iv rdamageOver.2.2.1, iv rdamageOver.2.2.2.1, bv rdamageOver.2.2.2.2.1, iv rdamageOver.2.2.2.2.2.1, sv rdamageOver.2.2.2.2.2.2.1]) ty55 rfl rfl 0 rfl rfl rfl) ?_
            refine htak 4 [bx b9 [iv rdamageOver.1, .slice (va r4.q) rdamageOver.2.1.length r4.k, iv rdamageOver.2.2.1, iv rdamageOver.2.2.2.1, bv rdamageOver.2.2.2.2.1, iv rdamageOver.2.2.2.2.2.1, sv rdamageOver.2.2.2.2.2.2.1] 55, bx b2 [iv bCols, .slice bRowsq bRows.length bRowsk, iv bCursor.row, iv bCursor.col, bv bVisible, iv bShape, sv bTitle] 55, bx b1 [iv aCols, .slice aRowsq aRows.length aRowsk, iv aCursor.row, iv aCursor.col, bv aVisible, iv aShape, sv aTitle] 55] #[true, true, true, true, true, false, true, false, false, false, false] rfl rfl rfl (by kernel_rfl) (by kernel_rfl) (by kernel_rfl) (det_own_agg (us := [iv aCols, .slice aRowsq aRows.length aRowsk, iv aCursor.row, iv aCursor.col, bv aVisible, iv aShape, sv aTitle]) ty55 rfl rfl 2 rfl rfl rfl) ?_
            refine htak 5 [bx b9 [iv rdamageOver.1, .slice (va r4.q) rdamageOver.2.1.length r4.k, iv rdamageOver.2.2.1, iv rdamageOver.2.2.2.1, bv rdamageOver.2.2.2.2.1, iv rdamageOver.2.2.2.2.2.1, sv rdamageOver.2.2.2.2.2.2.1] 55, bx b2 [iv bCols, .slice bRowsq bRows.length bRowsk, iv bCursor.row, iv bCursor.col, bv bVisible, iv bShape, sv bTitle] 55, bx b1 [iv aCols, .slice aRowsq aRows.length aRowsk, iv aCursor.row, iv aCursor.col, bv aVisible, iv aShape, sv aTitle] 55] #[true, true, true, true, true, true, true, false, false, false, false] rfl rfl rfl (by kernel_rfl) (by kernel_rfl) (by kernel_rfl) (det_own_agg (us := [iv bCols, .slice bRowsq bRows.length bRowsk, iv bCursor.row, iv bCursor.col, bv bVisible, iv bShape, sv bTitle]) ty55 rfl rfl 1 rfl rfl rfl) ?_
            have hQ := bindVx hR; clear hR; obtain ⟨rref24Over, hrref24Over, hR⟩ := hQ
            refine hone 7 [bx b9 [iv rdamageOver.1, .slice (va r4.q) rdamageOver.2.1.length r4.k, iv rdamageOver.2.2.1, iv rdamageOver.2.2.2.1, bv rdamageOver.2.2.2.2.1, iv rdamageOver.2.2.2.2.2.1, sv rdamageOver.2.2.2.2.2.2.1] 55, bx b2 [iv bCols, .slice bRowsq bRows.length bRowsk, iv bCursor.row, iv bCursor.col, bv bVisible, iv bShape, sv bTitle] 55, bx b1 [iv aCols, .slice aRowsq aRows.length aRowsk, iv aCursor.row, iv aCursor.col, bv aVisible, iv aShape, sv aTitle] 55] #[true, true, true, true, true, true, true, true, false, false, false] rfl rfl rfl (by kernel_rfl) (by kernel_rfl) (by kernel_rfl) (tri_callP (L2 := [bx b9 [iv rdamageOver.1, .slice (va r4.q) rdamageOver.2.1.length r4.k, iv rdamageOver.2.2.1, iv rdamageOver.2.2.2.1, bv rdamageOver.2.2.2.2.1, iv rdamageOver.2.2.2.2.2.1, sv rdamageOver.2.2.2.2.2.2.1] 55, bx b2 [iv bCols, .slice bRowsq bRows.length bRowsk, iv bCursor.row, iv bCursor.col, bv bVisible, iv bShape, sv bTitle] 55, bx b1 [iv aCols, .slice aRowsq aRows.length aRowsk, iv aCursor.row, iv aCursor.col, bv aVisible, iv aShape, sv aTitle] 55]) (ref24_Over_c aCols aRows aCursor aVisible aShape aTitle bCols bRows bCursor bVisible bShape bTitle (x.take ((if (100 : Int) < (x.length : Int) then (100 : Int) else (x.length : Int)).toNat)) aRowsq aRowsrs aRowsk bRowsq bRowsrs bRowsk xq xk hrowsaRowsrs (by first | omega | (simp only [List.length_take, List.length_drop, List.length_append, List.length_cons, List.length_nil, List.length_set, List.length_map]; omega) | decide) (by first | omega | (simp only [List.length_take, List.length_drop, List.length_append, List.length_cons, List.length_nil, List.length_set, List.length_map]; omega) | decide) hrowsbRowsrs (by first | omega | (simp only [List.length_take, List.length_drop, List.length_append, List.length_cons, List.length_nil, List.length_set, List.length_map]; omega) | decide) (by first | omega | (simp only [List.length_take, List.length_drop, List.length_append, List.length_cons, List.length_nil, List.length_set, List.length_map]; omega) | decide) (by first | omega | (simp only [List.length_take, List.length_drop, List.length_append, List.length_cons, List.length_nil, List.length_set, List.length_map]; omega) | decide) (by first | omega | (simp only [List.length_take, List.length_drop, List.length_append, List.length_cons, List.length_nil, List.length_set, List.length_map]; omega) | decide) (by first | omega | exact hz0) (by exact hra0) (by exact hrb0) rref24Over hrref24Over) rfl rfl rfl rfl rfl (Foll.pick [3, 4, 5, 6, 2] rfl) (List.Perm.refl _) (fun ⟨⟨r23, rs24⟩, hp27⟩ => (bx b9 [iv rdamageOver.1, .slice (va r4.q) rdamageOver.2.1.length r4.k, iv rdamageOver.2.2.1, iv rdamageOver.2.2.2.1, bv rdamageOver.2.2.2.2.1, iv rdamageOver.2.2.2.2.2.1, sv rdamageOver.2.2.2.2.2.2.1] 55 :: bx b2 [iv bCols, .slice bRowsq bRows.length bRowsk, iv bCursor.row, iv bCursor.col, bv bVisible, iv bShape, sv bTitle] 55 :: bx b1 [iv aCols, .slice aRowsq aRows.length aRowsk, iv aCursor.row, iv aCursor.col, bv aVisible, iv aShape, sv aTitle] 55 :: (vo cSlc 74 r23 rs24) ++ ([]))) (fun ⟨⟨r23, rs24⟩, hp27⟩ => permC [vo cSlc 74 r23 rs24, [bx b9 [iv rdamageOver.1, .slice (va r4.q) rdamageOver.2.1.length r4.k, iv rdamageOver.2.2.1, iv rdamageOver.2.2.2.1, bv rdamageOver.2.2.2.2.1, iv rdamageOver.2.2.2.2.2.1, sv rdamageOver.2.2.2.2.2.2.1] 55], [bx b2 [iv bCols, .slice bRowsq bRows.length bRowsk, iv bCursor.row, iv bCursor.col, bv bVisible, iv bShape, sv bTitle] 55], [bx b1 [iv aCols, .slice aRowsq aRows.length aRowsk, iv aCursor.row, iv aCursor.col, bv aVisible, iv aShape, sv aTitle] 55]] [1, 2, 3, 0] 4 rfl (by decide) (by first | rfl | simp only [List.flatten_cons, List.flatten_nil, List.append_nil, List.cons_append, List.nil_append, List.append_assoc]) [[bx b9 [iv rdamageOver.1, .slice (va r4.q) rdamageOver.2.1.length r4.k, iv rdamageOver.2.2.1, iv rdamageOver.2.2.2.1, bv rdamageOver.2.2.2.2.1, iv rdamageOver.2.2.2.2.2.1, sv rdamageOver.2.2.2.2.2.2.1] 55], [bx b2 [iv bCols, .slice bRowsq bRows.length bRowsk, iv bCursor.row, iv bCursor.col, bv bVisible, iv bShape, sv bTitle] 55], [bx b1 [iv aCols, .slice aRowsq aRows.length aRowsk, iv aCursor.row, iv aCursor.col, bv aVisible, iv aShape, sv aTitle] 55], vo cSlc 74 r23 rs24] rfl (by first | rfl | simp only [List.flatten_cons, List.flatten_nil, List.append_nil, List.cons_append, List.nil_append, List.append_assoc]))) (fun ⟨⟨r23, rs24⟩, hp27⟩ => (mc [[bx b9 [iv rdamageOver.1, .slice (va r4.q) rdamageOver.2.1.length r4.k, iv rdamageOver.2.2.1, iv rdamageOver.2.2.2.1, bv rdamageOver.2.2.2.2.1, iv rdamageOver.2.2.2.2.2.1, sv rdamageOver.2.2.2.2.2.2.1] 55], [bx b2 [iv bCols, .slice bRowsq bRows.length bRowsk, iv bCursor.row, iv bCursor.col, bv bVisible, iv bShape, sv bTitle] 55], [bx b1 [iv aCols, .slice aRowsq aRows.length aRowsk, iv aCursor.row, iv aCursor.col, bv aVisible, iv aShape, sv aTitle] 55], vo cSlc 74 r23 rs24] [true, true, true, false] rfl (by first | rfl | (simp only [List.length_set] <;> rfl)))) (fun ⟨⟨r23, rs24⟩, hp27⟩ => (Foll.pick [1, 2, 3, 4, 5, 6, 7, 8, 9, 10] rfl)) fun ⟨⟨r23, rs24⟩, hp27⟩ => ?_
            obtain ⟨hk25, hw26⟩ := hp27
            have := VOk.le hk25
            have := VOk.cap hk25
            have := hw26.1
            have := VOk.cap hk25
            have := VOk.le hk25
            refine JH_seal [bx b9 [iv rdamageOver.1, .slice (va r4.q) rdamageOver.2.1.length r4.k, iv rdamageOver.2.2.1, iv rdamageOver.2.2.2.1, bv rdamageOver.2.2.2.2.1, iv rdamageOver.2.2.2.2.2.1, sv rdamageOver.2.2.2.2.2.2.1] 55, bx b2 [iv bCols, .slice bRowsq bRows.length bRowsk, iv bCursor.row, iv bCursor.col, bv bVisible, iv bShape, sv bTitle] 55, bx b1 [iv aCols, .slice aRowsq aRows.length aRowsk, iv aCursor.row, iv aCursor.col, bv aVisible, iv aShape, sv aTitle] 55] [] (T := 74) (c := cSlc) (r := r23) (xs := rs24) (VOk.cast hk25 (by rw [hw26.1])) (by first | rfl | simp only [List.cons_append, List.append_assoc, List.nil_append, List.append_nil]) [bx b9 [iv rdamageOver.1, .slice (va r4.q) rdamageOver.2.1.length r4.k, iv rdamageOver.2.2.1, iv rdamageOver.2.2.2.1, bv rdamageOver.2.2.2.2.1, iv rdamageOver.2.2.2.2.2.1, sv rdamageOver.2.2.2.2.2.2.1] 55, bx b2 [iv bCols, .slice bRowsq bRows.length bRowsk, iv bCursor.row, iv bCursor.col, bv bVisible, iv bShape, sv bTitle] 55, bx b1 [iv aCols, .slice aRowsq aRows.length aRowsk, iv aCursor.row, iv aCursor.col, bv aVisible, iv aShape, sv aTitle] 55] rfl (mk [true, true, true] rfl) ?_
            refine hone 8 [bx b9 [iv rdamageOver.1, .slice (va r4.q) rdamageOver.2.1.length r4.k, iv rdamageOver.2.2.1, iv rdamageOver.2.2.2.1, bv rdamageOver.2.2.2.2.1, iv rdamageOver.2.2.2.2.2.1, sv rdamageOver.2.2.2.2.2.2.1] 55, bx b2 [iv bCols, .slice bRowsq bRows.length bRowsk, iv bCursor.row, iv bCursor.col, bv bVisible, iv bShape, sv bTitle] 55, bx b1 [iv aCols, .slice aRowsq aRows.length aRowsk, iv aCursor.row, iv aCursor.col, bv aVisible, iv aShape, sv aTitle] 55] #[true, true, true, true, true, true, true, true, true, false, false] rfl rfl rfl (by kernel_rfl) (by kernel_rfl) (by kernel_rfl) (Det.tri (det_call (ref23_Same_c rdamageOver.1 rdamageOver.2.1 (⟨rdamageOver.2.2.1, rdamageOver.2.2.2.1⟩ : Plc) rdamageOver.2.2.2.2.1 rdamageOver.2.2.2.2.2.1 rdamageOver.2.2.2.2.2.2.1 rref24Over.1 rref24Over.2.1 (⟨rref24Over.2.2.1, rref24Over.2.2.2.1⟩ : Plc) rref24Over.2.2.2.2.1 rref24Over.2.2.2.2.2.1 rref24Over.2.2.2.2.2.2 (va r4.q) rs5 r4.k (va r23.q) rs24 r23.k hw7 (by first | omega | (simp only [List.length_take, List.length_drop, List.length_append, List.length_cons, List.length_nil, List.length_set, List.length_map]; omega) | decide) (by first | omega | (simp only [List.length_take, List.length_drop, List.length_append, List.length_cons, List.length_nil, List.length_set, List.length_map]; omega) | decide) hw26 (by first | omega | (simp only [List.length_take, List.length_drop, List.length_append, List.length_cons, List.length_nil, List.length_set, List.length_map]; omega) | decide) (by first | omega | (simp only [List.length_take, List.length_drop, List.length_append, List.length_cons, List.length_nil, List.length_set, List.length_map]; omega) | decide) _ rfl) rfl rfl rfl rfl rfl (Foll.pick [2, 3, 0, 1] rfl))) (fun _ => (mk [true, true, true] rfl)) (fun _ => (Foll.pick [2, 3, 4, 5, 6, 7, 8, 9, 10, 11] rfl)) fun _ => ?_
            refine hpur [9, 10] 0 #[true, true, true, true, true, true, true, true, true, true, true] [(6, bv (ref23_Same rdamageOver.1 rdamageOver.2.1 (⟨rdamageOver.2.2.1, rdamageOver.2.2.2.1⟩ : Plc) rdamageOver.2.2.2.2.1 rdamageOver.2.2.2.2.2.1 rdamageOver.2.2.2.2.2.2.1 rref24Over.1 rref24Over.2.1 (⟨rref24Over.2.2.1, rref24Over.2.2.2.1⟩ : Plc) rref24Over.2.2.2.2.1 rref24Over.2.2.2.2.2.1 rref24Over.2.2.2.2.2.2))] (by kernel_rfl) ?_
            refine hend (by kernel_rfl) ?_
            refine J_ret ?_
            subst hR
            exact ends_ret rfl ⟨hr, hD⟩ (by simp [hD]) (res1 rfl (resV_tmp rfl)) () (by rfl) (mk [false, false, false] rfl) Foll.nil
          · have g22p : ¬ (rdamageOver.2.2.2.2.2.2.2 = 0) := by simpa using g22
            replace hR := bf hR g22
            refine hpur [3, 4, 5, 6, 7, 8, 9, 10] 0 #[true, true, true, true, true, true, true, true, true, true, true] [(6, bv false)] (by kernel_rfl) ?_
            refine hend (by kernel_rfl) ?_
            refine J_ret ?_
            subst hR
            exact ends_ret rfl ⟨hr, hD⟩ (by simp [hD]) (res1 rfl (resV_tmp rfl)) () (by rfl) (mk [false, false, false] rfl) Foll.nil

end Go.Proofs.YtlcaphkcfmlljaaGreatDoor

