import Derived.Test.YtlcaphkcfmlljaaGreatDoorD2
import Derived.Test.YtlcaphkcfmlljaaGreatDoorFenV
import Derived.Test.YtlcaphkcfmlljaaGreatDoorProg
import Derived.Test.YtlcaphkcfmlljaaGreatDoorT4a
import Derived.Test.YtlcaphkcfmlljaaGreatDoorT4b
import Derived.Test.YtlcaphkcfmlljaaGreatDoorT4c
import Derived.Test.YtlcaphkcfmlljaaGreatDoorT5
set_option linter.unusedVariables false
set_option linter.unusedSimpArgs false
set_option linter.unnecessarySimpa false
namespace Go.Proofs.YtlcaphkcfmlljaaGreatDoor
open Go Go.Fen
section
variable {P : Program} {n : Nat} {X : Cx} {K : Go.Act → World → Prop} {Q : Exit → Go.Act → World → Prop} {E : Env} {L L' : Go.Fen.Own} {Φ : List Pers}
theorem JI_perm {ops : Array Oper} {i m : Nat} (hp : L.Perm L') (h : JI P n X ops i m K Q E L' Φ) : JI P n X ops i m K Q E L Φ := fun a w hs => h a w ⟨hs.size, hs.defers, hs.has, hs.world.perm hp⟩
end

def ref24_Over_l20 (bRows : List (List Cel)) (r : Nat) (row : List Cel) (i : Nat) (ag_ref24_Over_l19 : List Cel → Nat → (Int × List (List Cel) × Int × Int × Bool × Int × List UInt8)) : List Sp3 → Nat → Cel → (Int × List (List Cel) × Int × Int × Bool × Int × List UInt8)
  | [], k, x => ag_ref24_Over_l19 (row ++ ([x] : List Cel)) (i + 1)
  | hd_l20 :: tl_l20, k, x => (bif (((decide (hd_l20.row = (r : Int))) && (decide (hd_l20.frm ≤ (i : Int)))) && (decide ((i : Int) < hd_l20.to))) then ref24_Over_l20 bRows r row i ag_ref24_Over_l19 tl_l20 (k + 1) ((bRows.getD r []).getD i Cel.zero) else ref24_Over_l20 bRows r row i ag_ref24_Over_l19 tl_l20 (k + 1) x)
def ref24_Over_l19 (aCols : Int) (aRows : List (List Cel)) (bRows : List (List Cel)) (l : List Sp3) (r : Nat) (outRows : List (List Cel)) (ag_ref24_Over_l15 : Nat → List (List Cel) → (Int × List (List Cel) × Int × Int × Bool × Int × List UInt8)) : Nat → List Cel → Nat → (Int × List (List Cel) × Int × Int × Bool × Int × List UInt8)
  | 0, _, _ => (0, [], 0, 0, false, 0, [])
  | fu1 + 1, row, i => (bif (decide ((i : Int) < aCols)) then ref24_Over_l20 bRows r row i (ref24_Over_l19 aCols aRows bRows l r outRows ag_ref24_Over_l15 fu1) l 0 ((aRows.getD r []).getD i Cel.zero) else ag_ref24_Over_l15 (r + 1) (outRows ++ ([row] : List (List Cel))))
def ref24_Over_l15 (aCols : Int) (aRows : List (List Cel)) (aCursor : Plc) (aVisible : Bool) (aShape : Int) (aTitle : List UInt8) (bRows : List (List Cel)) (l : List Sp3) : List (List Cel) → Nat → List (List Cel) → (Int × List (List Cel) × Int × Int × Bool × Int × List UInt8)
  | [], r, outRows => (aCols, outRows, aCursor.row, aCursor.col, aVisible, aShape, aTitle)
  | hd_l15 :: tl_l15, r, outRows => ref24_Over_l19 aCols aRows bRows l r outRows (ref24_Over_l15 aCols aRows aCursor aVisible aShape aTitle bRows l tl_l15) ((aCols - (0 : Int)).toNat + 1) ([] : List Cel) 0
def ref24_Over (aCols : Int) (aRows : List (List Cel)) (aCursor : Plc) (aVisible : Bool) (aShape : Int) (aTitle : List UInt8) (bCols : Int) (bRows : List (List Cel)) (bCursor : Plc) (bVisible : Bool) (bShape : Int) (bTitle : List UInt8) (l : List Sp3) : Int × List (List Cel) × Int × Int × Bool × Int × List UInt8 :=
  ref24_Over_l15 aCols aRows aCursor aVisible aShape aTitle bRows l aRows 0 ([] : List (List Cel))

set_option maxRecDepth 100000 in
theorem ref24_Over_c (aCols : Int) (aRows : List (List Cel)) (aCursor : Plc) (aVisible : Bool) (aShape : Int) (aTitle : List UInt8) (bCols : Int) (bRows : List (List Cel)) (bCursor : Plc) (bVisible : Bool) (bShape : Int) (bTitle : List UInt8) (l : List Sp3) (aRowsq : Option Addr) (aRowsrs : List Slc) (aRowsk : Nat) (bRowsq : Option Addr) (bRowsrs : List Slc) (bRowsk : Nat) (lq : Option Addr) (lk : Nat) (hrowsaRowsrs : RowsOk aRowsrs aRows) (hlaRows : aRows.length ≤ 9223372036854775807) (hcaRows : aRows.length ≤ aRowsk) (hrowsbRowsrs : RowsOk bRowsrs bRows) (hlbRows : bRows.length ≤ 9223372036854775807) (hcbRows : bRows.length ≤ bRowsk) (hll : l.length ≤ 9223372036854775807) (hcl : l.length ≤ lk) (hz : aRows.length ≤ 40 ∧ aRows.length = bRows.length ∧ 0 ≤ aCols ∧ aCols ≤ 80) (hra : ∀ i, i < aRows.length → ((aRows.getD i []).length : Int) = aCols) (hrb : ∀ i, i < bRows.length → ((bRows.getD i []).length : Int) = aCols) (R : Int × List (List Cel) × Int × Int × Bool × Int × List UInt8) (hR : ref24_Over aCols aRows aCursor aVisible aShape aTitle bCols bRows bCursor bVisible bShape bTitle l = R) : Con Tryz.prog 40 [ag [iv aCols, .slice aRowsq aRows.length aRowsk, iv aCursor.row, iv aCursor.col, bv aVisible, iv aShape, sv aTitle], ag [iv bCols, .slice bRowsq bRows.length bRowsk, iv bCursor.row, iv bCursor.col, bv bVisible, iv bShape, sv bTitle], .slice lq l.length lk] [] [sl cSlc aRowsq aRowsrs, rowsF cCel aRowsrs aRows, sl cSlc bRowsq bRowsrs, rowsF cCel bRowsrs bRows, sl cSp3 lq l] ({t : VR × List Slc // VOk 1 R.2.1.length t.1 ∧ RowsOk t.2 R.2.1}) (fun x => ag [iv R.1, .slice (va x.1.1.q) R.2.1.length x.1.1.k, iv R.2.2.1, iv R.2.2.2.1, bv R.2.2.2.2.1, iv R.2.2.2.2.2.1, sv R.2.2.2.2.2.2]) (fun x => ((vo cSlc 74 x.1.1 x.1.2) ++ ([]))) (fun x => [rowsF cCel x.1.2 R.2.1]) := by
  refine con_of_J (n := 86) Tryz.func40 rfl (by kernel_rfl) rfl rfl [(0, ag [iv aCols, .slice aRowsq aRows.length aRowsk, iv aCursor.row, iv aCursor.col, bv aVisible, iv aShape, sv aTitle]), (1, ag [iv bCols, .slice bRowsq bRows.length bRowsk, iv bCursor.row, iv bCursor.col, bv bVisible, iv bShape, sv bTitle]), (2, .slice lq l.length lk)] ⟨rfl, rfl, rfl, trivial⟩ fun X hX hr hD => ?_
  replace hR := (ref24_Over.eq_1 ..).symm.trans hR
  have := hrowsaRowsrs.1
  have := hrowsbRowsrs.1
  refine sr 3 rfl ?_
  refine it rfl (tri_box (cs := [iv aCols, .slice aRowsq aRows.length aRowsk, iv aCursor.row, iv aCursor.col, bv aVisible, iv aShape, sv aTitle]) rfl rfl rfl) fun b1 => ?_
  refine it rfl (tri_box (cs := [iv bCols, .slice bRowsq bRows.length bRowsk, iv bCursor.row, iv bCursor.col, bv bVisible, iv bShape, sv bTitle]) rfl rfl rfl) fun b2 => ?_
  refine it rfl (tri_alloc (cs := [iv 0, .slice none 0 0, iv 0, iv 0, bv false, iv 0, sv ([] : List UInt8)]) zero55 rfl) fun b3 => ?_
  refine ie ?_
  refine sr 3 rfl ?_
  refine ix rfl (det_own_agg (us := [iv aCols, .slice aRowsq aRows.length aRowsk, iv aCursor.row, iv aCursor.col, bv aVisible, iv aShape, sv aTitle]) ty55 rfl rfl 2 rfl rfl rfl) ?_
  refine it rfl (tri_alloc (cs := [iv 0, .slice none 0 0, iv 0, iv 0, bv false, iv 0, sv ([] : List UInt8)]) zero55 rfl) fun b4 => ?_
  refine it rfl (tri_store (us := [iv aCols, .slice aRowsq aRows.length aRowsk, iv aCursor.row, iv aCursor.col, bv aVisible, iv aShape, sv aTitle]) (cs' := [iv aCols, .slice aRowsq aRows.length aRowsk, iv aCursor.row, iv aCursor.col, bv aVisible, iv aShape, sv aTitle]) ty55 rfl rfl rfl 0 rfl rfl rfl rfl rfl rfl) fun _ => ?_
  refine ie ?_
  refine sr 2 rfl ?_
  refine ip 1 1 [(14, pt b4 1)] (by kernel_rfl) ?_
  refine it rfl (tri_store (us := [.slice none 0 0]) (cs' := [iv aCols, .slice none 0 0, iv aCursor.row, iv aCursor.col, bv aVisible, iv aShape, sv aTitle]) ty51 rfl rfl rfl 0 rfl rfl rfl rfl rfl rfl) fun _ => ?_
  refine ie ?_
  refine J_seq ?_
  refine sr 1 rfl ?_
  refine ip 1 0 [(8, iv 0)] (by kernel_rfl) ?_
  refine ie ?_
  refine J_block ?_
  refine JQ_perm (permC [vo cSlc 74 VR.nil ([] : List Slc), [bx b4 [iv aCols, .slice none 0 0, iv aCursor.row, iv aCursor.col, bv aVisible, iv aShape, sv aTitle] 55], [bx b3 [iv 0, .slice none 0 0, iv 0, iv 0, bv false, iv 0, sv ([] : List UInt8)] 55], [bx b2 [iv bCols, .slice bRowsq bRows.length bRowsk, iv bCursor.row, iv bCursor.col, bv bVisible, iv bShape, sv bTitle] 55], [bx b1 [iv aCols, .slice aRowsq aRows.length aRowsk, iv aCursor.row, iv aCursor.col, bv aVisible, iv aShape, sv aTitle] 55]] [1, 2, 3, 4, 0] 5 rfl (by decide) rfl [[bx b4 [iv aCols, .slice none 0 0, iv aCursor.row, iv aCursor.col, bv aVisible, iv aShape, sv aTitle] 55], [bx b3 [iv 0, .slice none 0 0, iv 0, iv 0, bv false, iv 0, sv ([] : List UInt8)] 55], [bx b2 [iv bCols, .slice bRowsq bRows.length bRowsk, iv bCursor.row, iv bCursor.col, bv bVisible, iv bShape, sv bTitle] 55], [bx b1 [iv aCols, .slice aRowsq aRows.length aRowsk, iv aCursor.row, iv aCursor.col, bv aVisible, iv aShape, sv aTitle] 55], vo cSlc 74 VR.nil ([] : List Slc)] rfl (by first | rfl | simp)) ?_
  refine JL4 (fun (r : Nat) (outRows : List (List Cel)) (outRowsr : VR) (outRowsrs : List Slc) => r ≤ aRows.length ∧ ref24_Over_l15 aCols aRows aCursor aVisible aShape aTitle bRows l (aRows.drop r) r outRows = R ∧ VOk 1 outRows.length outRowsr ∧ RowsOk outRowsrs outRows ∧ outRows.length ≤ r) (fun (r : Nat) (outRows : List (List Cel)) (outRowsr : VR) (outRowsrs : List Slc) => [(2, .slice lq l.length lk), (3, pt b1 0), (4, pt b2 0), (6, pt b3 0), (7, pt b4 0), (8, iv (r : Int))]) (fun (r : Nat) (outRows : List (List Cel)) (outRowsr : VR) (outRowsrs : List Slc) => (bx b4 [iv aCols, .slice (va outRowsr.q) outRows.length outRowsr.k, iv aCursor.row, iv aCursor.col, bv aVisible, iv aShape, sv aTitle] 55 :: bx b3 [iv 0, .slice none 0 0, iv 0, iv 0, bv false, iv 0, sv ([] : List UInt8)] 55 :: bx b2 [iv bCols, .slice bRowsq bRows.length bRowsk, iv bCursor.row, iv bCursor.col, bv bVisible, iv bShape, sv bTitle] 55 :: bx b1 [iv aCols, .slice aRowsq aRows.length aRowsk, iv aCursor.row, iv aCursor.col, bv aVisible, iv aShape, sv aTitle] 55 :: (vo cSlc 74 outRowsr outRowsrs) ++ ([]))) (fun (r : Nat) (outRows : List (List Cel)) (outRowsr : VR) (outRowsrs : List Slc) => [sl cSlc aRowsq aRowsrs, rowsF cCel aRowsrs aRows, sl cSlc bRowsq bRowsrs, rowsF cCel bRowsrs bRows, sl cSp3 lq l, rowsF cCel outRowsrs outRows]) (fun (r : Nat) (outRows : List (List Cel)) (outRowsr : VR) (outRowsrs : List Slc) => aRows.length - r) 0 ([] : List (List Cel)) VR.nil ([] : List Slc) ⟨(by omega), hR, VOk.nil, RowsOk.none, (by simp)⟩ ⟨rfl, rfl, rfl, rfl, rfl, (by first | rfl | (simp only [List.length_set, List.length_append, List.length_cons, List.length_nil]; rfl) | simp | (simp; omega)), trivial⟩ (mc [[bx b4 [iv aCols, .slice none 0 0, iv aCursor.row, iv aCursor.col, bv aVisible, iv aShape, sv aTitle] 55], [bx b3 [iv 0, .slice none 0 0, iv 0, iv 0, bv false, iv 0, sv ([] : List UInt8)] 55], [bx b2 [iv bCols, .slice bRowsq bRows.length bRowsk, iv bCursor.row, iv bCursor.col, bv bVisible, iv bShape, sv bTitle] 55], [bx b1 [iv aCols, .slice aRowsq aRows.length aRowsk, iv aCursor.row, iv aCursor.col, bv aVisible, iv aShape, sv aTitle] 55], vo cSlc 74 VR.nil ([] : List Slc)] [true, true, true, true, true] rfl (by first | rfl | (simp only [List.length_set] <;> rfl))) (Foll.con1 (at_of 0 rfl) (Foll.con1 (at_of 1 rfl) (Foll.con1 (at_of 2 rfl) (Foll.con1 (at_of 3 rfl) (Foll.con1 (at_of 4 rfl) (Foll.con1 rows_none Foll.nil)))))) ?_
  rintro r outRows outRowsr outRowsrs ⟨hm5, hR, hokoutRowsr, hrowsoutRowsrs, hor⟩
  have := VOk.le hokoutRowsr
  have := hrowsoutRowsrs.1
  have hf1 := hra r
  have hf2 := hrb r
  refine J_seq ?_
  refine sr 5 rfl ?_
  refine ip 2 3 [(15, iv (r : Int)), (16, pt b1 1)] (by kernel_rfl) ?_
  refine ix rfl (det_own_one (v := .slice aRowsq aRows.length aRowsk) ty51 rfl rfl 3 rfl rfl) ?_
  refine ip 2 0 [(19, bv (decide ((r : Int) < (aRows.length : Int))))] (by kernel_rfl) ?_
  refine ie ?_
  refine J_if rfl (fun h6 => ?_) (fun h6 => ?_)
  · have h6p : (r : Int) < (aRows.length : Int) := by simpa using h6
    rw [dropc [] (show r < aRows.length by omega)] at hR; replace hR := (ref24_Over_l15.eq_2 ..).symm.trans hR
    refine J_skip ?_
    refine nx ?_
    refine J_seq ?_
    refine J_block ?_
    refine sr 1 rfl ?_
    refine ip 1 0 [(9, .slice none 0 0)] (by kernel_rfl) ?_
    refine ie ?_
    refine J_seq ?_
    refine sr 1 rfl ?_
    refine ip 1 0 [(10, iv 0)] (by kernel_rfl) ?_
    refine ie ?_
    refine J_block ?_
    refine JQ_perm (permC [vo cCel 79 VR.nil ([] : List Cel), [bx b4 [iv aCols, .slice (va outRowsr.q) outRows.length outRowsr.k, iv aCursor.row, iv aCursor.col, bv aVisible, iv aShape, sv aTitle] 55], [bx b3 [iv 0, .slice none 0 0, iv 0, iv 0, bv false, iv 0, sv ([] : List UInt8)] 55], [bx b2 [iv bCols, .slice bRowsq bRows.length bRowsk, iv bCursor.row, iv bCursor.col, bv bVisible, iv bShape, sv bTitle] 55], [bx b1 [iv aCols, .slice aRowsq aRows.length aRowsk, iv aCursor.row, iv aCursor.col, bv aVisible, iv aShape, sv aTitle] 55], vo cSlc 74 outRowsr outRowsrs] [1, 2, 3, 4, 5, 0] 6 rfl (by decide) rfl [[bx b4 [iv aCols, .slice (va outRowsr.q) outRows.length outRowsr.k, iv aCursor.row, iv aCursor.col, bv aVisible, iv aShape, sv aTitle] 55], [bx b3 [iv 0, .slice none 0 0, iv 0, iv 0, bv false, iv 0, sv ([] : List UInt8)] 55], [bx b2 [iv bCols, .slice bRowsq bRows.length bRowsk, iv bCursor.row, iv bCursor.col, bv bVisible, iv bShape, sv bTitle] 55], [bx b1 [iv aCols, .slice aRowsq aRows.length aRowsk, iv aCursor.row, iv aCursor.col, bv aVisible, iv aShape, sv aTitle] 55], vo cSlc 74 outRowsr outRowsrs, vo cCel 79 VR.nil ([] : List Cel)] rfl (by first | rfl | simp)) ?_
    refine JL4 (fun (fu : Nat) (row : List Cel) (rowr : VR) (i : Nat) => (aCols - (i : Int)).toNat < fu ∧ ref24_Over_l19 aCols aRows bRows l r outRows (ref24_Over_l15 aCols aRows aCursor aVisible aShape aTitle bRows l (aRows.drop (r + 1))) fu row i = R ∧ VOk 12 row.length rowr ∧ row.length = i ∧ (i : Int) ≤ aCols) (fun (fu : Nat) (row : List Cel) (rowr : VR) (i : Nat) => [(2, .slice lq l.length lk), (3, pt b1 0), (4, pt b2 0), (6, pt b3 0), (7, pt b4 0), (8, iv (r : Int)), (9, .slice (va rowr.q) row.length rowr.k), (10, iv (i : Int))]) (fun (fu : Nat) (row : List Cel) (rowr : VR) (i : Nat) => (bx b4 [iv aCols, .slice (va outRowsr.q) outRows.length outRowsr.k, iv aCursor.row, iv aCursor.col, bv aVisible, iv aShape, sv aTitle] 55 :: bx b3 [iv 0, .slice none 0 0, iv 0, iv 0, bv false, iv 0, sv ([] : List UInt8)] 55 :: bx b2 [iv bCols, .slice bRowsq bRows.length bRowsk, iv bCursor.row, iv bCursor.col, bv bVisible, iv bShape, sv bTitle] 55 :: bx b1 [iv aCols, .slice aRowsq aRows.length aRowsk, iv aCursor.row, iv aCursor.col, bv aVisible, iv aShape, sv aTitle] 55 :: (vo cSlc 74 outRowsr outRowsrs) ++ ((vo cCel 79 rowr row) ++ ([])))) (fun (fu : Nat) (row : List Cel) (rowr : VR) (i : Nat) => [sl cSlc aRowsq aRowsrs, rowsF cCel aRowsrs aRows, sl cSlc bRowsq bRowsrs, rowsF cCel bRowsrs bRows, sl cSp3 lq l, rowsF cCel outRowsrs outRows]) (fun (fu : Nat) (row : List Cel) (rowr : VR) (i : Nat) => fu) ((aCols - (0 : Int)).toNat + 1) ([] : List Cel) VR.nil 0 ⟨(Nat.lt_succ_self _), hR, VOk.nil, (by simp), (by omega)⟩ ⟨rfl, rfl, rfl, rfl, rfl, rfl, (by first | rfl | (simp only [List.length_set, List.length_append, List.length_cons, List.length_nil]; rfl) | simp | (simp; omega)), (by first | rfl | (simp only [List.length_set, List.length_append, List.length_cons, List.length_nil]; rfl) | simp | (simp; omega)), trivial⟩ (mc [[bx b4 [iv aCols, .slice (va outRowsr.q) outRows.length outRowsr.k, iv aCursor.row, iv aCursor.col, bv aVisible, iv aShape, sv aTitle] 55], [bx b3 [iv 0, .slice none 0 0, iv 0, iv 0, bv false, iv 0, sv ([] : List UInt8)] 55], [bx b2 [iv bCols, .slice bRowsq bRows.length bRowsk, iv bCursor.row, iv bCursor.col, bv bVisible, iv bShape, sv bTitle] 55], [bx b1 [iv aCols, .slice aRowsq aRows.length aRowsk, iv aCursor.row, iv aCursor.col, bv aVisible, iv aShape, sv aTitle] 55], vo cSlc 74 outRowsr outRowsrs, vo cCel 79 VR.nil ([] : List Cel)] [true, true, true, true, true, true] rfl (by first | rfl | (simp only [List.length_set] <;> rfl))) Foll.refl ?_
    rintro fu row rowr i ⟨hm7, hR, hokrowr, hrw, hic⟩
    have := VOk.le hokrowr
    obtain ⟨fu1, rfl⟩ : ∃ m, fu = m + 1 := ⟨fu - 1, by omega⟩
    replace hR := (ref24_Over_l19.eq_2 ..).symm.trans hR
    refine J_seq ?_
    refine sr 4 rfl ?_
    refine ip 2 2 [(22, iv (i : Int)), (23, pt b1 0)] (by kernel_rfl) ?_
    refine ix rfl (det_own_one (v := iv aCols) ty3 rfl rfl 3 rfl rfl) ?_
    refine ip 1 0 [(25, bv (decide ((i : Int) < aCols)))] (by kernel_rfl) ?_
    refine ie ?_
    refine J_if rfl (fun h8 => ?_) (fun h8 => ?_)
    · have h8p : (i : Int) < aCols := by simpa using h8
      replace hR := bt hR h8
      refine J_skip ?_
      refine nx ?_
      refine J_seq ?_
      refine J_block ?_
      refine sr 10 rfl ?_
      refine ip 1 9 [(28, pt b1 1)] (by kernel_rfl) ?_
      refine ix rfl (det_own_one (v := .slice aRowsq aRows.length aRowsk) ty51 rfl rfl 3 rfl rfl) ?_
      refine ip 1 7 [(30, iv (r : Int))] (by kernel_rfl) ?_
      refine JI_base 0 rfl (by omega) fun a9 hq10 => ?_
      refine JI_fact1 (rows_atD (k := r) (d := (⟨none, 0, 0⟩ : Slc)) hrowsaRowsrs 1 rfl (by have := hrowsaRowsrs.1; omega)) ?_
      have := rows_cap hrowsaRowsrs (k := r) (d := (⟨none, 0, 0⟩ : Slc)) (by have := hrowsaRowsrs.1; omega)
      refine ix rfl (det_ixq slt51 rfl rfl hq10 rfl r rfl (by omega)) ?_
      refine ix rfl (det_conv (det_ld_one (v := .slice ((aRowsrs.getD r (⟨none, 0, 0⟩ : Slc)).q) ((aRowsrs.getD r (⟨none, 0, 0⟩ : Slc)).n) ((aRowsrs.getD r (⟨none, 0, 0⟩ : Slc)).k)) (us := [.slice ((aRowsrs.getD r (⟨none, 0, 0⟩ : Slc)).q) ((aRowsrs.getD r (⟨none, 0, 0⟩ : Slc)).n) ((aRowsrs.getD r (⟨none, 0, 0⟩ : Slc)).k)]) ty74 rfl rfl (at_slq (c := cSlc) (sz := 1) hq10 (fun _ => rfl) 1 rfl (gd (⟨none, 0, 0⟩ : Slc) (by have := hrowsaRowsrs.1; omega))) rfl) (rows_val hrowsaRowsrs (by have := hrowsaRowsrs.1; omega))) ?_
      refine ip 1 4 [(33, iv (i : Int))] (by kernel_rfl) ?_
      refine JI_base 0 rfl (by omega) fun a11 hq12 => ?_
      refine ix rfl (det_ixq slt74 rfl rfl hq12 rfl i rfl (by omega)) ?_
      refine ix rfl (det_ld_agg (us := cCel ((aRows.getD r []).getD i Cel.zero)) ty79 rfl rfl (at_slq (c := cCel) (sz := 12) hq12 (fun _ => rfl) 0 rfl (gd Cel.zero (by omega))) rfl) ?_
      refine it rfl (tri_alloc (cs := cCel Cel.zero) zero79 rfl) fun b13 => ?_
      refine it rfl (tri_store (us := cCel ((aRows.getD r []).getD i Cel.zero)) (cs' := cCel ((aRows.getD r []).getD i Cel.zero)) ty79 rfl rfl rfl 0 rfl rfl rfl rfl rfl rfl) fun _ => ?_
      refine ie ?_
      refine J_seq ?_
      refine sr 1 rfl ?_
      refine ip 1 0 [(12, iv 0)] (by kernel_rfl) ?_
      refine ie ?_
      refine J_block ?_
      refine JL2 (fun (k : Nat) (x : Cel) => k ≤ l.length ∧ ref24_Over_l20 bRows r row i (ref24_Over_l19 aCols aRows bRows l r outRows (ref24_Over_l15 aCols aRows aCursor aVisible aShape aTitle bRows l (aRows.drop (r + 1))) fu1) (l.drop k) k x = R) (fun (k : Nat) (x : Cel) => [(2, .slice lq l.length lk), (3, pt b1 0), (4, pt b2 0), (6, pt b3 0), (7, pt b4 0), (8, iv (r : Int)), (9, .slice (va rowr.q) row.length rowr.k), (10, iv (i : Int)), (11, pt b13 0), (12, iv (k : Int))]) (fun (k : Nat) (x : Cel) => (bx b13 (cCel x) 79 :: bx b4 [iv aCols, .slice (va outRowsr.q) outRows.length outRowsr.k, iv aCursor.row, iv aCursor.col, bv aVisible, iv aShape, sv aTitle] 55 :: bx b3 [iv 0, .slice none 0 0, iv 0, iv 0, bv false, iv 0, sv ([] : List UInt8)] 55 :: bx b2 [iv bCols, .slice bRowsq bRows.length bRowsk, iv bCursor.row, iv bCursor.col, bv bVisible, iv bShape, sv bTitle] 55 :: bx b1 [iv aCols, .slice aRowsq aRows.length aRowsk, iv aCursor.row, iv aCursor.col, bv aVisible, iv aShape, sv aTitle] 55 :: (vo cSlc 74 outRowsr outRowsrs) ++ ((vo cCel 79 rowr row) ++ ([])))) (fun (k : Nat) (x : Cel) => [sl cCel ((aRowsrs.getD r (⟨none, 0, 0⟩ : Slc)).q) (aRows.getD r []), sl cSlc aRowsq aRowsrs, rowsF cCel aRowsrs aRows, sl cSlc bRowsq bRowsrs, rowsF cCel bRowsrs bRows, sl cSp3 lq l, rowsF cCel outRowsrs outRows]) (fun (k : Nat) (x : Cel) => l.length - k) 0 ((aRows.getD r []).getD i Cel.zero) ⟨(by omega), hR⟩ ⟨rfl, rfl, rfl, rfl, rfl, rfl, rfl, rfl, rfl, (by first | rfl | (simp only [List.length_set, List.length_append, List.length_cons, List.length_nil]; rfl) | simp | (simp; omega)), trivial⟩ (mc [[bx b13 (cCel ((aRows.getD r []).getD i Cel.zero)) 79], [bx b4 [iv aCols, .slice (va outRowsr.q) outRows.length outRowsr.k, iv aCursor.row, iv aCursor.col, bv aVisible, iv aShape, sv aTitle] 55], [bx b3 [iv 0, .slice none 0 0, iv 0, iv 0, bv false, iv 0, sv ([] : List UInt8)] 55], [bx b2 [iv bCols, .slice bRowsq bRows.length bRowsk, iv bCursor.row, iv bCursor.col, bv bVisible, iv bShape, sv bTitle] 55], [bx b1 [iv aCols, .slice aRowsq aRows.length aRowsk, iv aCursor.row, iv aCursor.col, bv aVisible, iv aShape, sv aTitle] 55], vo cSlc 74 outRowsr outRowsrs, vo cCel 79 rowr row] [true, true, true, true, true, true, true] rfl (by first | rfl | (simp only [List.length_set] <;> rfl))) Foll.refl ?_
      rintro k x ⟨hm14, hR⟩
      refine J_seq ?_
      refine sr 4 rfl ?_
      refine ip 4 0 [(39, bv (decide ((k : Int) < (l.length : Int))))] (by kernel_rfl) ?_
      refine ie ?_
      refine J_if rfl (fun h15 => ?_) (fun h15 => ?_)
      · have h15p : (k : Int) < (l.length : Int) := by simpa using h15
        rw [dropc Sp3.zero (show k < l.length by omega)] at hR; replace hR := (ref24_Over_l20.eq_2 ..).symm.trans hR
        refine J_skip ?_
        refine nx ?_
        refine J_seq ?_
        refine J_block ?_
        refine sr 25 rfl ?_
        refine ip 2 23 [(42, .slice lq l.length lk), (43, iv (k : Int))] (by kernel_rfl) ?_
        refine JI_base 5 rfl (by omega) fun a16 hq17 => ?_
        refine ix rfl (det_ixq slt56 rfl rfl hq17 rfl k rfl (by omega)) ?_
        refine ip 1 21 [(45, pa (Addr.add a16 (k * 3)))] (by kernel_rfl) ?_
        refine ix rfl (det_ld_one (v := iv ((l.getD k Sp3.zero).row)) (us := [iv ((l.getD k Sp3.zero).row)]) ty3 rfl rfl (at_part0 (at_slq (c := cSp3) (sz := 3) hq17 (fun _ => rfl) 5 rfl (gd Sp3.zero (by omega))) (ws := [iv ((l.getD k Sp3.zero).row)]) 1 rfl) rfl) ?_
        refine ip 3 17 [(49, bv (decide ((l.getD k Sp3.zero).row = (r : Int))))] (by kernel_rfl) ?_
        refine iand 8 9 49 57 (decide ((l.getD k Sp3.zero).frm ≤ (i : Int))) rfl (by kernel_rfl) (fun g18 => ?_) ?_
        · have g18p : (l.getD k Sp3.zero).row = (r : Int) := by simpa using g18
          refine ip 3 5 [(50, iv (i : Int)), (51, .slice lq l.length lk), (52, iv (k : Int))] (by kernel_rfl) ?_
          refine ix rfl (det_ixq slt56 rfl rfl hq17 rfl k rfl (by omega)) ?_
          refine ip 1 3 [(54, pa ((Addr.add a16 (k * 3)).add 1))] (by kernel_rfl) ?_
          refine ix rfl (det_ld_one (v := iv ((l.getD k Sp3.zero).frm)) (us := [iv ((l.getD k Sp3.zero).frm)]) ty3 rfl rfl (at_part (at_slq (c := cSp3) (sz := 3) hq17 (fun _ => rfl) 5 rfl (gd Sp3.zero (by omega))) (ws := [iv ((l.getD k Sp3.zero).frm)]) 1 1 rfl) rfl) ?_
          refine ip 2 0 [(57, bv (decide ((l.getD k Sp3.zero).frm ≤ (i : Int))))] (by kernel_rfl) ?_
          exact JI_end (armI 8 49 57 g18 Foll.refl (mc [[bx b13 (cCel x) 79], [bx b4 [iv aCols, .slice (va outRowsr.q) outRows.length outRowsr.k, iv aCursor.row, iv aCursor.col, bv aVisible, iv aShape, sv aTitle] 55], [bx b3 [iv 0, .slice none 0 0, iv 0, iv 0, bv false, iv 0, sv ([] : List UInt8)] 55], [bx b2 [iv bCols, .slice bRowsq bRows.length bRowsk, iv bCursor.row, iv bCursor.col, bv bVisible, iv bShape, sv bTitle] 55], [bx b1 [iv aCols, .slice aRowsq aRows.length aRowsk, iv aCursor.row, iv aCursor.col, bv aVisible, iv aShape, sv aTitle] 55], vo cSlc 74 outRowsr outRowsrs, vo cCel 79 rowr row] [true, true, true, true, true, true, true] rfl (by first | rfl | (simp only [List.length_set] <;> rfl))) rfl rfl rfl rfl rfl)
        refine ip 1 8 [(58, bv ((decide ((l.getD k Sp3.zero).row = (r : Int))) && (decide ((l.getD k Sp3.zero).frm ≤ (i : Int)))))] (by kernel_rfl) ?_
        refine iand 8 0 58 66 (decide ((i : Int) < (l.getD k Sp3.zero).to)) rfl (by kernel_rfl) (fun g19 => ?_) ?_
        · have g19p : ((l.getD k Sp3.zero).row = (r : Int)) ∧ ((l.getD k Sp3.zero).frm ≤ (i : Int)) := by simpa using g19
          refine ip 3 5 [(59, iv (i : Int)), (60, .slice lq l.length lk), (61, iv (k : Int))] (by kernel_rfl) ?_
          refine ix rfl (det_ixq slt56 rfl rfl hq17 rfl k rfl (by omega)) ?_
          refine ip 1 3 [(63, pa ((Addr.add a16 (k * 3)).add 2))] (by kernel_rfl) ?_
          refine ix rfl (det_ld_one (v := iv ((l.getD k Sp3.zero).to)) (us := [iv ((l.getD k Sp3.zero).to)]) ty3 rfl rfl (at_part (at_slq (c := cSp3) (sz := 3) hq17 (fun _ => rfl) 5 rfl (gd Sp3.zero (by omega))) (ws := [iv ((l.getD k Sp3.zero).to)]) 2 1 rfl) rfl) ?_
          refine ip 2 0 [(66, bv (decide ((i : Int) < (l.getD k Sp3.zero).to)))] (by kernel_rfl) ?_
          exact JI_end (armI 8 58 66 g19 Foll.refl (mc [[bx b13 (cCel x) 79], [bx b4 [iv aCols, .slice (va outRowsr.q) outRows.length outRowsr.k, iv aCursor.row, iv aCursor.col, bv aVisible, iv aShape, sv aTitle] 55], [bx b3 [iv 0, .slice none 0 0, iv 0, iv 0, bv false, iv 0, sv ([] : List UInt8)] 55], [bx b2 [iv bCols, .slice bRowsq bRows.length bRowsk, iv bCursor.row, iv bCursor.col, bv bVisible, iv bShape, sv bTitle] 55], [bx b1 [iv aCols, .slice aRowsq aRows.length aRowsk, iv aCursor.row, iv aCursor.col, bv aVisible, iv aShape, sv aTitle] 55], vo cSlc 74 outRowsr outRowsrs, vo cCel 79 rowr row] [true, true, true, true, true, true, true] rfl (by first | rfl | (simp only [List.length_set] <;> rfl))) rfl rfl rfl rfl rfl)
        refine ie ?_
        refine J_if rfl (fun h20 => ?_) (fun h20 => ?_)
        · have h20p : (((l.getD k Sp3.zero).row = (r : Int)) ∧ ((l.getD k Sp3.zero).frm ≤ (i : Int))) ∧ ((i : Int) < (l.getD k Sp3.zero).to) := by simpa using h20
          replace hR := bt hR h20
          refine J_region 9 rfl ?_
          refine ip 1 8 [(67, pt b2 1)] (by kernel_rfl) ?_
          refine ix rfl (det_own_one (v := .slice bRowsq bRows.length bRowsk) ty51 rfl rfl 3 rfl rfl) ?_
          refine ip 1 6 [(69, iv (r : Int))] (by kernel_rfl) ?_
          refine JI_base 3 rfl (by omega) fun a21 hq22 => ?_
          refine JI_fact1 (rows_atD (k := r) (d := (⟨none, 0, 0⟩ : Slc)) hrowsbRowsrs 4 rfl (by have := hrowsbRowsrs.1; omega)) ?_
          have := rows_cap hrowsbRowsrs (k := r) (d := (⟨none, 0, 0⟩ : Slc)) (by have := hrowsbRowsrs.1; omega)
          refine ix rfl (det_ixq slt51 rfl rfl hq22 rfl r rfl (by omega)) ?_
          refine ix rfl (det_conv (det_ld_one (v := .slice ((bRowsrs.getD r (⟨none, 0, 0⟩ : Slc)).q) ((bRowsrs.getD r (⟨none, 0, 0⟩ : Slc)).n) ((bRowsrs.getD r (⟨none, 0, 0⟩ : Slc)).k)) (us := [.slice ((bRowsrs.getD r (⟨none, 0, 0⟩ : Slc)).q) ((bRowsrs.getD r (⟨none, 0, 0⟩ : Slc)).n) ((bRowsrs.getD r (⟨none, 0, 0⟩ : Slc)).k)]) ty74 rfl rfl (at_slq (c := cSlc) (sz := 1) hq22 (fun _ => rfl) 4 rfl (gd (⟨none, 0, 0⟩ : Slc) (by have := hrowsbRowsrs.1; omega))) rfl) (rows_val hrowsbRowsrs (by have := hrowsbRowsrs.1; omega))) ?_
          refine ip 1 3 [(72, iv (i : Int))] (by kernel_rfl) ?_
          refine JI_base 0 rfl (by omega) fun a23 hq24 => ?_
          refine ix rfl (det_ixq slt74 rfl rfl hq24 rfl i rfl (by omega)) ?_
          refine ix rfl (det_ld_agg (us := cCel ((bRows.getD r []).getD i Cel.zero)) ty79 rfl rfl (at_slq (c := cCel) (sz := 12) hq24 (fun _ => rfl) 0 rfl (gd Cel.zero (by omega))) rfl) ?_
          refine it rfl (tri_store (us := cCel ((bRows.getD r []).getD i Cel.zero)) (cs' := cCel ((bRows.getD r []).getD i Cel.zero)) ty79 rfl rfl rfl 0 rfl rfl rfl rfl rfl rfl) fun _ => ?_
          refine JI_end ?_
          refine nx ?_
          refine J_region 3 rfl ?_
          refine ip 1 2 [(40, iv (k : Int))] (by kernel_rfl) ?_
          refine ix rfl (det_add64 rfl rfl rfl rfl (by omega)) ?_
          refine ip 1 0 [(12, iv ((k : Int) + 1))] (by kernel_rfl) ?_
          refine JI_end ?_
          exact againL2 (z1 := k) (z2 := x) (k + 1) ((bRows.getD r []).getD i Cel.zero) ⟨(by omega), hR⟩ (by (try dsimp only); omega) ⟨rfl, rfl, rfl, rfl, rfl, rfl, rfl, rfl, rfl, (by first | rfl | (simp only [List.length_set, List.length_append, List.length_cons, List.length_nil]; rfl) | simp | (simp; omega)), trivial⟩ (mc [[bx b13 (cCel ((bRows.getD r []).getD i Cel.zero)) 79], [bx b4 [iv aCols, .slice (va outRowsr.q) outRows.length outRowsr.k, iv aCursor.row, iv aCursor.col, bv aVisible, iv aShape, sv aTitle] 55], [bx b3 [iv 0, .slice none 0 0, iv 0, iv 0, bv false, iv 0, sv ([] : List UInt8)] 55], [bx b2 [iv bCols, .slice bRowsq bRows.length bRowsk, iv bCursor.row, iv bCursor.col, bv bVisible, iv bShape, sv bTitle] 55], [bx b1 [iv aCols, .slice aRowsq aRows.length aRowsk, iv aCursor.row, iv aCursor.col, bv aVisible, iv aShape, sv aTitle] 55], vo cSlc 74 outRowsr outRowsrs, vo cCel 79 rowr row] [true, true, true, true, true, true, true] rfl (by first | rfl | (simp only [List.length_set] <;> rfl))) (Foll.pick [1, 2, 3, 4, 5, 6, 7] rfl)
        · have h20p : ¬ ((((l.getD k Sp3.zero).row = (r : Int)) ∧ ((l.getD k Sp3.zero).frm ≤ (i : Int))) ∧ ((i : Int) < (l.getD k Sp3.zero).to)) := by simpa using h20
          replace hR := bf hR h20
          refine J_skip ?_
          refine nx ?_
          refine J_region 3 rfl ?_
          refine ip 1 2 [(40, iv (k : Int))] (by kernel_rfl) ?_
          refine ix rfl (det_add64 rfl rfl rfl rfl (by omega)) ?_
          refine ip 1 0 [(12, iv ((k : Int) + 1))] (by kernel_rfl) ?_
          refine JI_end ?_
          exact againL2 (z1 := k) (z2 := x) (k + 1) x ⟨(by omega), hR⟩ (by (try dsimp only); omega) ⟨rfl, rfl, rfl, rfl, rfl, rfl, rfl, rfl, rfl, (by first | rfl | (simp only [List.length_set, List.length_append, List.length_cons, List.length_nil]; rfl) | simp | (simp; omega)), trivial⟩ (mc [[bx b13 (cCel x) 79], [bx b4 [iv aCols, .slice (va outRowsr.q) outRows.length outRowsr.k, iv aCursor.row, iv aCursor.col, bv aVisible, iv aShape, sv aTitle] 55], [bx b3 [iv 0, .slice none 0 0, iv 0, iv 0, bv false, iv 0, sv ([] : List UInt8)] 55], [bx b2 [iv bCols, .slice bRowsq bRows.length bRowsk, iv bCursor.row, iv bCursor.col, bv bVisible, iv bShape, sv bTitle] 55], [bx b1 [iv aCols, .slice aRowsq aRows.length aRowsk, iv aCursor.row, iv aCursor.col, bv aVisible, iv aShape, sv aTitle] 55], vo cSlc 74 outRowsr outRowsrs, vo cCel 79 rowr row] [true, true, true, true, true, true, true] rfl (by first | rfl | (simp only [List.length_set] <;> rfl))) Foll.refl
      · have h15p : ¬ ((k : Int) < (l.length : Int)) := by simpa using h15
        rw [dropn h15p] at hR; replace hR := (ref24_Over_l20.eq_1 ..).symm.trans hR
        refine J_exit ?_
        refine nx ?_
        refine J_region 5 rfl ?_
        refine ip 1 4 [(75, .slice (va rowr.q) row.length rowr.k)] (by kernel_rfl) ?_
        refine ix rfl (det_own_agg (us := cCel x) ty79 rfl rfl 0 rfl rfl rfl) ?_
        refine it rfl (tri_buildSl (c := cCel) (xs := ([x] : List Cel)) slt74 rfl rfl rfl (by kernel_rfl)) fun b25 => ?_
        have : ([x] : List Cel).length = 1 := rfl
        refine JI_perm (permC [[bx b13 (cCel x) 79], [bx b4 [iv aCols, .slice (va outRowsr.q) outRows.length outRowsr.k, iv aCursor.row, iv aCursor.col, bv aVisible, iv aShape, sv aTitle] 55], [bx b3 [iv 0, .slice none 0 0, iv 0, iv 0, bv false, iv 0, sv ([] : List UInt8)] 55], [bx b2 [iv bCols, .slice bRowsq bRows.length bRowsk, iv bCursor.row, iv bCursor.col, bv bVisible, iv bShape, sv bTitle] 55], [bx b1 [iv aCols, .slice aRowsq aRows.length aRowsk, iv aCursor.row, iv aCursor.col, bv aVisible, iv aShape, sv aTitle] 55], vo cSlc 74 outRowsr outRowsrs, vo cCel 79 rowr row] [0, 1, 2, 3, 4, 6, 5] 7 rfl (by decide) rfl [[bx b13 (cCel x) 79], [bx b4 [iv aCols, .slice (va outRowsr.q) outRows.length outRowsr.k, iv aCursor.row, iv aCursor.col, bv aVisible, iv aShape, sv aTitle] 55], [bx b3 [iv 0, .slice none 0 0, iv 0, iv 0, bv false, iv 0, sv ([] : List UInt8)] 55], [bx b2 [iv bCols, .slice bRowsq bRows.length bRowsk, iv bCursor.row, iv bCursor.col, bv bVisible, iv bShape, sv bTitle] 55], [bx b1 [iv aCols, .slice aRowsq aRows.length aRowsk, iv aCursor.row, iv aCursor.col, bv aVisible, iv aShape, sv aTitle] 55], vo cCel 79 rowr row, vo cSlc 74 outRowsr outRowsrs] rfl (by first | rfl | simp only [List.flatten_cons, List.flatten_nil, List.append_nil, List.cons_append, List.nil_append, List.append_assoc])) ?_
        refine it rfl (tri_app1 (f := cCel) (r := rowr) (xs := row) (ys := ([x] : List Cel)) (pre := [bx b13 (cCel x) 79, bx b4 [iv aCols, .slice (va outRowsr.q) outRows.length outRowsr.k, iv aCursor.row, iv aCursor.col, bv aVisible, iv aShape, sv aTitle] 55, bx b3 [iv 0, .slice none 0 0, iv 0, iv 0, bv false, iv 0, sv ([] : List UInt8)] 55, bx b2 [iv bCols, .slice bRowsq bRows.length bRowsk, iv bCursor.row, iv bCursor.col, bv bVisible, iv bShape, sv bTitle] 55, bx b1 [iv aCols, .slice aRowsq aRows.length aRowsk, iv aCursor.row, iv aCursor.col, bv aVisible, iv aShape, sv aTitle] 55]) (post := ((vo cSlc 74 outRowsr outRowsrs) ++ ([]))) apt74 (fun _ => rfl) (fun _ => rfl) rfl rfl rfl rfl rfl rfl rfl rfl rfl (at_of 0 rfl) hokrowr (by first | omega | (simp only [List.length_cons, List.length_nil, List.length_append, List.length_take, List.length_drop]; omega)) (by first | omega | (simp only [List.length_cons, List.length_nil, List.length_append, List.length_take, List.length_drop]; omega))) fun ⟨r26, hr27⟩ => ?_
        have := VOk.le hr27
        have := VOk.cap hr27
        refine JI_perm (permC [[bx b13 (cCel x) 79], [bx b4 [iv aCols, .slice (va outRowsr.q) outRows.length outRowsr.k, iv aCursor.row, iv aCursor.col, bv aVisible, iv aShape, sv aTitle] 55], [bx b3 [iv 0, .slice none 0 0, iv 0, iv 0, bv false, iv 0, sv ([] : List UInt8)] 55], [bx b2 [iv bCols, .slice bRowsq bRows.length bRowsk, iv bCursor.row, iv bCursor.col, bv bVisible, iv bShape, sv bTitle] 55], [bx b1 [iv aCols, .slice aRowsq aRows.length aRowsk, iv aCursor.row, iv aCursor.col, bv aVisible, iv aShape, sv aTitle] 55], vo cCel 79 r26 (row ++ ([x] : List Cel)), vo cSlc 74 outRowsr outRowsrs] [0, 1, 2, 3, 4, 6, 5] 7 rfl (by decide) rfl [[bx b13 (cCel x) 79], [bx b4 [iv aCols, .slice (va outRowsr.q) outRows.length outRowsr.k, iv aCursor.row, iv aCursor.col, bv aVisible, iv aShape, sv aTitle] 55], [bx b3 [iv 0, .slice none 0 0, iv 0, iv 0, bv false, iv 0, sv ([] : List UInt8)] 55], [bx b2 [iv bCols, .slice bRowsq bRows.length bRowsk, iv bCursor.row, iv bCursor.col, bv bVisible, iv bShape, sv bTitle] 55], [bx b1 [iv aCols, .slice aRowsq aRows.length aRowsk, iv aCursor.row, iv aCursor.col, bv aVisible, iv aShape, sv aTitle] 55], vo cSlc 74 outRowsr outRowsrs, vo cCel 79 r26 (row ++ ([x] : List Cel))] rfl (by first | rfl | simp only [List.flatten_cons, List.flatten_nil, List.append_nil, List.cons_append, List.nil_append, List.append_assoc])) ?_
        refine ip 1 0 [(9, .slice (va r26.q) ((row ++ ([x] : List Cel)).length) r26.k)] (by kernel_rfl) ?_
        refine JI_end ?_
        refine nx ?_
        refine J_region 3 rfl ?_
        refine ip 1 2 [(26, iv (i : Int))] (by kernel_rfl) ?_
        refine ix rfl (det_add64 rfl rfl rfl rfl (by omega)) ?_
        refine ip 1 0 [(10, iv ((i : Int) + 1))] (by kernel_rfl) ?_
        refine JI_end ?_
        exact againL4 (z1 := (fu1 + 1)) (z2 := row) (z3 := rowr) (z4 := i) fu1 (row ++ ([x] : List Cel)) r26 (i + 1) ⟨(by omega), hR, hr27, (by first | omega | (simp only [List.length_append, List.length_cons, List.length_nil]; omega)), (by omega)⟩ (Nat.lt_succ_self _) ⟨rfl, rfl, rfl, rfl, rfl, rfl, (by first | rfl | (simp only [List.length_set, List.length_append, List.length_cons, List.length_nil]; rfl) | simp | (simp; omega)), (by first | rfl | (simp only [List.length_set, List.length_append, List.length_cons, List.length_nil]; rfl) | simp | (simp; omega)), trivial⟩ (mc [[bx b13 (cCel x) 79], [bx b4 [iv aCols, .slice (va outRowsr.q) outRows.length outRowsr.k, iv aCursor.row, iv aCursor.col, bv aVisible, iv aShape, sv aTitle] 55], [bx b3 [iv 0, .slice none 0 0, iv 0, iv 0, bv false, iv 0, sv ([] : List UInt8)] 55], [bx b2 [iv bCols, .slice bRowsq bRows.length bRowsk, iv bCursor.row, iv bCursor.col, bv bVisible, iv bShape, sv bTitle] 55], [bx b1 [iv aCols, .slice aRowsq aRows.length aRowsk, iv aCursor.row, iv aCursor.col, bv aVisible, iv aShape, sv aTitle] 55], vo cSlc 74 outRowsr outRowsrs, vo cCel 79 r26 (row ++ ([x] : List Cel))] [false, true, true, true, true, true, true] rfl (by first | rfl | (simp only [List.length_set] <;> rfl))) (Foll.pick [2, 3, 4, 5, 6, 7] rfl)
    · have h8p : ¬ ((i : Int) < aCols) := by simpa using h8
      replace hR := bf hR h8
      refine J_exit ?_
      refine nx ?_
      refine J_region 7 rfl ?_
      refine ip 1 6 [(79, pt b4 1)] (by kernel_rfl) ?_
      refine ix rfl (det_own_one (v := .slice (va outRowsr.q) outRows.length outRowsr.k) ty51 rfl rfl 0 rfl rfl) ?_
      refine ip 1 4 [(81, .slice (va rowr.q) row.length rowr.k)] (by kernel_rfl) ?_
      refine JI_seal (bx b4 [iv aCols, .slice (va outRowsr.q) outRows.length outRowsr.k, iv aCursor.row, iv aCursor.col, bv aVisible, iv aShape, sv aTitle] 55 :: bx b3 [iv 0, .slice none 0 0, iv 0, iv 0, bv false, iv 0, sv ([] : List UInt8)] 55 :: bx b2 [iv bCols, .slice bRowsq bRows.length bRowsk, iv bCursor.row, iv bCursor.col, bv bVisible, iv bShape, sv bTitle] 55 :: bx b1 [iv aCols, .slice aRowsq aRows.length aRowsk, iv aCursor.row, iv aCursor.col, bv aVisible, iv aShape, sv aTitle] 55 :: (vo cSlc 74 outRowsr outRowsrs) ++ ([])) [] (T := 79) (c := cCel) (r := rowr) (xs := row) hokrowr (by first | rfl | simp only [List.cons_append, List.append_assoc, List.nil_append, List.append_nil]) ?_
      have := VOk.cap hokrowr
      refine it rfl (tri_buildSl (c := cSlc) (xs := ([⟨va rowr.q, row.length, rowr.k⟩] : List Slc)) slt51 rfl rfl rfl (by kernel_rfl)) fun b28 => ?_
      have hrows29 : RowsOk ([⟨va rowr.q, row.length, rowr.k⟩] : List Slc) ([row] : List (List Cel)) := (RowsOk.cons ⟨rfl, (by first | omega | (simp only [List.length_take, List.length_drop, List.length_append, List.length_cons, List.length_nil, List.length_set, List.length_map]; omega) | decide), (by first | omega | (simp only [List.length_take, List.length_drop, List.length_append, List.length_cons, List.length_nil, List.length_set, List.length_map]; omega) | decide)⟩ RowsOk.none)
      refine JI_fact1 (q := rowsF cCel ([⟨va rowr.q, row.length, rowr.k⟩] : List Slc) ([row] : List (List Cel))) (rows_cons (at_of 1 rfl) rows_none) ?_
      have : ([⟨va rowr.q, row.length, rowr.k⟩] : List Slc).length = 1 := rfl
      have hw32 : RowsOk (outRowsrs ++ ([⟨va rowr.q, row.length, rowr.k⟩] : List Slc)) (outRows ++ ([row] : List (List Cel))) := RowsOk.append hrowsoutRowsrs hrows29
      refine it rfl (tri_app_rows (r := outRowsr) (rs := outRowsrs) (xss := outRows) (pre := [bx b4 [iv aCols, .slice (va outRowsr.q) outRows.length outRowsr.k, iv aCursor.row, iv aCursor.col, bv aVisible, iv aShape, sv aTitle] 55, bx b3 [iv 0, .slice none 0 0, iv 0, iv 0, bv false, iv 0, sv ([] : List UInt8)] 55, bx b2 [iv bCols, .slice bRowsq bRows.length bRowsk, iv bCursor.row, iv bCursor.col, bv bVisible, iv bShape, sv bTitle] 55, bx b1 [iv aCols, .slice aRowsq aRows.length aRowsk, iv aCursor.row, iv aCursor.col, bv aVisible, iv aShape, sv aTitle] 55]) (post := []) apt51 rfl rfl rfl rfl rfl rfl rfl rfl (by first | rfl | simp only [List.cons_append, List.append_assoc, List.nil_append, List.append_nil]) (at_of 1 rfl) (at_of 8 rfl) (at_of 0 rfl) hrowsoutRowsrs hrows29 hokoutRowsr (by first | omega | (simp only [List.length_cons, List.length_nil, List.length_append, List.length_take, List.length_drop]; omega)) (by first | omega | (simp only [List.length_cons, List.length_nil, List.length_append, List.length_take, List.length_drop]; omega))) fun ⟨r30, hr31⟩ => ?_
      have := VOk.le hr31
      have := VOk.cap hr31
      refine ip 1 1 [(84, pt b4 1)] (by kernel_rfl) ?_
      refine it rfl (tri_store (us := [.slice (va r30.q) ((outRows ++ ([row] : List (List Cel))).length) r30.k]) (cs' := [iv aCols, .slice (va r30.q) ((outRows ++ ([row] : List (List Cel))).length) r30.k, iv aCursor.row, iv aCursor.col, bv aVisible, iv aShape, sv aTitle]) ty51 rfl rfl rfl 0 rfl rfl rfl rfl rfl rfl) fun _ => ?_
      refine JI_end ?_
      refine nx ?_
      refine J_region 3 rfl ?_
      refine ip 1 2 [(20, iv (r : Int))] (by kernel_rfl) ?_
      refine ix rfl (det_add64 rfl rfl rfl rfl (by omega)) ?_
      refine ip 1 0 [(8, iv ((r : Int) + 1))] (by kernel_rfl) ?_
      refine JI_end ?_
      exact againL4 (z1 := r) (z2 := outRows) (z3 := outRowsr) (z4 := outRowsrs) (r + 1) (outRows ++ ([row] : List (List Cel))) r30 (outRowsrs ++ ([⟨va rowr.q, row.length, rowr.k⟩] : List Slc)) ⟨(by omega), hR, hr31, hw32, (by first | omega | (simp only [List.length_append, List.length_cons, List.length_nil]; omega))⟩ (by (try dsimp only); omega) ⟨rfl, rfl, rfl, rfl, rfl, (by first | rfl | (simp only [List.length_set, List.length_append, List.length_cons, List.length_nil]; rfl) | simp | (simp; omega)), trivial⟩ (mc [[bx b4 [iv aCols, .slice (va r30.q) ((outRows ++ ([row] : List (List Cel))).length) r30.k, iv aCursor.row, iv aCursor.col, bv aVisible, iv aShape, sv aTitle] 55], [bx b3 [iv 0, .slice none 0 0, iv 0, iv 0, bv false, iv 0, sv ([] : List UInt8)] 55], [bx b2 [iv bCols, .slice bRowsq bRows.length bRowsk, iv bCursor.row, iv bCursor.col, bv bVisible, iv bShape, sv bTitle] 55], [bx b1 [iv aCols, .slice aRowsq aRows.length aRowsk, iv aCursor.row, iv aCursor.col, bv aVisible, iv aShape, sv aTitle] 55], vo cSlc 74 r30 (outRowsrs ++ ([⟨va rowr.q, row.length, rowr.k⟩] : List Slc))] [true, true, true, true, true] rfl (by first | rfl | (simp only [List.length_set] <;> rfl))) (Foll.pick [4, 5, 6, 7, 8, 0] rfl)
  · have h6p : ¬ ((r : Int) < (aRows.length : Int)) := by simpa using h6
    rw [dropn h6p] at hR; replace hR := (ref24_Over_l15.eq_1 ..).symm.trans hR
    refine J_exit ?_
    refine nx ?_
    refine sr 2 rfl ?_
    refine ix rfl (det_own_agg (us := [iv aCols, .slice (va outRowsr.q) outRows.length outRowsr.k, iv aCursor.row, iv aCursor.col, bv aVisible, iv aShape, sv aTitle]) ty55 rfl rfl 0 rfl rfl rfl) ?_
    refine it rfl (tri_store (us := [iv aCols, .slice (va outRowsr.q) outRows.length outRowsr.k, iv aCursor.row, iv aCursor.col, bv aVisible, iv aShape, sv aTitle]) (cs' := [iv aCols, .slice (va outRowsr.q) outRows.length outRowsr.k, iv aCursor.row, iv aCursor.col, bv aVisible, iv aShape, sv aTitle]) ty55 rfl rfl rfl 1 rfl rfl rfl rfl rfl rfl) fun _ => ?_
    refine ie ?_
    refine J_ret ?_
    subst hR
    exact ends_ret rfl ⟨hr, hD⟩ (by simp [hD]) (res1 rfl (resV_cell (us := [iv aCols, .slice (va outRowsr.q) outRows.length outRowsr.k, iv aCursor.row, iv aCursor.col, bv aVisible, iv aShape, sv aTitle]) ty55 rfl 1 rfl rfl rfl)) ⟨(outRowsr, outRowsrs), ⟨hokoutRowsr, hrowsoutRowsrs⟩⟩ (by rfl) (mc [[bx b4 [iv aCols, .slice (va outRowsr.q) outRows.length outRowsr.k, iv aCursor.row, iv aCursor.col, bv aVisible, iv aShape, sv aTitle] 55], [bx b3 [iv aCols, .slice (va outRowsr.q) outRows.length outRowsr.k, iv aCursor.row, iv aCursor.col, bv aVisible, iv aShape, sv aTitle] 55], [bx b2 [iv bCols, .slice bRowsq bRows.length bRowsk, iv bCursor.row, iv bCursor.col, bv bVisible, iv bShape, sv bTitle] 55], [bx b1 [iv aCols, .slice aRowsq aRows.length aRowsk, iv aCursor.row, iv aCursor.col, bv aVisible, iv aShape, sv aTitle] 55], vo cSlc 74 outRowsr outRowsrs] [false, false, false, false, true] rfl (by first | rfl | (simp only [List.length_set] <;> rfl))) (Foll.con1 (at_of 5 rfl) Foll.nil)

def ref24_Fits (aCols : Int) (aRows : List (List Cel)) (aCursor : Plc) (aVisible : Bool) (aShape : Int) (aTitle : List UInt8) (bCols : Int) (bRows : List (List Cel)) (bCursor : Plc) (bVisible : Bool) (bShape : Int) (bTitle : List UInt8) (s : Sp3) : Bool :=
  (bif (((((decide (s.row < 0)) || (decide ((aRows.length : Int) ≤ s.row))) || (decide (s.frm < 0))) || (decide (aCols < s.to))) || (decide (s.to ≤ s.frm))) then false else (bif ((decide (((aRows.getD ((s.row).toNat) []).getD ((s.frm).toNat) Cel.zero).wide = 2)) || (decide (((bRows.getD ((s.row).toNat) []).getD ((s.frm).toNat) Cel.zero).wide = 2))) then false else ((decide (s.to = aCols)) || ((!decide (((aRows.getD ((s.row).toNat) []).getD ((s.to).toNat) Cel.zero).wide = 2)) && (!decide (((bRows.getD ((s.row).toNat) []).getD ((s.to).toNat) Cel.zero).wide = 2))))))

set_option maxRecDepth 100000 in
theorem ref24_Fits_c (aCols : Int) (aRows : List (List Cel)) (aCursor : Plc) (aVisible : Bool) (aShape : Int) (aTitle : List UInt8) (bCols : Int) (bRows : List (List Cel)) (bCursor : Plc) (bVisible : Bool) (bShape : Int) (bTitle : List UInt8) (s : Sp3) (aRowsq : Option Addr) (aRowsrs : List Slc) (aRowsk : Nat) (bRowsq : Option Addr) (bRowsrs : List Slc) (bRowsk : Nat) (hrowsaRowsrs : RowsOk aRowsrs aRows) (hlaRows : aRows.length ≤ 9223372036854775807) (hcaRows : aRows.length ≤ aRowsk) (hrowsbRowsrs : RowsOk bRowsrs bRows) (hlbRows : bRows.length ≤ 9223372036854775807) (hcbRows : bRows.length ≤ bRowsk) (hz : aRows.length ≤ 40 ∧ aRows.length = bRows.length ∧ 0 ≤ aCols ∧ aCols ≤ 80) (hra : ∀ i, i < aRows.length → ((aRows.getD i []).length : Int) = aCols) (hrb : ∀ i, i < bRows.length → ((bRows.getD i []).length : Int) = aCols) (R : Bool) (hR : ref24_Fits aCols aRows aCursor aVisible aShape aTitle bCols bRows bCursor bVisible bShape bTitle s = R) : ConV Tryz.prog 38 [ag [iv aCols, .slice aRowsq aRows.length aRowsk, iv aCursor.row, iv aCursor.col, bv aVisible, iv aShape, sv aTitle], ag [iv bCols, .slice bRowsq bRows.length bRowsk, iv bCursor.row, iv bCursor.col, bv bVisible, iv bShape, sv bTitle], ag (cSp3 s)] [sl cSlc aRowsq aRowsrs, rowsF cCel aRowsrs aRows, sl cSlc bRowsq bRowsrs, rowsF cCel bRowsrs bRows] (bv R) := by
  refine con_of_J (n := 90) Tryz.func38 rfl (by kernel_rfl) rfl rfl [(0, ag [iv aCols, .slice aRowsq aRows.length aRowsk, iv aCursor.row, iv aCursor.col, bv aVisible, iv aShape, sv aTitle]), (1, ag [iv bCols, .slice bRowsq bRows.length bRowsk, iv bCursor.row, iv bCursor.col, bv bVisible, iv bShape, sv bTitle]), (2, ag (cSp3 s))] ⟨rfl, rfl, rfl, trivial⟩ fun X hX hr hD => ?_
  replace hR := (ref24_Fits.eq_1 ..).symm.trans hR
  have := hrowsaRowsrs.1
  have := hrowsbRowsrs.1
  refine sr 4 rfl ?_
  refine it rfl (tri_box (cs := [iv aCols, .slice aRowsq aRows.length aRowsk, iv aCursor.row, iv aCursor.col, bv aVisible, iv aShape, sv aTitle]) rfl rfl rfl) fun b1 => ?_
  refine it rfl (tri_box (cs := [iv bCols, .slice bRowsq bRows.length bRowsk, iv bCursor.row, iv bCursor.col, bv bVisible, iv bShape, sv bTitle]) rfl rfl rfl) fun b2 => ?_
  refine it rfl (tri_box (cs := cSp3 s) rfl rfl rfl) fun b3 => ?_
  refine ip 1 0 [] (by kernel_rfl) ?_
  refine ie ?_
  refine J_seq ?_
  refine sr 30 rfl ?_
  refine ip 1 29 [(9, pt b3 0)] (by kernel_rfl) ?_
  refine ix rfl (det_own_one (v := iv s.row) ty3 rfl rfl 0 rfl rfl) ?_
  refine ip 2 26 [(12, bv (decide (s.row < 0)))] (by kernel_rfl) ?_
  refine ior 7 19 12 19 (decide ((aRows.length : Int) ≤ s.row)) rfl (by kernel_rfl) (fun g4 => ?_) ?_
  · have g4p : ¬ (s.row < 0) := by simpa using g4
    refine ip 1 6 [(13, pt b3 0)] (by kernel_rfl) ?_
    refine ix rfl (det_own_one (v := iv s.row) ty3 rfl rfl 0 rfl rfl) ?_
    refine ip 1 4 [(15, pt b1 1)] (by kernel_rfl) ?_
    refine ix rfl (det_own_one (v := .slice aRowsq aRows.length aRowsk) ty51 rfl rfl 2 rfl rfl) ?_
    refine ip 3 0 [(19, bv (decide ((aRows.length : Int) ≤ s.row)))] (by kernel_rfl) ?_
    exact JI_end (armI 6 12 19 g4 Foll.refl (mk [true, true, true] rfl) rfl rfl rfl rfl rfl)
  refine ip 1 18 [(20, bv ((decide (s.row < 0)) || (decide ((aRows.length : Int) ≤ s.row))))] (by kernel_rfl) ?_
  refine ior 4 14 20 24 (decide (s.frm < 0)) rfl (by kernel_rfl) (fun g5 => ?_) ?_
  · have g5p : ¬ ((s.row < 0) ∨ ((aRows.length : Int) ≤ s.row)) := by simpa using g5
    refine ip 1 3 [(21, pt b3 1)] (by kernel_rfl) ?_
    refine ix rfl (det_own_one (v := iv s.frm) ty3 rfl rfl 0 rfl rfl) ?_
    refine ip 2 0 [(24, bv (decide (s.frm < 0)))] (by kernel_rfl) ?_
    exact JI_end (armI 4 20 24 g5 Foll.refl (mk [true, true, true] rfl) rfl rfl rfl rfl rfl)
  refine ip 1 13 [(25, bv (((decide (s.row < 0)) || (decide ((aRows.length : Int) ≤ s.row))) || (decide (s.frm < 0))))] (by kernel_rfl) ?_
  refine ior 6 7 25 31 (decide (aCols < s.to)) rfl (by kernel_rfl) (fun g6 => ?_) ?_
  · have g6p : ¬ (((s.row < 0) ∨ ((aRows.length : Int) ≤ s.row)) ∨ (s.frm < 0)) := by simpa using g6
    refine ip 1 5 [(26, pt b3 2)] (by kernel_rfl) ?_
    refine ix rfl (det_own_one (v := iv s.to) ty3 rfl rfl 0 rfl rfl) ?_
    refine ip 1 3 [(28, pt b1 0)] (by kernel_rfl) ?_
    refine ix rfl (det_own_one (v := iv aCols) ty3 rfl rfl 2 rfl rfl) ?_
    refine ip 2 0 [(31, bv (decide (aCols < s.to)))] (by kernel_rfl) ?_
    exact JI_end (armI 6 25 31 g6 Foll.refl (mk [true, true, true] rfl) rfl rfl rfl rfl rfl)
  refine ip 1 6 [(32, bv ((((decide (s.row < 0)) || (decide ((aRows.length : Int) ≤ s.row))) || (decide (s.frm < 0))) || (decide (aCols < s.to))))] (by kernel_rfl) ?_
  refine ior 6 0 32 38 (decide (s.to ≤ s.frm)) rfl (by kernel_rfl) (fun g7 => ?_) ?_
  · have g7p : ¬ ((((s.row < 0) ∨ ((aRows.length : Int) ≤ s.row)) ∨ (s.frm < 0)) ∨ (aCols < s.to)) := by simpa using g7
    refine ip 1 5 [(33, pt b3 1)] (by kernel_rfl) ?_
    refine ix rfl (det_own_one (v := iv s.frm) ty3 rfl rfl 0 rfl rfl) ?_
    refine ip 1 3 [(35, pt b3 2)] (by kernel_rfl) ?_
    refine ix rfl (det_own_one (v := iv s.to) ty3 rfl rfl 0 rfl rfl) ?_
    refine ip 2 0 [(38, bv (decide (s.to ≤ s.frm)))] (by kernel_rfl) ?_
    exact JI_end (armI 6 32 38 g7 Foll.refl (mk [true, true, true] rfl) rfl rfl rfl rfl rfl)
  refine ie ?_
  refine J_if rfl (fun h8 => ?_) (fun h8 => ?_)
  · have h8p : ((((s.row < 0) ∨ ((aRows.length : Int) ≤ s.row)) ∨ (s.frm < 0)) ∨ (aCols < s.to)) ∨ (s.to ≤ s.frm) := by simpa using h8
    replace hR := bt hR h8
    refine sr 1 rfl ?_
    refine ip 1 0 [(6, bv false)] (by kernel_rfl) ?_
    refine ie ?_
    refine J_ret ?_
    subst hR
    exact ends_ret rfl ⟨hr, hD⟩ (by simp [hD]) (res1 rfl (resV_tmp rfl)) () (by rfl) (mk [false, false, false] rfl) Foll.nil
  · have h8p : ¬ (((((s.row < 0) ∨ ((aRows.length : Int) ≤ s.row)) ∨ (s.frm < 0)) ∨ (aCols < s.to)) ∨ (s.to ≤ s.frm)) := by simpa using h8
    replace hR := bf hR h8
    have hf1 := hra (s.row).toNat
    have hf2 := hrb (s.row).toNat
    refine J_skip ?_
    refine nx ?_
    refine sd 14 rfl (by kernel_rfl) rfl ?_
    refine dp 1 13 [(39, pt b1 1)] (by kernel_rfl) ?_
    refine dd rfl (det_own_one (v := .slice aRowsq aRows.length aRowsk) ty51 rfl rfl 2 rfl rfl) ?_
    refine dp 1 11 [(41, pt b3 0)] (by kernel_rfl) ?_
    refine dd rfl (det_own_one (v := iv s.row) ty3 rfl rfl 0 rfl rfl) ?_
    refine JD_base 0 rfl (by omega) fun a9 hq10 => ?_
    refine JD_fact1 (rows_atD (k := (s.row).toNat) (d := (⟨none, 0, 0⟩ : Slc)) hrowsaRowsrs 1 rfl (by have := hrowsaRowsrs.1; omega)) ?_
    have := rows_cap hrowsaRowsrs (k := (s.row).toNat) (d := (⟨none, 0, 0⟩ : Slc)) (by have := hrowsaRowsrs.1; omega)
    refine dd rfl (det_ixq slt51 rfl rfl hq10 rfl ((s.row).toNat) (by omega) (by omega)) ?_
    refine dd rfl (det_conv (det_ld_one (v := .slice ((aRowsrs.getD ((s.row).toNat) (⟨none, 0, 0⟩ : Slc)).q) ((aRowsrs.getD ((s.row).toNat) (⟨none, 0, 0⟩ : Slc)).n) ((aRowsrs.getD ((s.row).toNat) (⟨none, 0, 0⟩ : Slc)).k)) (us := [.slice ((aRowsrs.getD ((s.row).toNat) (⟨none, 0, 0⟩ : Slc)).q) ((aRowsrs.getD ((s.row).toNat) (⟨none, 0, 0⟩ : Slc)).n) ((aRowsrs.getD ((s.row).toNat) (⟨none, 0, 0⟩ : Slc)).k)]) ty74 rfl rfl (at_slq (c := cSlc) (sz := 1) hq10 (fun _ => rfl) 1 rfl (gd (⟨none, 0, 0⟩ : Slc) (by have := hrowsaRowsrs.1; omega))) rfl) (rows_val hrowsaRowsrs (by have := hrowsaRowsrs.1; omega))) ?_
    refine dp 1 7 [(45, pt b2 1)] (by kernel_rfl) ?_
    refine dd rfl (det_own_one (v := .slice bRowsq bRows.length bRowsk) ty51 rfl rfl 1 rfl rfl) ?_
    refine dp 1 5 [(47, pt b3 0)] (by kernel_rfl) ?_
    refine dd rfl (det_own_one (v := iv s.row) ty3 rfl rfl 0 rfl rfl) ?_
    refine JD_base 3 rfl (by omega) fun a11 hq12 => ?_
    refine JD_fact1 (rows_atD (k := (s.row).toNat) (d := (⟨none, 0, 0⟩ : Slc)) hrowsbRowsrs 4 rfl (by have := hrowsbRowsrs.1; omega)) ?_
    have := rows_cap hrowsbRowsrs (k := (s.row).toNat) (d := (⟨none, 0, 0⟩ : Slc)) (by have := hrowsbRowsrs.1; omega)
    refine dd rfl (det_ixq slt51 rfl rfl hq12 rfl ((s.row).toNat) (by omega) (by omega)) ?_
    refine dd rfl (det_conv (det_ld_one (v := .slice ((bRowsrs.getD ((s.row).toNat) (⟨none, 0, 0⟩ : Slc)).q) ((bRowsrs.getD ((s.row).toNat) (⟨none, 0, 0⟩ : Slc)).n) ((bRowsrs.getD ((s.row).toNat) (⟨none, 0, 0⟩ : Slc)).k)) (us := [.slice ((bRowsrs.getD ((s.row).toNat) (⟨none, 0, 0⟩ : Slc)).q) ((bRowsrs.getD ((s.row).toNat) (⟨none, 0, 0⟩ : Slc)).n) ((bRowsrs.getD ((s.row).toNat) (⟨none, 0, 0⟩ : Slc)).k)]) ty74 rfl rfl (at_slq (c := cSlc) (sz := 1) hq12 (fun _ => rfl) 4 rfl (gd (⟨none, 0, 0⟩ : Slc) (by have := hrowsbRowsrs.1; omega))) rfl) (rows_val hrowsbRowsrs (by have := hrowsbRowsrs.1; omega))) ?_
    refine dp 2 0 [(7, .slice ((aRowsrs.getD ((s.row).toNat) (⟨none, 0, 0⟩ : Slc)).q) ((aRows.getD ((s.row).toNat) []).length) ((aRowsrs.getD ((s.row).toNat) (⟨none, 0, 0⟩ : Slc)).k)), (8, .slice ((bRowsrs.getD ((s.row).toNat) (⟨none, 0, 0⟩ : Slc)).q) ((bRows.getD ((s.row).toNat) []).length) ((bRowsrs.getD ((s.row).toNat) (⟨none, 0, 0⟩ : Slc)).k))] (by kernel_rfl) ?_
    refine de ?_
    refine J_seq ?_
    refine sr 16 rfl ?_
    refine ip 2 14 [(51, .slice ((aRowsrs.getD ((s.row).toNat) (⟨none, 0, 0⟩ : Slc)).q) ((aRows.getD ((s.row).toNat) []).length) ((aRowsrs.getD ((s.row).toNat) (⟨none, 0, 0⟩ : Slc)).k)), (52, pt b3 1)] (by kernel_rfl) ?_
    refine ix rfl (det_own_one (v := iv s.frm) ty3 rfl rfl 0 rfl rfl) ?_
    refine JI_base 1 rfl (by omega) fun a13 hq14 => ?_
    refine ix rfl (det_ixq slt74 rfl rfl hq14 rfl ((s.frm).toNat) (by omega) (by omega)) ?_
    refine ip 1 11 [(55, pa ((Addr.add a13 (((s.frm).toNat) * 12)).add 3))] (by kernel_rfl) ?_
    refine ix rfl (det_ld_one (v := iv (((aRows.getD ((s.row).toNat) []).getD ((s.frm).toNat) Cel.zero).wide)) (us := [iv (((aRows.getD ((s.row).toNat) []).getD ((s.frm).toNat) Cel.zero).wide)]) ty3 rfl rfl (at_part (at_slq (c := cCel) (sz := 12) hq14 (fun _ => rfl) 1 rfl (gd Cel.zero (by omega))) (ws := [iv (((aRows.getD ((s.row).toNat) []).getD ((s.frm).toNat) Cel.zero).wide)]) 3 1 rfl) rfl) ?_
    refine ip 2 8 [(58, bv (decide (((aRows.getD ((s.row).toNat) []).getD ((s.frm).toNat) Cel.zero).wide = 2)))] (by kernel_rfl) ?_
    refine ior 8 0 58 66 (decide (((bRows.getD ((s.row).toNat) []).getD ((s.frm).toNat) Cel.zero).wide = 2)) rfl (by kernel_rfl) (fun g15 => ?_) ?_
    · have g15p : ¬ (((aRows.getD ((s.row).toNat) []).getD ((s.frm).toNat) Cel.zero).wide = 2) := by simpa using g15
      refine ip 2 6 [(59, .slice ((bRowsrs.getD ((s.row).toNat) (⟨none, 0, 0⟩ : Slc)).q) ((bRows.getD ((s.row).toNat) []).length) ((bRowsrs.getD ((s.row).toNat) (⟨none, 0, 0⟩ : Slc)).k)), (60, pt b3 1)] (by kernel_rfl) ?_
      refine ix rfl (det_own_one (v := iv s.frm) ty3 rfl rfl 0 rfl rfl) ?_
      refine JI_base 0 rfl (by omega) fun a16 hq17 => ?_
      refine ix rfl (det_ixq slt74 rfl rfl hq17 rfl ((s.frm).toNat) (by omega) (by omega)) ?_
      refine ip 1 3 [(63, pa ((Addr.add a16 (((s.frm).toNat) * 12)).add 3))] (by kernel_rfl) ?_
      refine ix rfl (det_ld_one (v := iv (((bRows.getD ((s.row).toNat) []).getD ((s.frm).toNat) Cel.zero).wide)) (us := [iv (((bRows.getD ((s.row).toNat) []).getD ((s.frm).toNat) Cel.zero).wide)]) ty3 rfl rfl (at_part (at_slq (c := cCel) (sz := 12) hq17 (fun _ => rfl) 0 rfl (gd Cel.zero (by omega))) (ws := [iv (((bRows.getD ((s.row).toNat) []).getD ((s.frm).toNat) Cel.zero).wide)]) 3 1 rfl) rfl) ?_
      refine ip 2 0 [(66, bv (decide (((bRows.getD ((s.row).toNat) []).getD ((s.frm).toNat) Cel.zero).wide = 2)))] (by kernel_rfl) ?_
      exact JI_end (armI 8 58 66 g15 Foll.refl (mk [true, true, true] rfl) rfl rfl rfl rfl rfl)
    refine ie ?_
    refine J_if rfl (fun h18 => ?_) (fun h18 => ?_)
    · have h18p : (((aRows.getD ((s.row).toNat) []).getD ((s.frm).toNat) Cel.zero).wide = 2) ∨ (((bRows.getD ((s.row).toNat) []).getD ((s.frm).toNat) Cel.zero).wide = 2) := by simpa using h18
      replace hR := bt hR h18
      refine sr 1 rfl ?_
      refine ip 1 0 [(6, bv false)] (by kernel_rfl) ?_
      refine ie ?_
      refine J_ret ?_
      subst hR
      exact ends_ret rfl ⟨hr, hD⟩ (by simp [hD]) (res1 rfl (resV_tmp rfl)) () (by rfl) (mk [false, false, false] rfl) Foll.nil
    · have h18p : ¬ ((((aRows.getD ((s.row).toNat) []).getD ((s.frm).toNat) Cel.zero).wide = 2) ∨ (((bRows.getD ((s.row).toNat) []).getD ((s.frm).toNat) Cel.zero).wide = 2)) := by simpa using h18
      replace hR := bf hR h18
      refine J_skip ?_
      refine nx ?_
      refine sr 24 rfl ?_
      refine ip 1 23 [(67, pt b3 2)] (by kernel_rfl) ?_
      refine ix rfl (det_own_one (v := iv s.to) ty3 rfl rfl 0 rfl rfl) ?_
      refine ip 1 21 [(69, pt b1 0)] (by kernel_rfl) ?_
      refine ix rfl (det_own_one (v := iv aCols) ty3 rfl rfl 2 rfl rfl) ?_
      refine ip 2 18 [(72, bv (decide (s.to = aCols)))] (by kernel_rfl) ?_
      refine ior 17 1 72 89 ((!decide (((aRows.getD ((s.row).toNat) []).getD ((s.to).toNat) Cel.zero).wide = 2)) && (!decide (((bRows.getD ((s.row).toNat) []).getD ((s.to).toNat) Cel.zero).wide = 2))) rfl (by kernel_rfl) (fun g19 => ?_) ?_
      · have g19p : ¬ (s.to = aCols) := by simpa using g19
        refine ip 2 15 [(73, .slice ((aRowsrs.getD ((s.row).toNat) (⟨none, 0, 0⟩ : Slc)).q) ((aRows.getD ((s.row).toNat) []).length) ((aRowsrs.getD ((s.row).toNat) (⟨none, 0, 0⟩ : Slc)).k)), (74, pt b3 2)] (by kernel_rfl) ?_
        refine ix rfl (det_own_one (v := iv s.to) ty3 rfl rfl 0 rfl rfl) ?_
        refine ix rfl (det_ixq slt74 rfl rfl hq14 rfl ((s.to).toNat) (by omega) (by omega)) ?_
        refine ip 1 12 [(77, pa ((Addr.add a13 (((s.to).toNat) * 12)).add 3))] (by kernel_rfl) ?_
        refine ix rfl (det_ld_one (v := iv (((aRows.getD ((s.row).toNat) []).getD ((s.to).toNat) Cel.zero).wide)) (us := [iv (((aRows.getD ((s.row).toNat) []).getD ((s.to).toNat) Cel.zero).wide)]) ty3 rfl rfl (at_part (at_slq (c := cCel) (sz := 12) hq14 (fun _ => rfl) 1 rfl (gd Cel.zero (by omega))) (ws := [iv (((aRows.getD ((s.row).toNat) []).getD ((s.to).toNat) Cel.zero).wide)]) 3 1 rfl) rfl) ?_
        refine ip 2 9 [(80, bv (!decide (((aRows.getD ((s.row).toNat) []).getD ((s.to).toNat) Cel.zero).wide = 2)))] (by kernel_rfl) ?_
        refine iand 8 1 80 88 (!decide (((bRows.getD ((s.row).toNat) []).getD ((s.to).toNat) Cel.zero).wide = 2)) rfl (by kernel_rfl) (fun g20 => ?_) ?_
        · have g20p : ¬ ((aRows.getD ((s.row).toNat) []).getD ((s.to).toNat) Cel.zero).wide = 2 := by simpa using g20
          refine ip 2 6 [(81, .slice ((bRowsrs.getD ((s.row).toNat) (⟨none, 0, 0⟩ : Slc)).q) ((bRows.getD ((s.row).toNat) []).length) ((bRowsrs.getD ((s.row).toNat) (⟨none, 0, 0⟩ : Slc)).k)), (82, pt b3 2)] (by kernel_rfl) ?_
          refine ix rfl (det_own_one (v := iv s.to) ty3 rfl rfl 0 rfl rfl) ?_
          refine JI_base 0 rfl (by omega) fun a21 hq22 => ?_
          refine ix rfl (det_ixq slt74 rfl rfl hq22 rfl ((s.to).toNat) (by omega) (by omega)) ?_
          refine ip 1 3 [(85, pa ((Addr.add a21 (((s.to).toNat) * 12)).add 3))] (by kernel_rfl) ?_
          refine ix rfl (det_ld_one (v := iv (((bRows.getD ((s.row).toNat) []).getD ((s.to).toNat) Cel.zero).wide)) (us := [iv (((bRows.getD ((s.row).toNat) []).getD ((s.to).toNat) Cel.zero).wide)]) ty3 rfl rfl (at_part (at_slq (c := cCel) (sz := 12) hq22 (fun _ => rfl) 0 rfl (gd Cel.zero (by omega))) (ws := [iv (((bRows.getD ((s.row).toNat) []).getD ((s.to).toNat) Cel.zero).wide)]) 3 1 rfl) rfl) ?_
          refine ip 2 0 [(88, bv (!decide (((bRows.getD ((s.row).toNat) []).getD ((s.to).toNat) Cel.zero).wide = 2)))] (by kernel_rfl) ?_
          exact JI_end (armI 8 80 88 g20 Foll.refl (mk [true, true, true] rfl) rfl rfl rfl rfl rfl)
        refine ip 1 0 [(89, bv ((!decide (((aRows.getD ((s.row).toNat) []).getD ((s.to).toNat) Cel.zero).wide = 2)) && (!decide (((bRows.getD ((s.row).toNat) []).getD ((s.to).toNat) Cel.zero).wide = 2))))] (by kernel_rfl) ?_
        exact JI_end (armI 10 72 89 g19 Foll.refl (mk [true, true, true] rfl) rfl rfl rfl rfl rfl)
      refine ip 1 0 [(6, bv ((decide (s.to = aCols)) || ((!decide (((aRows.getD ((s.row).toNat) []).getD ((s.to).toNat) Cel.zero).wide = 2)) && (!decide (((bRows.getD ((s.row).toNat) []).getD ((s.to).toNat) Cel.zero).wide = 2)))))] (by kernel_rfl) ?_
      refine ie ?_
      refine J_ret ?_
      subst hR
      exact ends_ret rfl ⟨hr, hD⟩ (by simp [hD]) (res1 rfl (resV_tmp rfl)) () (by rfl) (mk [false, false, false] rfl) Foll.nil

end Go.Proofs.YtlcaphkcfmlljaaGreatDoor

