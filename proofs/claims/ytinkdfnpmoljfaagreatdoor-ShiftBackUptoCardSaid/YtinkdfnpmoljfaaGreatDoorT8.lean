import Derived.Test.YtinkdfnpmoljfaaGreatDoorD2
import Derived.Test.YtinkdfnpmoljfaaGreatDoorFenX
import Derived.Test.YtinkdfnpmoljfaaGreatDoorProg
import Derived.Test.YtinkdfnpmoljfaaGreatDoorT4a
import Derived.Test.YtinkdfnpmoljfaaGreatDoorT4b
import Derived.Test.YtinkdfnpmoljfaaGreatDoorT5
import Derived.Test.YtinkdfnpmoljfaaGreatDoorT6
import Derived.Test.YtinkdfnpmoljfaaGreatDoorT7
set_option linter.unusedVariables false
set_option linter.unusedSimpArgs false
set_option linter.unnecessarySimpa false
namespace Go.Proofs.YtinkdfnpmoljfaaGreatDoor
open Go Go.Fen

def law28_ShiftBack_l3 (rshiftDone1 : Int × List (List Cel) × Int × Int × Bool × Int × List UInt8 × Int) (t53 : Nat) (ag_law28_ShiftBack_l2 : Nat → Bool) : List Cel → Nat → Bool
  | [], t88 => ag_law28_ShiftBack_l2 (t53 + 1)
  | hd_l3 :: tl_l3, t88 => (bif (!(decide (((rshiftDone1.2.1.getD t53 []).getD t88 Cel.zero) = hd_l3))) then false else law28_ShiftBack_l3 rshiftDone1 t53 ag_law28_ShiftBack_l2 tl_l3 (t88 + 1))
def law28_ShiftBack_l2 (s : Shf) (rshiftDone1 : Int × List (List Cel) × Int × Int × Bool × Int × List UInt8 × Int) : List (List Cel) → Nat → Bool
  | [], t53 => true
  | hd_l2 :: tl_l2, t53 => (bif (((decide (s.top ≤ (t53 : Int))) && (decide ((t53 : Int) ≤ s.bottom))) && ((decide ((IntKind.i64.wrap ((t53 : Int) - s.amt)) < s.top)) || (decide (s.bottom < (IntKind.i64.wrap ((t53 : Int) - s.amt)))))) then law28_ShiftBack_l2 s rshiftDone1 tl_l2 (t53 + 1) else law28_ShiftBack_l3 rshiftDone1 t53 (law28_ShiftBack_l2 s rshiftDone1 tl_l2) hd_l2 0)
def law28_ShiftBack (fCols : Int) (fRows : List (List Cel)) (fCursor : Plc) (fVisible : Bool) (fShape : Int) (fTitle : List UInt8) (s : Shf) : Bool :=
  (bif (!law28_wakes) then false else (bindV (shift_Done fCols fRows fCursor fVisible fShape fTitle s) fun (rshiftDone : Int × List (List Cel) × Int × Int × Bool × Int × List UInt8 × Int) => (bif (!decide (rshiftDone.2.2.2.2.2.2.2 = 0)) then (decide ((rshiftDone.2.1.length : Int) = 0)) else (bindV (shift_Done rshiftDone.1 rshiftDone.2.1 (⟨rshiftDone.2.2.1, rshiftDone.2.2.2.1⟩ : Plc) rshiftDone.2.2.2.2.1 rshiftDone.2.2.2.2.2.1 rshiftDone.2.2.2.2.2.2.1 ({ Shf.zero with top := s.top, bottom := s.bottom, amt := (-s.amt) })) fun (rshiftDone1 : Int × List (List Cel) × Int × Int × Bool × Int × List UInt8 × Int) => (bif ((!decide (rshiftDone1.2.2.2.2.2.2.2 = 0)) || (!decide ((rshiftDone1.2.1.length : Int) = (fRows.length : Int)))) then false else law28_ShiftBack_l2 s rshiftDone1 fRows 0)))))

set_option maxRecDepth 100000 in
theorem law28_ShiftBack_c (fCols : Int) (fRows : List (List Cel)) (fCursor : Plc) (fVisible : Bool) (fShape : Int) (fTitle : List UInt8) (s : Shf) (fRowsq : Option Addr) (fRowsrs : List Slc) (fRowsk : Nat) (hrowsfRowsrs : RowsOk fRowsrs fRows) (hlfRows : fRows.length ≤ 9223372036854775807) (hcfRows : fRows.length ≤ fRowsk) (hT : fTitle.length ≤ 100000000) (R : Bool) (hR : law28_ShiftBack fCols fRows fCursor fVisible fShape fTitle s = R) : ConV Tryz.prog 8 [ag [iv fCols, .slice fRowsq fRows.length fRowsk, iv fCursor.row, iv fCursor.col, bv fVisible, iv fShape, sv fTitle], ag (cShf s)] [sl cSlc fRowsq fRowsrs, rowsF cCel fRowsrs fRows, sl cSpn (some ⟨0, 0, none⟩) tab0, sl cSpn (some ⟨1, 0, none⟩) tab1] (bv R) := by
  refine con_of_J (n := 105) Tryz.func8 rfl (by kernel_rfl) rfl rfl [(0, ag [iv fCols, .slice fRowsq fRows.length fRowsk, iv fCursor.row, iv fCursor.col, bv fVisible, iv fShape, sv fTitle]), (1, ag (cShf s))] ⟨rfl, rfl, trivial⟩ fun X hX hr hD => ?_
  replace hR := (law28_ShiftBack.eq_1 ..).symm.trans hR
  have := hrowsfRowsrs.1
  refine sr 3 rfl ?_
  refine it rfl (tri_box (cs := [iv fCols, .slice fRowsq fRows.length fRowsk, iv fCursor.row, iv fCursor.col, bv fVisible, iv fShape, sv fTitle]) rfl rfl rfl) fun b1 => ?_
  refine it rfl (tri_box (cs := cShf s) rfl rfl rfl) fun b2 => ?_
  refine ip 1 0 [] (by kernel_rfl) ?_
  refine ie ?_
  refine J_seq ?_
  refine sr 2 rfl ?_
  refine ixc rfl (det_call (law28_wakes_c _ rfl) rfl rfl rfl rfl rfl (Foll.pick [2, 3] rfl)) ?_
  refine ip 1 0 [(13, bv (!law28_wakes))] (by kernel_rfl) ?_
  refine ie ?_
  refine J_if rfl (fun h3 => ?_) (fun h3 => ?_)
  · replace hR := bt hR h3
    refine sr 1 rfl ?_
    refine ip 1 0 [(4, bv false)] (by kernel_rfl) ?_
    refine ie ?_
    refine J_ret ?_
    subst hR
    exact ends_ret rfl ⟨hr, hD⟩ (by simp [hD]) (res1 rfl (resV_tmp rfl)) () (by rfl) (mk [false, false] rfl) Foll.nil
  · replace hR := bf hR h3
    refine J_skip ?_
    refine nx ?_
    refine sr 9 rfl ?_
    refine ix rfl (det_own_agg (us := [iv fCols, .slice fRowsq fRows.length fRowsk, iv fCursor.row, iv fCursor.col, bv fVisible, iv fShape, sv fTitle]) ty53 rfl rfl 1 rfl rfl rfl) ?_
    refine ix rfl (det_own_agg (us := cShf s) ty55 rfl rfl 0 rfl rfl rfl) ?_
    have hQ := bindVx hR; clear hR; obtain ⟨rshiftDone, hrshiftDone, hR⟩ := hQ
    refine it rfl (tri_callP (L2 := [bx b2 (cShf s) 55, bx b1 [iv fCols, .slice fRowsq fRows.length fRowsk, iv fCursor.row, iv fCursor.col, bv fVisible, iv fShape, sv fTitle] 53]) (shift_Done_c fCols fRows fCursor fVisible fShape fTitle s fRowsq fRowsrs fRowsk hrowsfRowsrs (by first | omega | (simp only [List.length_take, List.length_drop, List.length_append, List.length_cons, List.length_nil, List.length_set, List.length_map]; omega) | decide) (by first | omega | (simp only [List.length_take, List.length_drop, List.length_append, List.length_cons, List.length_nil, List.length_set, List.length_map]; omega) | decide) (by first | omega | (simp only [List.length_nil]; omega)) rshiftDone hrshiftDone) rfl rfl rfl rfl rfl Foll.refl (List.Perm.refl _) (fun ⟨⟨r4, rs5⟩, hp8⟩ => (bx b2 (cShf s) 55 :: bx b1 [iv fCols, .slice fRowsq fRows.length fRowsk, iv fCursor.row, iv fCursor.col, bv fVisible, iv fShape, sv fTitle] 53 :: (vo cSlc 67 r4 rs5) ++ ([]))) (fun ⟨⟨r4, rs5⟩, hp8⟩ => permC [vo cSlc 67 r4 rs5, [bx b2 (cShf s) 55], [bx b1 [iv fCols, .slice fRowsq fRows.length fRowsk, iv fCursor.row, iv fCursor.col, bv fVisible, iv fShape, sv fTitle] 53]] [1, 2, 0] 3 rfl (by decide) (by first | rfl | simp only [List.flatten_cons, List.flatten_nil, List.append_nil, List.cons_append, List.nil_append, List.append_assoc]) [[bx b2 (cShf s) 55], [bx b1 [iv fCols, .slice fRowsq fRows.length fRowsk, iv fCursor.row, iv fCursor.col, bv fVisible, iv fShape, sv fTitle] 53], vo cSlc 67 r4 rs5] rfl (by first | rfl | simp only [List.flatten_cons, List.flatten_nil, List.append_nil, List.cons_append, List.nil_append, List.append_assoc]))) fun ⟨⟨r4, rs5⟩, hp8⟩ => ?_
    try dsimp only at hp8
    obtain ⟨hk6, hw7⟩ := hp8
    have := VOk.le hk6
    have := VOk.cap hk6
    have := hw7.1
    have := shift_Done_title fCols fRows fCursor fVisible fShape fTitle s; try rw [hrshiftDone] at this
    refine JI_seal [bx b2 (cShf s) 55, bx b1 [iv fCols, .slice fRowsq fRows.length fRowsk, iv fCursor.row, iv fCursor.col, bv fVisible, iv fShape, sv fTitle] 53] [] (T := 67) (c := cSlc) (r := r4) (xs := rs5) (VOk.cast hk6 (by rw [hw7.1])) (by first | rfl | simp only [List.cons_append, List.append_assoc, List.nil_append, List.append_nil]) ?_
    refine ip 3 3 [(18, ag [iv rshiftDone.1, .slice (va r4.q) rshiftDone.2.1.length r4.k, iv rshiftDone.2.2.1, iv rshiftDone.2.2.2.1, bv rshiftDone.2.2.2.2.1, iv rshiftDone.2.2.2.2.2.1, sv rshiftDone.2.2.2.2.2.2.1]), (19, iv rshiftDone.2.2.2.2.2.2.2)] (by kernel_rfl) ?_
    refine it rfl (tri_alloc (cs := [iv 0, .slice none 0 0, iv 0, iv 0, bv false, iv 0, sv ([] : List UInt8)]) zero53 rfl) fun b9 => ?_
    refine it rfl (tri_store (us := [iv rshiftDone.1, .slice (va r4.q) rshiftDone.2.1.length r4.k, iv rshiftDone.2.2.1, iv rshiftDone.2.2.2.1, bv rshiftDone.2.2.2.2.1, iv rshiftDone.2.2.2.2.2.1, sv rshiftDone.2.2.2.2.2.2.1]) (cs' := [iv rshiftDone.1, .slice (va r4.q) rshiftDone.2.1.length r4.k, iv rshiftDone.2.2.1, iv rshiftDone.2.2.2.1, bv rshiftDone.2.2.2.2.1, iv rshiftDone.2.2.2.2.2.1, sv rshiftDone.2.2.2.2.2.2.1]) ty53 rfl rfl rfl 0 rfl rfl rfl rfl rfl rfl) fun _ => ?_
    refine ip 1 0 [(6, iv rshiftDone.2.2.2.2.2.2.2)] (by kernel_rfl) ?_
    refine ie ?_
    refine J_seq ?_
    refine sr 2 rfl ?_
    refine ip 2 0 [(21, bv (!decide (rshiftDone.2.2.2.2.2.2.2 = 0)))] (by kernel_rfl) ?_
    refine ie ?_
    refine J_if rfl (fun h10 => ?_) (fun h10 => ?_)
    · have h10p : ¬ rshiftDone.2.2.2.2.2.2.2 = 0 := by simpa using h10
      replace hR := bt hR h10
      refine sr 5 rfl ?_
      refine ip 1 4 [(22, pt b9 1)] (by kernel_rfl) ?_
      refine ix rfl (det_own_one (v := .slice (va r4.q) rshiftDone.2.1.length r4.k) ty49 rfl rfl 0 rfl rfl) ?_
      refine ip 3 0 [(4, bv (decide ((rshiftDone.2.1.length : Int) = 0)))] (by kernel_rfl) ?_
      refine ie ?_
      refine J_ret ?_
      subst hR
      exact ends_ret rfl ⟨hr, hD⟩ (by simp [hD]) (res1 rfl (resV_tmp rfl)) () (by rfl) (mk [false, false, false] rfl) Foll.nil
    · have h10p : ¬ (¬ rshiftDone.2.2.2.2.2.2.2 = 0) := by simpa using h10
      replace hR := bf hR h10
      obtain ⟨hf0, hs0, o0, ho0, hol0, hor0⟩ := shift_Done_ok hrshiftDone (by simpa using h10)
      have hfc := frame_Check_ok hf0
      have hsc := shift_Check_ok hs0
      have hd0 : rshiftDone.1 = fCols ∧ rshiftDone.2.1 = o0 := by rw [ho0]; exact ⟨rfl, rfl⟩
      refine J_skip ?_
      refine nx ?_
      refine sr 16 rfl ?_
      refine ix rfl (det_own_agg (us := [iv rshiftDone.1, .slice (va r4.q) rshiftDone.2.1.length r4.k, iv rshiftDone.2.2.1, iv rshiftDone.2.2.2.1, bv rshiftDone.2.2.2.2.1, iv rshiftDone.2.2.2.2.2.1, sv rshiftDone.2.2.2.2.2.2.1]) ty53 rfl rfl 0 rfl rfl rfl) ?_
      refine ip 1 14 [(28, pt b2 0)] (by kernel_rfl) ?_
      refine ix rfl (det_own_one (v := iv s.top) ty3 rfl rfl 1 rfl rfl) ?_
      refine ip 1 12 [(30, pt b2 1)] (by kernel_rfl) ?_
      refine ix rfl (det_own_one (v := iv s.bottom) ty3 rfl rfl 1 rfl rfl) ?_
      refine ip 1 10 [(32, pt b2 2)] (by kernel_rfl) ?_
      refine ix rfl (det_own_one (v := iv s.amt) ty3 rfl rfl 1 rfl rfl) ?_
      refine ix rfl (det_neg64 rfl rfl rfl (by omega)) ?_
      refine ix rfl (det_build (cs := cShf ({ Shf.zero with top := s.top, bottom := s.bottom, amt := (-s.amt) })) rfl rfl (by kernel_rfl)) ?_
      have hQ := bindVx hR; clear hR; obtain ⟨rshiftDone1, hrshiftDone1, hR⟩ := hQ
      refine it rfl (tri_callP (L2 := [bx b9 [iv rshiftDone.1, .slice (va r4.q) rshiftDone.2.1.length r4.k, iv rshiftDone.2.2.1, iv rshiftDone.2.2.2.1, bv rshiftDone.2.2.2.2.1, iv rshiftDone.2.2.2.2.2.1, sv rshiftDone.2.2.2.2.2.2.1] 53, bx b2 (cShf s) 55, bx b1 [iv fCols, .slice fRowsq fRows.length fRowsk, iv fCursor.row, iv fCursor.col, bv fVisible, iv fShape, sv fTitle] 53]) (shift_Done_c rshiftDone.1 rshiftDone.2.1 (⟨rshiftDone.2.2.1, rshiftDone.2.2.2.1⟩ : Plc) rshiftDone.2.2.2.2.1 rshiftDone.2.2.2.2.2.1 rshiftDone.2.2.2.2.2.2.1 ({ Shf.zero with top := s.top, bottom := s.bottom, amt := (-s.amt) }) (va r4.q) rs5 r4.k hw7 (by first | omega | (simp only [List.length_take, List.length_drop, List.length_append, List.length_cons, List.length_nil, List.length_set, List.length_map]; omega) | decide) (by first | omega | (simp only [List.length_take, List.length_drop, List.length_append, List.length_cons, List.length_nil, List.length_set, List.length_map]; omega) | decide) (by first | omega | (simp only [List.length_nil]; omega)) rshiftDone1 hrshiftDone1) rfl rfl rfl rfl rfl (Foll.pick [0, 1, 4, 5] rfl) (List.Perm.refl _) (fun ⟨⟨r11, rs12⟩, hp15⟩ => (bx b9 [iv rshiftDone.1, .slice (va r4.q) rshiftDone.2.1.length r4.k, iv rshiftDone.2.2.1, iv rshiftDone.2.2.2.1, bv rshiftDone.2.2.2.2.1, iv rshiftDone.2.2.2.2.2.1, sv rshiftDone.2.2.2.2.2.2.1] 53 :: bx b2 (cShf s) 55 :: bx b1 [iv fCols, .slice fRowsq fRows.length fRowsk, iv fCursor.row, iv fCursor.col, bv fVisible, iv fShape, sv fTitle] 53 :: (vo cSlc 67 r11 rs12) ++ ([]))) (fun ⟨⟨r11, rs12⟩, hp15⟩ => permC [vo cSlc 67 r11 rs12, [bx b9 [iv rshiftDone.1, .slice (va r4.q) rshiftDone.2.1.length r4.k, iv rshiftDone.2.2.1, iv rshiftDone.2.2.2.1, bv rshiftDone.2.2.2.2.1, iv rshiftDone.2.2.2.2.2.1, sv rshiftDone.2.2.2.2.2.2.1] 53], [bx b2 (cShf s) 55], [bx b1 [iv fCols, .slice fRowsq fRows.length fRowsk, iv fCursor.row, iv fCursor.col, bv fVisible, iv fShape, sv fTitle] 53]] [1, 2, 3, 0] 4 rfl (by decide) (by first | rfl | simp only [List.flatten_cons, List.flatten_nil, List.append_nil, List.cons_append, List.nil_append, List.append_assoc]) [[bx b9 [iv rshiftDone.1, .slice (va r4.q) rshiftDone.2.1.length r4.k, iv rshiftDone.2.2.1, iv rshiftDone.2.2.2.1, bv rshiftDone.2.2.2.2.1, iv rshiftDone.2.2.2.2.2.1, sv rshiftDone.2.2.2.2.2.2.1] 53], [bx b2 (cShf s) 55], [bx b1 [iv fCols, .slice fRowsq fRows.length fRowsk, iv fCursor.row, iv fCursor.col, bv fVisible, iv fShape, sv fTitle] 53], vo cSlc 67 r11 rs12] rfl (by first | rfl | simp only [List.flatten_cons, List.flatten_nil, List.append_nil, List.cons_append, List.nil_append, List.append_assoc]))) fun ⟨⟨r11, rs12⟩, hp15⟩ => ?_
      try dsimp only at hp15
      obtain ⟨hk13, hw14⟩ := hp15
      have := VOk.le hk13
      have := VOk.cap hk13
      have := hw14.1
      have := shift_Done_title rshiftDone.1 rshiftDone.2.1 (⟨rshiftDone.2.2.1, rshiftDone.2.2.2.1⟩ : Plc) rshiftDone.2.2.2.2.1 rshiftDone.2.2.2.2.2.1 rshiftDone.2.2.2.2.2.2.1 ({ Shf.zero with top := s.top, bottom := s.bottom, amt := (-s.amt) }); try rw [hrshiftDone1] at this
      refine JI_seal [bx b9 [iv rshiftDone.1, .slice (va r4.q) rshiftDone.2.1.length r4.k, iv rshiftDone.2.2.1, iv rshiftDone.2.2.2.1, bv rshiftDone.2.2.2.2.1, iv rshiftDone.2.2.2.2.2.1, sv rshiftDone.2.2.2.2.2.2.1] 53, bx b2 (cShf s) 55, bx b1 [iv fCols, .slice fRowsq fRows.length fRowsk, iv fCursor.row, iv fCursor.col, bv fVisible, iv fShape, sv fTitle] 53] [] (T := 67) (c := cSlc) (r := r11) (xs := rs12) (VOk.cast hk13 (by rw [hw14.1])) (by first | rfl | simp only [List.cons_append, List.append_assoc, List.nil_append, List.append_nil]) ?_
      refine ip 3 3 [(37, ag [iv rshiftDone1.1, .slice (va r11.q) rshiftDone1.2.1.length r11.k, iv rshiftDone1.2.2.1, iv rshiftDone1.2.2.2.1, bv rshiftDone1.2.2.2.2.1, iv rshiftDone1.2.2.2.2.2.1, sv rshiftDone1.2.2.2.2.2.2.1]), (38, iv rshiftDone1.2.2.2.2.2.2.2)] (by kernel_rfl) ?_
      refine it rfl (tri_alloc (cs := [iv 0, .slice none 0 0, iv 0, iv 0, bv false, iv 0, sv ([] : List UInt8)]) zero53 rfl) fun b16 => ?_
      refine it rfl (tri_store (us := [iv rshiftDone1.1, .slice (va r11.q) rshiftDone1.2.1.length r11.k, iv rshiftDone1.2.2.1, iv rshiftDone1.2.2.2.1, bv rshiftDone1.2.2.2.2.1, iv rshiftDone1.2.2.2.2.2.1, sv rshiftDone1.2.2.2.2.2.2.1]) (cs' := [iv rshiftDone1.1, .slice (va r11.q) rshiftDone1.2.1.length r11.k, iv rshiftDone1.2.2.1, iv rshiftDone1.2.2.2.1, bv rshiftDone1.2.2.2.2.1, iv rshiftDone1.2.2.2.2.2.1, sv rshiftDone1.2.2.2.2.2.2.1]) ty53 rfl rfl rfl 0 rfl rfl rfl rfl rfl rfl) fun _ => ?_
      refine ip 1 0 [(6, iv rshiftDone1.2.2.2.2.2.2.2)] (by kernel_rfl) ?_
      refine ie ?_
      refine J_seq ?_
      refine sr 11 rfl ?_
      refine ip 3 8 [(41, bv (!decide (rshiftDone1.2.2.2.2.2.2.2 = 0)))] (by kernel_rfl) ?_
      refine ior 8 0 41 49 (!decide ((rshiftDone1.2.1.length : Int) = (fRows.length : Int))) rfl (by kernel_rfl) (fun g17 => ?_) ?_
      · have g17p : ¬ (¬ rshiftDone1.2.2.2.2.2.2.2 = 0) := by simpa using g17
        refine ip 1 7 [(42, pt b16 1)] (by kernel_rfl) ?_
        refine ix rfl (det_own_one (v := .slice (va r11.q) rshiftDone1.2.1.length r11.k) ty49 rfl rfl 0 rfl rfl) ?_
        refine ip 2 4 [(44, iv (rshiftDone1.2.1.length : Int)), (45, pt b1 1)] (by kernel_rfl) ?_
        refine ix rfl (det_own_one (v := .slice fRowsq fRows.length fRowsk) ty49 rfl rfl 3 rfl rfl) ?_
        refine ip 3 0 [(49, bv (!decide ((rshiftDone1.2.1.length : Int) = (fRows.length : Int))))] (by kernel_rfl) ?_
        exact JI_end (armI 7 41 49 g17 Foll.refl (mk [true, true, true, true] rfl) rfl rfl rfl rfl rfl)
      refine ie ?_
      refine J_if rfl (fun h18 => ?_) (fun h18 => ?_)
      · have h18p : (¬ rshiftDone1.2.2.2.2.2.2.2 = 0) ∨ (¬ (rshiftDone1.2.1.length : Int) = (fRows.length : Int)) := by simpa using h18
        replace hR := bt hR h18
        refine sr 1 rfl ?_
        refine ip 1 0 [(4, bv false)] (by kernel_rfl) ?_
        refine ie ?_
        refine J_ret ?_
        subst hR
        exact ends_ret rfl ⟨hr, hD⟩ (by simp [hD]) (res1 rfl (resV_tmp rfl)) () (by rfl) (mk [false, false, false, false] rfl) Foll.nil
      · have h18p : ¬ ((¬ rshiftDone1.2.2.2.2.2.2.2 = 0) ∨ (¬ (rshiftDone1.2.1.length : Int) = (fRows.length : Int))) := by simpa using h18
        replace hR := bf hR h18
        have hz1 : rshiftDone1.2.2.2.2.2.2.2 = 0 ∧ (rshiftDone1.2.1.length : Int) = fRows.length := by simpa using h18
        obtain ⟨hf1, hs1, o1, ho1, hol1, hor1⟩ := shift_Done_ok hrshiftDone1 hz1.1
        have hfc1 := frame_Check_ok hf1
        have hd1 : rshiftDone1.2.1 = o1 := by rw [ho1]
        have hxr : ∀ r, r < fRows.length → ((rshiftDone1.2.1.getD r []).length : Int) = fCols := fun r hr => by rw [hd1, hor1 r (by rw [hd0.2]; omega), shRow_len (by omega) hfc1.2.2.2.2 hs1 (by rw [hd0.2]; omega)]; exact hd0.1
        refine J_skip ?_
        refine nx ?_
        refine J_seq ?_
        refine sr 4 rfl ?_
        refine ip 1 3 [(50, pt b1 1)] (by kernel_rfl) ?_
        refine ix rfl (det_own_one (v := .slice fRowsq fRows.length fRowsk) ty49 rfl rfl 3 rfl rfl) ?_
        refine ip 2 0 [(52, iv (fRows.length : Int)), (53, iv 0)] (by kernel_rfl) ?_
        refine ie ?_
        refine J_block ?_
        refine JL1 (fun (t53 : Nat) => t53 ≤ fRows.length ∧ law28_ShiftBack_l2 s rshiftDone1 (fRows.drop t53) t53 = R) (fun (t53 : Nat) => [(2, pt b1 0), (3, pt b2 0), (7, pt b16 0), (52, iv (fRows.length : Int)), (53, iv (t53 : Int))]) (fun (t53 : Nat) => [bx b16 [iv rshiftDone1.1, .slice (va r11.q) rshiftDone1.2.1.length r11.k, iv rshiftDone1.2.2.1, iv rshiftDone1.2.2.2.1, bv rshiftDone1.2.2.2.2.1, iv rshiftDone1.2.2.2.2.2.1, sv rshiftDone1.2.2.2.2.2.2.1] 53, bx b9 [iv rshiftDone.1, .slice (va r4.q) rshiftDone.2.1.length r4.k, iv rshiftDone.2.2.1, iv rshiftDone.2.2.2.1, bv rshiftDone.2.2.2.2.1, iv rshiftDone.2.2.2.2.2.1, sv rshiftDone.2.2.2.2.2.2.1] 53, bx b2 (cShf s) 55, bx b1 [iv fCols, .slice fRowsq fRows.length fRowsk, iv fCursor.row, iv fCursor.col, bv fVisible, iv fShape, sv fTitle] 53]) (fun (t53 : Nat) => [sl cSlc (va r11.q) rs12, rowsF cCel rs12 rshiftDone1.2.1, sl cSlc (va r4.q) rs5, rowsF cCel rs5 rshiftDone.2.1, sl cSlc fRowsq fRowsrs, rowsF cCel fRowsrs fRows, sl cSpn (some ⟨0, 0, none⟩) tab0, sl cSpn (some ⟨1, 0, none⟩) tab1]) (fun (t53 : Nat) => fRows.length - t53) 0 ⟨(by omega), hR⟩ ⟨rfl, rfl, rfl, rfl, (by first | rfl | (simp only [List.length_set, List.length_append, List.length_cons, List.length_nil]; rfl) | simp | (simp; omega)), trivial⟩ (mk [true, true, true, true] rfl) Foll.refl ?_
        rintro t53 ⟨hm19, hR⟩
        refine sr 1 rfl ?_
        refine ip 1 0 [(54, bv (decide ((t53 : Int) < (fRows.length : Int))))] (by kernel_rfl) ?_
        refine ie ?_
        refine J_seq ?_
        refine J_if rfl (fun h20 => ?_) (fun h20 => ?_)
        · have h20p : (t53 : Int) < (fRows.length : Int) := by simpa using h20
          rw [dropc [] (show t53 < fRows.length by omega)] at hR; replace hR := (law28_ShiftBack_l2.eq_2 ..).symm.trans hR
          refine J_skip ?_
          refine nx ?_
          refine J_seq ?_
          refine J_block ?_
          refine sr 2 rfl ?_
          refine ip 2 0 [(8, iv (t53 : Int))] (by kernel_rfl) ?_
          refine ie ?_
          refine sr 5 rfl ?_
          refine ip 2 3 [(56, iv (t53 : Int)), (57, pt b2 2)] (by kernel_rfl) ?_
          refine ix rfl (det_own_one (v := iv s.amt) ty3 rfl rfl 2 rfl rfl) ?_
          refine ix rfl (DetR.pure rfl) ?_
          refine ip 1 0 [(9, iv (IntKind.i64.wrap ((t53 : Int) - s.amt)))] (by kernel_rfl) ?_
          refine ie ?_
          refine J_seq ?_
          refine sr 22 rfl ?_
          refine ip 2 20 [(60, iv (t53 : Int)), (61, pt b2 0)] (by kernel_rfl) ?_
          refine ix rfl (det_own_one (v := iv s.top) ty3 rfl rfl 2 rfl rfl) ?_
          refine ip 2 17 [(64, bv (decide (s.top ≤ (t53 : Int))))] (by kernel_rfl) ?_
          refine iand 5 12 64 69 (decide ((t53 : Int) ≤ s.bottom)) rfl (by kernel_rfl) (fun g21 => ?_) ?_
          · have g21p : s.top ≤ (t53 : Int) := by simpa using g21
            refine ip 2 3 [(65, iv (t53 : Int)), (66, pt b2 1)] (by kernel_rfl) ?_
            refine ix rfl (det_own_one (v := iv s.bottom) ty3 rfl rfl 2 rfl rfl) ?_
            refine ip 2 0 [(69, bv (decide ((t53 : Int) ≤ s.bottom)))] (by kernel_rfl) ?_
            exact JI_end (armI 5 64 69 g21 Foll.refl (mk [true, true, true, true] rfl) rfl rfl rfl rfl rfl)
          refine ip 1 11 [(70, bv ((decide (s.top ≤ (t53 : Int))) && (decide ((t53 : Int) ≤ s.bottom))))] (by kernel_rfl) ?_
          refine iand 11 0 70 81 ((decide ((IntKind.i64.wrap ((t53 : Int) - s.amt)) < s.top)) || (decide (s.bottom < (IntKind.i64.wrap ((t53 : Int) - s.amt))))) rfl (by kernel_rfl) (fun g22 => ?_) ?_
          · have g22p : (s.top ≤ (t53 : Int)) ∧ ((t53 : Int) ≤ s.bottom) := by simpa using g22
            refine ip 2 9 [(71, iv (IntKind.i64.wrap ((t53 : Int) - s.amt))), (72, pt b2 0)] (by kernel_rfl) ?_
            refine ix rfl (det_own_one (v := iv s.top) ty3 rfl rfl 2 rfl rfl) ?_
            refine ip 2 6 [(75, bv (decide ((IntKind.i64.wrap ((t53 : Int) - s.amt)) < s.top)))] (by kernel_rfl) ?_
            refine ior 5 1 75 80 (decide (s.bottom < (IntKind.i64.wrap ((t53 : Int) - s.amt)))) rfl (by kernel_rfl) (fun g23 => ?_) ?_
            · have g23p : ¬ ((IntKind.i64.wrap ((t53 : Int) - s.amt)) < s.top) := by simpa using g23
              refine ip 2 3 [(76, iv (IntKind.i64.wrap ((t53 : Int) - s.amt))), (77, pt b2 1)] (by kernel_rfl) ?_
              refine ix rfl (det_own_one (v := iv s.bottom) ty3 rfl rfl 2 rfl rfl) ?_
              refine ip 2 0 [(80, bv (decide (s.bottom < (IntKind.i64.wrap ((t53 : Int) - s.amt)))))] (by kernel_rfl) ?_
              exact JI_end (armI 5 75 80 g23 Foll.refl (mk [true, true, true, true] rfl) rfl rfl rfl rfl rfl)
            refine ip 1 0 [(81, bv ((decide ((IntKind.i64.wrap ((t53 : Int) - s.amt)) < s.top)) || (decide (s.bottom < (IntKind.i64.wrap ((t53 : Int) - s.amt))))))] (by kernel_rfl) ?_
            exact JI_end (armI 7 70 81 g22 Foll.refl (mk [true, true, true, true] rfl) rfl rfl rfl rfl rfl)
          refine ie ?_
          refine J_if rfl (fun h24 => ?_) (fun h24 => ?_)
          · have h24p : ((s.top ≤ (t53 : Int)) ∧ ((t53 : Int) ≤ s.bottom)) ∧ (((IntKind.i64.wrap ((t53 : Int) - s.amt)) < s.top) ∨ (s.bottom < (IntKind.i64.wrap ((t53 : Int) - s.amt)))) := by simpa using h24
            replace hR := bt hR h24
            refine J_exit ?_
            refine nx ?_
            refine J_region 2 rfl ?_
            refine ix rfl (det_add64 rfl rfl rfl rfl (by omega)) ?_
            refine ip 1 0 [(53, iv ((t53 : Int) + 1))] (by kernel_rfl) ?_
            refine JI_end ?_
            exact againL1 (z1 := t53) (t53 + 1) ⟨(by omega), hR⟩ (by (try dsimp only); omega) ⟨rfl, rfl, rfl, rfl, (by first | rfl | (simp only [List.length_set, List.length_append, List.length_cons, List.length_nil]; rfl) | simp | (simp; omega)), trivial⟩ (mk [true, true, true, true] rfl) Foll.refl
          · have h24p : ¬ (((s.top ≤ (t53 : Int)) ∧ ((t53 : Int) ≤ s.bottom)) ∧ (((IntKind.i64.wrap ((t53 : Int) - s.amt)) < s.top) ∨ (s.bottom < (IntKind.i64.wrap ((t53 : Int) - s.amt))))) := by simpa using h24
            replace hR := bf hR h24
            refine J_skip ?_
            refine nx ?_
            refine sr 7 rfl ?_
            refine ip 1 6 [(82, pt b1 1)] (by kernel_rfl) ?_
            refine ix rfl (det_own_one (v := .slice fRowsq fRows.length fRowsk) ty49 rfl rfl 3 rfl rfl) ?_
            refine ip 1 4 [(84, iv (t53 : Int))] (by kernel_rfl) ?_
            refine JI_base 4 rfl (by omega) fun a25 hq26 => ?_
            refine JI_fact1 (rows_atD (k := t53) (d := (⟨none, 0, 0⟩ : Slc)) hrowsfRowsrs 5 rfl (by have := hrowsfRowsrs.1; omega)) ?_
            have := rows_cap hrowsfRowsrs (k := t53) (d := (⟨none, 0, 0⟩ : Slc)) (by have := hrowsfRowsrs.1; omega)
            refine ix rfl (det_ixq slt49 rfl rfl hq26 rfl t53 rfl (by omega)) ?_
            refine ix rfl (det_conv (det_ld_one (v := .slice ((fRowsrs.getD t53 (⟨none, 0, 0⟩ : Slc)).q) ((fRowsrs.getD t53 (⟨none, 0, 0⟩ : Slc)).n) ((fRowsrs.getD t53 (⟨none, 0, 0⟩ : Slc)).k)) (us := [.slice ((fRowsrs.getD t53 (⟨none, 0, 0⟩ : Slc)).q) ((fRowsrs.getD t53 (⟨none, 0, 0⟩ : Slc)).n) ((fRowsrs.getD t53 (⟨none, 0, 0⟩ : Slc)).k)]) ty67 rfl rfl (at_slq (c := cSlc) (sz := 1) hq26 (fun _ => rfl) 5 rfl (gd (⟨none, 0, 0⟩ : Slc) (by have := hrowsfRowsrs.1; omega))) rfl) (rows_val hrowsfRowsrs (by have := hrowsfRowsrs.1; omega))) ?_
            refine ip 2 0 [(87, iv ((fRows.getD t53 []).length : Int)), (88, iv 0)] (by kernel_rfl) ?_
            refine ie ?_
            refine J_block ?_
            refine JL1 (fun (t88 : Nat) => t88 ≤ (fRows.getD t53 []).length ∧ law28_ShiftBack_l3 rshiftDone1 t53 (law28_ShiftBack_l2 s rshiftDone1 (fRows.drop (t53 + 1))) ((fRows.getD t53 []).drop t88) t88 = R) (fun (t88 : Nat) => [(2, pt b1 0), (3, pt b2 0), (7, pt b16 0), (8, iv (t53 : Int)), (52, iv (fRows.length : Int)), (53, iv (t53 : Int)), (86, .slice ((fRowsrs.getD t53 (⟨none, 0, 0⟩ : Slc)).q) ((fRows.getD t53 []).length) ((fRowsrs.getD t53 (⟨none, 0, 0⟩ : Slc)).k)), (87, iv ((fRows.getD t53 []).length : Int)), (88, iv (t88 : Int))]) (fun (t88 : Nat) => [bx b16 [iv rshiftDone1.1, .slice (va r11.q) rshiftDone1.2.1.length r11.k, iv rshiftDone1.2.2.1, iv rshiftDone1.2.2.2.1, bv rshiftDone1.2.2.2.2.1, iv rshiftDone1.2.2.2.2.2.1, sv rshiftDone1.2.2.2.2.2.2.1] 53, bx b9 [iv rshiftDone.1, .slice (va r4.q) rshiftDone.2.1.length r4.k, iv rshiftDone.2.2.1, iv rshiftDone.2.2.2.1, bv rshiftDone.2.2.2.2.1, iv rshiftDone.2.2.2.2.2.1, sv rshiftDone.2.2.2.2.2.2.1] 53, bx b2 (cShf s) 55, bx b1 [iv fCols, .slice fRowsq fRows.length fRowsk, iv fCursor.row, iv fCursor.col, bv fVisible, iv fShape, sv fTitle] 53]) (fun (t88 : Nat) => [sl cCel ((fRowsrs.getD t53 (⟨none, 0, 0⟩ : Slc)).q) (fRows.getD t53 []), sl cSlc (va r11.q) rs12, rowsF cCel rs12 rshiftDone1.2.1, sl cSlc (va r4.q) rs5, rowsF cCel rs5 rshiftDone.2.1, sl cSlc fRowsq fRowsrs, rowsF cCel fRowsrs fRows, sl cSpn (some ⟨0, 0, none⟩) tab0, sl cSpn (some ⟨1, 0, none⟩) tab1]) (fun (t88 : Nat) => (fRows.getD t53 []).length - t88) 0 ⟨(by omega), hR⟩ ⟨rfl, rfl, rfl, rfl, rfl, rfl, rfl, rfl, (by first | rfl | (simp only [List.length_set, List.length_append, List.length_cons, List.length_nil]; rfl) | simp | (simp; omega)), trivial⟩ (mk [true, true, true, true] rfl) Foll.refl ?_
            rintro t88 ⟨hm27, hR⟩
            have hx1 := hxr t53 (by omega)
            have hx2 := hfc.2.2.2.2 t53 (by omega)
            refine sr 1 rfl ?_
            refine ip 1 0 [(89, bv (decide ((t88 : Int) < ((fRows.getD t53 []).length : Int))))] (by kernel_rfl) ?_
            refine ie ?_
            refine J_seq ?_
            refine J_if rfl (fun h28 => ?_) (fun h28 => ?_)
            · have h28p : (t88 : Int) < ((fRows.getD t53 []).length : Int) := by simpa using h28
              rw [dropc Cel.zero (show t88 < (fRows.getD t53 []).length by omega)] at hR; replace hR := (law28_ShiftBack_l3.eq_2 ..).symm.trans hR
              refine J_skip ?_
              refine nx ?_
              refine J_seq ?_
              refine J_block ?_
              refine sr 6 rfl ?_
              refine ip 1 5 [(90, iv (t88 : Int))] (by kernel_rfl) ?_
              refine JI_base 0 rfl (by omega) fun a29 hq30 => ?_
              refine ix rfl (det_ixq slt67 rfl rfl hq30 rfl t88 rfl (by omega)) ?_
              refine ix rfl (det_ld_agg (us := cCel ((fRows.getD t53 []).getD t88 Cel.zero)) ty72 rfl rfl (at_slq (c := cCel) (sz := 12) hq30 (fun _ => rfl) 0 rfl (gd Cel.zero (by omega))) rfl) ?_
              refine it rfl (tri_alloc (cs := cCel Cel.zero) zero72 rfl) fun b31 => ?_
              refine ip 1 1 [(10, iv (t88 : Int))] (by kernel_rfl) ?_
              refine it rfl (tri_store (us := cCel ((fRows.getD t53 []).getD t88 Cel.zero)) (cs' := cCel ((fRows.getD t53 []).getD t88 Cel.zero)) ty72 rfl rfl rfl 0 rfl rfl rfl rfl rfl rfl) fun _ => ?_
              refine ie ?_
              refine sd 10 rfl (by kernel_rfl) rfl ?_
              refine dp 1 9 [(93, pt b16 1)] (by kernel_rfl) ?_
              refine dd rfl (det_own_one (v := .slice (va r11.q) rshiftDone1.2.1.length r11.k) ty49 rfl rfl 1 rfl rfl) ?_
              refine dp 1 7 [(95, iv (t53 : Int))] (by kernel_rfl) ?_
              refine JD_base 1 rfl (by omega) fun a32 hq33 => ?_
              refine JD_fact1 (rows_atD (k := t53) (d := (⟨none, 0, 0⟩ : Slc)) hw14 2 rfl (by have := hw14.1; omega)) ?_
              have := rows_cap hw14 (k := t53) (d := (⟨none, 0, 0⟩ : Slc)) (by have := hw14.1; omega)
              refine dd rfl (det_ixq slt49 rfl rfl hq33 rfl t53 rfl (by omega)) ?_
              refine dd rfl (det_conv (det_ld_one (v := .slice ((rs12.getD t53 (⟨none, 0, 0⟩ : Slc)).q) ((rs12.getD t53 (⟨none, 0, 0⟩ : Slc)).n) ((rs12.getD t53 (⟨none, 0, 0⟩ : Slc)).k)) (us := [.slice ((rs12.getD t53 (⟨none, 0, 0⟩ : Slc)).q) ((rs12.getD t53 (⟨none, 0, 0⟩ : Slc)).n) ((rs12.getD t53 (⟨none, 0, 0⟩ : Slc)).k)]) ty67 rfl rfl (at_slq (c := cSlc) (sz := 1) hq33 (fun _ => rfl) 2 rfl (gd (⟨none, 0, 0⟩ : Slc) (by have := hw14.1; omega))) rfl) (rows_val hw14 (by have := hw14.1; omega))) ?_
              refine dp 1 4 [(98, iv (t88 : Int))] (by kernel_rfl) ?_
              refine JD_base 0 rfl (by omega) fun a34 hq35 => ?_
              refine dd rfl (det_ixq slt67 rfl rfl hq35 rfl t88 rfl (by omega)) ?_
              refine dd rfl (det_ld_agg (us := cCel ((rshiftDone1.2.1.getD t53 []).getD t88 Cel.zero)) ty72 rfl rfl (at_slq (c := cCel) (sz := 12) hq35 (fun _ => rfl) 0 rfl (gd Cel.zero (by omega))) rfl) ?_
              refine dd rfl (det_own_agg (us := cCel ((fRows.getD t53 []).getD t88 Cel.zero)) ty72 rfl rfl 0 rfl rfl rfl) ?_
              refine dd rfl (det_nes (a := ((rshiftDone1.2.1.getD t53 []).getD t88 Cel.zero)) (b := ((fRows.getD t53 []).getD t88 Cel.zero)) eqt72 rfl rfl rfl) ?_
              refine de ?_
              refine J_if rfl (fun h36 => ?_) (fun h36 => ?_)
              · have h36p : ¬ ((rshiftDone1.2.1.getD t53 []).getD t88 Cel.zero) = ((fRows.getD t53 []).getD t88 Cel.zero) := by simpa using h36
                replace hR := bt hR h36
                refine sr 1 rfl ?_
                refine ip 1 0 [(4, bv false)] (by kernel_rfl) ?_
                refine ie ?_
                refine J_ret ?_
                subst hR
                exact ends_ret rfl ⟨hr, hD⟩ (by simp [hD]) (res1 rfl (resV_tmp rfl)) () (by rfl) (mk [false, false, false, false, false] rfl) Foll.nil
              · have h36p : ¬ (¬ ((rshiftDone1.2.1.getD t53 []).getD t88 Cel.zero) = ((fRows.getD t53 []).getD t88 Cel.zero)) := by simpa using h36
                replace hR := bf hR h36
                refine J_skip ?_
                refine nx ?_
                refine J_region 2 rfl ?_
                refine ix rfl (det_add64 rfl rfl rfl rfl (by omega)) ?_
                refine ip 1 0 [(88, iv ((t88 : Int) + 1))] (by kernel_rfl) ?_
                refine JI_end ?_
                exact againL1 (z1 := t88) (t88 + 1) ⟨(by omega), hR⟩ (by (try dsimp only); omega) ⟨rfl, rfl, rfl, rfl, rfl, rfl, rfl, rfl, (by first | rfl | (simp only [List.length_set, List.length_append, List.length_cons, List.length_nil]; rfl) | simp | (simp; omega)), trivial⟩ (mk [false, true, true, true, true] rfl) (Foll.pick [1, 2, 3, 4, 5, 6, 7, 8, 9] rfl)
            · have h28p : ¬ ((t88 : Int) < ((fRows.getD t53 []).length : Int)) := by simpa using h28
              rw [dropn h28p] at hR; replace hR := (law28_ShiftBack_l3.eq_1 ..).symm.trans hR
              refine J_exit ?_
              refine nx ?_
              refine J_region 2 rfl ?_
              refine ix rfl (det_add64 rfl rfl rfl rfl (by omega)) ?_
              refine ip 1 0 [(53, iv ((t53 : Int) + 1))] (by kernel_rfl) ?_
              refine JI_end ?_
              exact againL1 (z1 := t53) (t53 + 1) ⟨(by omega), hR⟩ (by (try dsimp only); omega) ⟨rfl, rfl, rfl, rfl, (by first | rfl | (simp only [List.length_set, List.length_append, List.length_cons, List.length_nil]; rfl) | simp | (simp; omega)), trivial⟩ (mk [true, true, true, true] rfl) (Foll.pick [1, 2, 3, 4, 5, 6, 7, 8] rfl)
        · have h20p : ¬ ((t53 : Int) < (fRows.length : Int)) := by simpa using h20
          rw [dropn h20p] at hR; replace hR := (law28_ShiftBack_l2.eq_1 ..).symm.trans hR
          refine J_exit ?_
          refine nx ?_
          refine sr 1 rfl ?_
          refine ip 1 0 [(4, bv true)] (by kernel_rfl) ?_
          refine ie ?_
          refine J_ret ?_
          subst hR
          exact ends_ret rfl ⟨hr, hD⟩ (by simp [hD]) (res1 rfl (resV_tmp rfl)) () (by rfl) (mk [false, false, false, false] rfl) Foll.nil

end Go.Proofs.YtinkdfnpmoljfaaGreatDoor

