import Derived.Test.YtlcaphkcfmlljaaGreatDoorD2
import Derived.Test.YtlcaphkcfmlljaaGreatDoorFenV
import Derived.Test.YtlcaphkcfmlljaaGreatDoorProg
import Derived.Test.YtlcaphkcfmlljaaGreatDoorT4a
import Derived.Test.YtlcaphkcfmlljaaGreatDoorT4b
import Derived.Test.YtlcaphkcfmlljaaGreatDoorT4c
set_option linter.unusedVariables false
set_option linter.unusedSimpArgs false
set_option linter.unnecessarySimpa false
namespace Go.Proofs.YtlcaphkcfmlljaaGreatDoor
open Go Go.Fen

def slices_Equal_api_Cell_api_Cell_l0 (s2 : List Cel) : List Cel → Nat → Bool
  | [], t13 => true
  | hd_l0 :: tl_l0, t13 => (bif (!(decide (hd_l0 = (s2.getD t13 Cel.zero)))) then false else slices_Equal_api_Cell_api_Cell_l0 s2 tl_l0 (t13 + 1))
def slices_Equal_api_Cell_api_Cell (s1 : List Cel) (s2 : List Cel) : Bool :=
  (bif (!decide ((s1.length : Int) = (s2.length : Int))) then false else slices_Equal_api_Cell_api_Cell_l0 s2 s1 0)

set_option maxRecDepth 100000 in
theorem slices_Equal_api_Cell_api_Cell_c (s1 : List Cel) (s2 : List Cel) (s1q : Option Addr) (s1k : Nat) (s2q : Option Addr) (s2k : Nat) (hls1 : s1.length ≤ 9223372036854775807) (hcs1 : s1.length ≤ s1k) (hls2 : s2.length ≤ 9223372036854775807) (hcs2 : s2.length ≤ s2k) (R : Bool) (hR : slices_Equal_api_Cell_api_Cell s1 s2 = R) : ConV Tryz.prog 76 [.slice s1q s1.length s1k, .slice s2q s2.length s2k] [sl cCel s1q s1, sl cCel s2q s2] (bv R) := by
  refine con_of_J (n := 26) Tryz.func76 rfl (by kernel_rfl) rfl rfl [(0, .slice s1q s1.length s1k), (1, .slice s2q s2.length s2k)] ⟨rfl, rfl, trivial⟩ fun X hX hr hD => ?_
  replace hR := (slices_Equal_api_Cell_api_Cell.eq_1 ..).symm.trans hR
  refine sr 1 rfl ?_
  refine ip 1 0 [] (by kernel_rfl) ?_
  refine ie ?_
  refine J_seq ?_
  refine sr 5 rfl ?_
  refine ip 5 0 [(10, bv (!decide ((s1.length : Int) = (s2.length : Int))))] (by kernel_rfl) ?_
  refine ie ?_
  refine J_if rfl (fun h1 => ?_) (fun h1 => ?_)
  · have h1p : ¬ (s1.length : Int) = (s2.length : Int) := by simpa using h1
    replace hR := bt hR h1
    refine sr 1 rfl ?_
    refine ip 1 0 [(4, bv false)] (by kernel_rfl) ?_
    refine ie ?_
    refine J_ret ?_
    subst hR
    exact ends_ret rfl ⟨hr, hD⟩ (by simp [hD]) (res1 rfl (resV_tmp rfl)) () (by rfl) (mk [] rfl) Foll.nil
  · have h1p : ¬ (¬ (s1.length : Int) = (s2.length : Int)) := by simpa using h1
    replace hR := bf hR h1
    refine J_skip ?_
    refine nx ?_
    refine J_seq ?_
    refine sr 3 rfl ?_
    refine ip 3 0 [(12, iv (s1.length : Int)), (13, iv 0)] (by kernel_rfl) ?_
    refine ie ?_
    refine J_block ?_
    refine JL1 (fun (t13 : Nat) => t13 ≤ s1.length ∧ slices_Equal_api_Cell_api_Cell_l0 s2 (s1.drop t13) t13 = R) (fun (t13 : Nat) => [(0, .slice s1q s1.length s1k), (1, .slice s2q s2.length s2k), (12, iv (s1.length : Int)), (13, iv (t13 : Int))]) (fun (t13 : Nat) => []) (fun (t13 : Nat) => [sl cCel s1q s1, sl cCel s2q s2]) (fun (t13 : Nat) => s1.length - t13) 0 ⟨(by omega), hR⟩ ⟨rfl, rfl, rfl, (by first | rfl | (simp only [List.length_set, List.length_append, List.length_cons, List.length_nil]; rfl) | simp | (simp; omega)), trivial⟩ (mk [] rfl) Foll.refl ?_
    rintro t13 ⟨hm2, hR⟩
    refine sr 1 rfl ?_
    refine ip 1 0 [(14, bv (decide ((t13 : Int) < (s1.length : Int))))] (by kernel_rfl) ?_
    refine ie ?_
    refine J_seq ?_
    refine J_if rfl (fun h3 => ?_) (fun h3 => ?_)
    · have h3p : (t13 : Int) < (s1.length : Int) := by simpa using h3
      rw [dropc Cel.zero (show t13 < s1.length by omega)] at hR; replace hR := (slices_Equal_api_Cell_api_Cell_l0.eq_2 ..).symm.trans hR
      refine J_skip ?_
      refine nx ?_
      refine J_seq ?_
      refine J_block ?_
      refine sr 2 rfl ?_
      refine ip 2 0 [(5, iv (t13 : Int))] (by kernel_rfl) ?_
      refine ie ?_
      refine sd 9 rfl (by kernel_rfl) rfl ?_
      refine dp 2 7 [(16, .slice s1q s1.length s1k), (17, iv (t13 : Int))] (by kernel_rfl) ?_
      refine JD_base 0 rfl (by omega) fun a4 hq5 => ?_
      refine dd rfl (det_ixq slt74 rfl rfl hq5 rfl t13 rfl (by omega)) ?_
      refine dd rfl (det_ld_agg (us := cCel (s1.getD t13 Cel.zero)) ty79 rfl rfl (at_slq (c := cCel) (sz := 12) hq5 (fun _ => rfl) 0 rfl (gd Cel.zero (by omega))) rfl) ?_
      refine dp 2 3 [(20, .slice s2q s2.length s2k), (21, iv (t13 : Int))] (by kernel_rfl) ?_
      refine JD_base 1 rfl (by omega) fun a6 hq7 => ?_
      refine dd rfl (det_ixq slt74 rfl rfl hq7 rfl t13 rfl (by omega)) ?_
      refine dd rfl (det_ld_agg (us := cCel (s2.getD t13 Cel.zero)) ty79 rfl rfl (at_slq (c := cCel) (sz := 12) hq7 (fun _ => rfl) 1 rfl (gd Cel.zero (by omega))) rfl) ?_
      refine dd rfl (det_nes (a := (s1.getD t13 Cel.zero)) (b := (s2.getD t13 Cel.zero)) eqt79 rfl rfl rfl) ?_
      refine de ?_
      refine J_if rfl (fun h8 => ?_) (fun h8 => ?_)
      · have h8p : ¬ (s1.getD t13 Cel.zero) = (s2.getD t13 Cel.zero) := by simpa using h8
        replace hR := bt hR h8
        refine sr 1 rfl ?_
        refine ip 1 0 [(4, bv false)] (by kernel_rfl) ?_
        refine ie ?_
        refine J_ret ?_
        subst hR
        exact ends_ret rfl ⟨hr, hD⟩ (by simp [hD]) (res1 rfl (resV_tmp rfl)) () (by rfl) (mk [] rfl) Foll.nil
      · have h8p : ¬ (¬ (s1.getD t13 Cel.zero) = (s2.getD t13 Cel.zero)) := by simpa using h8
        replace hR := bf hR h8
        refine J_skip ?_
        refine nx ?_
        refine J_region 2 rfl ?_
        refine ix rfl (det_add64 rfl rfl rfl rfl (by omega)) ?_
        refine ip 1 0 [(13, iv ((t13 : Int) + 1))] (by kernel_rfl) ?_
        refine JI_end ?_
        exact againL1 (z1 := t13) (t13 + 1) ⟨(by omega), hR⟩ (by (try dsimp only); omega) ⟨rfl, rfl, rfl, (by first | rfl | (simp only [List.length_set, List.length_append, List.length_cons, List.length_nil]; rfl) | simp | (simp; omega)), trivial⟩ (mk [] rfl) Foll.refl
    · have h3p : ¬ ((t13 : Int) < (s1.length : Int)) := by simpa using h3
      rw [dropn h3p] at hR; replace hR := (slices_Equal_api_Cell_api_Cell_l0.eq_1 ..).symm.trans hR
      refine J_exit ?_
      refine nx ?_
      refine sr 1 rfl ?_
      refine ip 1 0 [(4, bv true)] (by kernel_rfl) ?_
      refine ie ?_
      refine J_ret ?_
      subst hR
      exact ends_ret rfl ⟨hr, hD⟩ (by simp [hD]) (res1 rfl (resV_tmp rfl)) () (by rfl) (mk [] rfl) Foll.nil

def slices_EqualFunc_api_Cell_api_Cell_api_Cell_api_Cell_l0 (s2 : List (List Cel)) : List (List Cel) → Nat → Bool
  | [], t17 => true
  | hd_l0 :: tl_l0, t17 => (bif (!(slices_Equal_api_Cell_api_Cell hd_l0 (s2.getD t17 []))) then false else slices_EqualFunc_api_Cell_api_Cell_api_Cell_api_Cell_l0 s2 tl_l0 (t17 + 1))
def slices_EqualFunc_api_Cell_api_Cell_api_Cell_api_Cell (s1 : List (List Cel)) (s2 : List (List Cel)) : Bool :=
  (bif (!decide ((s1.length : Int) = (s2.length : Int))) then false else slices_EqualFunc_api_Cell_api_Cell_api_Cell_api_Cell_l0 s2 s1 0)

set_option maxRecDepth 100000 in
theorem slices_EqualFunc_api_Cell_api_Cell_api_Cell_api_Cell_c (s1 : List (List Cel)) (s2 : List (List Cel)) (s1q : Option Addr) (s1rs : List Slc) (s1k : Nat) (s2q : Option Addr) (s2rs : List Slc) (s2k : Nat) (hrowss1rs : RowsOk s1rs s1) (hls1 : s1.length ≤ 9223372036854775807) (hcs1 : s1.length ≤ s1k) (hrowss2rs : RowsOk s2rs s2) (hls2 : s2.length ≤ 9223372036854775807) (hcs2 : s2.length ≤ s2k) (R : Bool) (hR : slices_EqualFunc_api_Cell_api_Cell_api_Cell_api_Cell s1 s2 = R) : ConV Tryz.prog 75 [.slice s1q s1.length s1k, .slice s2q s2.length s2k, .func (.func 76) #[] #[]] [sl cSlc s1q s1rs, rowsF cCel s1rs s1, sl cSlc s2q s2rs, rowsF cCel s2rs s2] (bv R) := by
  refine con_of_J (n := 32) Tryz.func75 rfl (by kernel_rfl) rfl rfl [(0, .slice s1q s1.length s1k), (1, .slice s2q s2.length s2k), (2, .func (.func 76) #[] #[])] ⟨rfl, rfl, rfl, trivial⟩ fun X hX hr hD => ?_
  replace hR := (slices_EqualFunc_api_Cell_api_Cell_api_Cell_api_Cell.eq_1 ..).symm.trans hR
  have := hrowss1rs.1
  have := hrowss2rs.1
  refine sr 1 rfl ?_
  refine ip 1 0 [] (by kernel_rfl) ?_
  refine ie ?_
  refine J_seq ?_
  refine sr 5 rfl ?_
  refine ip 5 0 [(14, bv (!decide ((s1.length : Int) = (s2.length : Int))))] (by kernel_rfl) ?_
  refine ie ?_
  refine J_if rfl (fun h1 => ?_) (fun h1 => ?_)
  · have h1p : ¬ (s1.length : Int) = (s2.length : Int) := by simpa using h1
    replace hR := bt hR h1
    refine sr 1 rfl ?_
    refine ip 1 0 [(6, bv false)] (by kernel_rfl) ?_
    refine ie ?_
    refine J_ret ?_
    subst hR
    exact ends_ret rfl ⟨hr, hD⟩ (by simp [hD]) (res1 rfl (resV_tmp rfl)) () (by rfl) (mk [] rfl) Foll.nil
  · have h1p : ¬ (¬ (s1.length : Int) = (s2.length : Int)) := by simpa using h1
    replace hR := bf hR h1
    refine J_skip ?_
    refine nx ?_
    refine J_seq ?_
    refine sr 3 rfl ?_
    refine ip 3 0 [(15, .slice s1q s1.length s1k), (16, iv (s1.length : Int)), (17, iv 0)] (by kernel_rfl) ?_
    refine ie ?_
    refine J_block ?_
    refine JL1 (fun (t17 : Nat) => t17 ≤ s1.length ∧ slices_EqualFunc_api_Cell_api_Cell_api_Cell_api_Cell_l0 s2 (s1.drop t17) t17 = R) (fun (t17 : Nat) => [(1, .slice s2q s2.length s2k), (2, .func (.func 76) #[] #[]), (15, .slice s1q s1.length s1k), (16, iv (s1.length : Int)), (17, iv (t17 : Int))]) (fun (t17 : Nat) => []) (fun (t17 : Nat) => [sl cSlc s1q s1rs, rowsF cCel s1rs s1, sl cSlc s2q s2rs, rowsF cCel s2rs s2]) (fun (t17 : Nat) => s1.length - t17) 0 ⟨(by omega), hR⟩ ⟨rfl, rfl, rfl, rfl, (by first | rfl | (simp only [List.length_set, List.length_append, List.length_cons, List.length_nil]; rfl) | simp | (simp; omega)), trivial⟩ (mk [] rfl) Foll.refl ?_
    rintro t17 ⟨hm2, hR⟩
    refine sr 1 rfl ?_
    refine ip 1 0 [(18, bv (decide ((t17 : Int) < (s1.length : Int))))] (by kernel_rfl) ?_
    refine ie ?_
    refine J_seq ?_
    refine J_if rfl (fun h3 => ?_) (fun h3 => ?_)
    · have h3p : (t17 : Int) < (s1.length : Int) := by simpa using h3
      rw [dropc [] (show t17 < s1.length by omega)] at hR; replace hR := (slices_EqualFunc_api_Cell_api_Cell_api_Cell_api_Cell_l0.eq_2 ..).symm.trans hR
      refine J_skip ?_
      refine nx ?_
      refine J_seq ?_
      refine J_block ?_
      refine sr 5 rfl ?_
      refine ip 1 4 [(19, iv (t17 : Int))] (by kernel_rfl) ?_
      refine JI_base 0 rfl (by omega) fun a4 hq5 => ?_
      refine JI_fact1 (rows_atD (k := t17) (d := (⟨none, 0, 0⟩ : Slc)) hrowss1rs 1 rfl (by have := hrowss1rs.1; omega)) ?_
      have := rows_cap hrowss1rs (k := t17) (d := (⟨none, 0, 0⟩ : Slc)) (by have := hrowss1rs.1; omega)
      refine ix rfl (det_ixq slt51 rfl rfl hq5 rfl t17 rfl (by omega)) ?_
      refine ix rfl (det_conv (det_ld_one (v := .slice ((s1rs.getD t17 (⟨none, 0, 0⟩ : Slc)).q) ((s1rs.getD t17 (⟨none, 0, 0⟩ : Slc)).n) ((s1rs.getD t17 (⟨none, 0, 0⟩ : Slc)).k)) (us := [.slice ((s1rs.getD t17 (⟨none, 0, 0⟩ : Slc)).q) ((s1rs.getD t17 (⟨none, 0, 0⟩ : Slc)).n) ((s1rs.getD t17 (⟨none, 0, 0⟩ : Slc)).k)]) ty74 rfl rfl (at_slq (c := cSlc) (sz := 1) hq5 (fun _ => rfl) 1 rfl (gd (⟨none, 0, 0⟩ : Slc) (by have := hrowss1rs.1; omega))) rfl) (rows_val hrowss1rs (by have := hrowss1rs.1; omega))) ?_
      refine ip 2 0 [(7, iv (t17 : Int)), (8, .slice ((s1rs.getD t17 (⟨none, 0, 0⟩ : Slc)).q) ((s1.getD t17 []).length) ((s1rs.getD t17 (⟨none, 0, 0⟩ : Slc)).k))] (by kernel_rfl) ?_
      refine ie ?_
      refine sr 5 rfl ?_
      refine ip 2 3 [(22, .slice s2q s2.length s2k), (23, iv (t17 : Int))] (by kernel_rfl) ?_
      refine JI_base 3 rfl (by omega) fun a6 hq7 => ?_
      refine JI_fact1 (rows_atD (k := t17) (d := (⟨none, 0, 0⟩ : Slc)) hrowss2rs 4 rfl (by have := hrowss2rs.1; omega)) ?_
      have := rows_cap hrowss2rs (k := t17) (d := (⟨none, 0, 0⟩ : Slc)) (by have := hrowss2rs.1; omega)
      refine ix rfl (det_ixq slt51 rfl rfl hq7 rfl t17 rfl (by omega)) ?_
      refine ix rfl (det_conv (det_ld_one (v := .slice ((s2rs.getD t17 (⟨none, 0, 0⟩ : Slc)).q) ((s2rs.getD t17 (⟨none, 0, 0⟩ : Slc)).n) ((s2rs.getD t17 (⟨none, 0, 0⟩ : Slc)).k)) (us := [.slice ((s2rs.getD t17 (⟨none, 0, 0⟩ : Slc)).q) ((s2rs.getD t17 (⟨none, 0, 0⟩ : Slc)).n) ((s2rs.getD t17 (⟨none, 0, 0⟩ : Slc)).k)]) ty74 rfl rfl (at_slq (c := cSlc) (sz := 1) hq7 (fun _ => rfl) 4 rfl (gd (⟨none, 0, 0⟩ : Slc) (by have := hrowss2rs.1; omega))) rfl) (rows_val hrowss2rs (by have := hrowss2rs.1; omega))) ?_
      refine ip 1 0 [(9, .slice ((s2rs.getD t17 (⟨none, 0, 0⟩ : Slc)).q) ((s2.getD t17 []).length) ((s2rs.getD t17 (⟨none, 0, 0⟩ : Slc)).k))] (by kernel_rfl) ?_
      refine ie ?_
      refine sr 5 rfl ?_
      refine ip 3 2 [(26, .func (.func 76) #[] #[]), (27, .slice ((s1rs.getD t17 (⟨none, 0, 0⟩ : Slc)).q) ((s1.getD t17 []).length) ((s1rs.getD t17 (⟨none, 0, 0⟩ : Slc)).k)), (28, .slice ((s2rs.getD t17 (⟨none, 0, 0⟩ : Slc)).q) ((s2.getD t17 []).length) ((s2rs.getD t17 (⟨none, 0, 0⟩ : Slc)).k))] (by kernel_rfl) ?_
      refine ixc rfl (det_call (slices_Equal_api_Cell_api_Cell_c (s1.getD t17 []) (s2.getD t17 []) ((s1rs.getD t17 (⟨none, 0, 0⟩ : Slc)).q) ((s1rs.getD t17 (⟨none, 0, 0⟩ : Slc)).k) ((s2rs.getD t17 (⟨none, 0, 0⟩ : Slc)).q) ((s2rs.getD t17 (⟨none, 0, 0⟩ : Slc)).k) (by first | omega | (simp only [List.length_take, List.length_drop, List.length_append, List.length_cons, List.length_nil, List.length_set, List.length_map]; omega) | decide) (by first | omega | (simp only [List.length_take, List.length_drop, List.length_append, List.length_cons, List.length_nil, List.length_set, List.length_map]; omega) | decide) (by first | omega | (simp only [List.length_take, List.length_drop, List.length_append, List.length_cons, List.length_nil, List.length_set, List.length_map]; omega) | decide) (by first | omega | (simp only [List.length_take, List.length_drop, List.length_append, List.length_cons, List.length_nil, List.length_set, List.length_map]; omega) | decide) _ rfl) rfl rfl rfl rfl rfl (Foll.pick [1, 0] rfl)) ?_
      refine ip 1 0 [(30, bv (!(slices_Equal_api_Cell_api_Cell (s1.getD t17 []) (s2.getD t17 []))))] (by kernel_rfl) ?_
      refine ie ?_
      refine J_if rfl (fun h8 => ?_) (fun h8 => ?_)
      · replace hR := bt hR h8
        refine sr 1 rfl ?_
        refine ip 1 0 [(6, bv false)] (by kernel_rfl) ?_
        refine ie ?_
        refine J_ret ?_
        subst hR
        exact ends_ret rfl ⟨hr, hD⟩ (by simp [hD]) (res1 rfl (resV_tmp rfl)) () (by rfl) (mk [] rfl) Foll.nil
      · replace hR := bf hR h8
        refine J_skip ?_
        refine nx ?_
        refine J_region 2 rfl ?_
        refine ix rfl (det_add64 rfl rfl rfl rfl (by omega)) ?_
        refine ip 1 0 [(17, iv ((t17 : Int) + 1))] (by kernel_rfl) ?_
        refine JI_end ?_
        exact againL1 (z1 := t17) (t17 + 1) ⟨(by omega), hR⟩ (by (try dsimp only); omega) ⟨rfl, rfl, rfl, rfl, (by first | rfl | (simp only [List.length_set, List.length_append, List.length_cons, List.length_nil]; rfl) | simp | (simp; omega)), trivial⟩ (mk [] rfl) (Foll.pick [2, 3, 4, 5] rfl)
    · have h3p : ¬ ((t17 : Int) < (s1.length : Int)) := by simpa using h3
      rw [dropn h3p] at hR; replace hR := (slices_EqualFunc_api_Cell_api_Cell_api_Cell_api_Cell_l0.eq_1 ..).symm.trans hR
      refine J_exit ?_
      refine nx ?_
      refine sr 1 rfl ?_
      refine ip 1 0 [(6, bv true)] (by kernel_rfl) ?_
      refine ie ?_
      refine J_ret ?_
      subst hR
      exact ends_ret rfl ⟨hr, hD⟩ (by simp [hD]) (res1 rfl (resV_tmp rfl)) () (by rfl) (mk [] rfl) Foll.nil

def law24_cells (aCols : Int) (aRows : List (List Cel)) (aCursor : Plc) (aVisible : Bool) (aShape : Int) (aTitle : List UInt8) (bCols : Int) (bRows : List (List Cel)) (bCursor : Plc) (bVisible : Bool) (bShape : Int) (bTitle : List UInt8) : Bool :=
  (slices_EqualFunc_api_Cell_api_Cell_api_Cell_api_Cell aRows bRows)

set_option maxRecDepth 100000 in
theorem law24_cells_c (aCols : Int) (aRows : List (List Cel)) (aCursor : Plc) (aVisible : Bool) (aShape : Int) (aTitle : List UInt8) (bCols : Int) (bRows : List (List Cel)) (bCursor : Plc) (bVisible : Bool) (bShape : Int) (bTitle : List UInt8) (aRowsq : Option Addr) (aRowsrs : List Slc) (aRowsk : Nat) (bRowsq : Option Addr) (bRowsrs : List Slc) (bRowsk : Nat) (hrowsaRowsrs : RowsOk aRowsrs aRows) (hlaRows : aRows.length ≤ 9223372036854775807) (hcaRows : aRows.length ≤ aRowsk) (hrowsbRowsrs : RowsOk bRowsrs bRows) (hlbRows : bRows.length ≤ 9223372036854775807) (hcbRows : bRows.length ≤ bRowsk) (R : Bool) (hR : law24_cells aCols aRows aCursor aVisible aShape aTitle bCols bRows bCursor bVisible bShape bTitle = R) : ConV Tryz.prog 44 [ag [iv aCols, .slice aRowsq aRows.length aRowsk, iv aCursor.row, iv aCursor.col, bv aVisible, iv aShape, sv aTitle], ag [iv bCols, .slice bRowsq bRows.length bRowsk, iv bCursor.row, iv bCursor.col, bv bVisible, iv bShape, sv bTitle]] [sl cSlc aRowsq aRowsrs, rowsF cCel aRowsrs aRows, sl cSlc bRowsq bRowsrs, rowsF cCel bRowsrs bRows] (bv R) := by
  refine con_of_J (n := 10) Tryz.func44 rfl (by kernel_rfl) rfl rfl [(0, ag [iv aCols, .slice aRowsq aRows.length aRowsk, iv aCursor.row, iv aCursor.col, bv aVisible, iv aShape, sv aTitle]), (1, ag [iv bCols, .slice bRowsq bRows.length bRowsk, iv bCursor.row, iv bCursor.col, bv bVisible, iv bShape, sv bTitle])] ⟨rfl, rfl, trivial⟩ fun X hX hr hD => ?_
  replace hR := (law24_cells.eq_1 ..).symm.trans hR
  have := hrowsaRowsrs.1
  have := hrowsbRowsrs.1
  refine sr 3 rfl ?_
  refine it rfl (tri_box (cs := [iv aCols, .slice aRowsq aRows.length aRowsk, iv aCursor.row, iv aCursor.col, bv aVisible, iv aShape, sv aTitle]) rfl rfl rfl) fun b1 => ?_
  refine it rfl (tri_box (cs := [iv bCols, .slice bRowsq bRows.length bRowsk, iv bCursor.row, iv bCursor.col, bv bVisible, iv bShape, sv bTitle]) rfl rfl rfl) fun b2 => ?_
  refine ip 1 0 [] (by kernel_rfl) ?_
  refine ie ?_
  refine sr 6 rfl ?_
  refine ip 1 5 [(5, pt b1 1)] (by kernel_rfl) ?_
  refine ix rfl (det_own_one (v := .slice aRowsq aRows.length aRowsk) ty51 rfl rfl 1 rfl rfl) ?_
  refine ip 1 3 [(7, pt b2 1)] (by kernel_rfl) ?_
  refine ix rfl (det_own_one (v := .slice bRowsq bRows.length bRowsk) ty51 rfl rfl 0 rfl rfl) ?_
  refine ixc rfl (det_call (slices_EqualFunc_api_Cell_api_Cell_api_Cell_api_Cell_c aRows bRows aRowsq aRowsrs aRowsk bRowsq bRowsrs bRowsk hrowsaRowsrs (by first | omega | (simp only [List.length_take, List.length_drop, List.length_append, List.length_cons, List.length_nil, List.length_set, List.length_map]; omega) | decide) (by first | omega | (simp only [List.length_take, List.length_drop, List.length_append, List.length_cons, List.length_nil, List.length_set, List.length_map]; omega) | decide) hrowsbRowsrs (by first | omega | (simp only [List.length_take, List.length_drop, List.length_append, List.length_cons, List.length_nil, List.length_set, List.length_map]; omega) | decide) (by first | omega | (simp only [List.length_take, List.length_drop, List.length_append, List.length_cons, List.length_nil, List.length_set, List.length_map]; omega) | decide) _ rfl) rfl rfl rfl rfl rfl Foll.refl) ?_
  refine ip 1 0 [(4, bv (slices_EqualFunc_api_Cell_api_Cell_api_Cell_api_Cell aRows bRows))] (by kernel_rfl) ?_
  refine ie ?_
  refine J_ret ?_
  subst hR
  exact ends_ret rfl ⟨hr, hD⟩ (by simp [hD]) (res1 rfl (resV_tmp rfl)) () (by rfl) (mk [false, false] rfl) Foll.nil

def law24_DamageSame (aCols : Int) (aRows : List (List Cel)) (aCursor : Plc) (aVisible : Bool) (aShape : Int) (aTitle : List UInt8) (bCols : Int) (bRows : List (List Cel)) (bCursor : Plc) (bVisible : Bool) (bShape : Int) (bTitle : List UInt8) : Bool :=
  (bif (!law24_wakes) then false else (bindV (damage_Spans aCols aRows aCursor aVisible aShape aTitle aCols aRows aCursor aVisible aShape aTitle) fun (rdamageSpans : List Sp3 × Int) => (bif ((decide ((0 : Int) < (rdamageSpans.1.length : Int))) || (!((decide (rdamageSpans.2 = 0)) == (decide ((frame_Check aCols aRows aCursor aVisible aShape aTitle) = 0))))) then false else (bindV (damage_Spans aCols aRows aCursor aVisible aShape aTitle bCols bRows bCursor bVisible bShape bTitle) fun (rdamageSpans1 : List Sp3 × Int) => (bindV (damage_Spans bCols bRows bCursor bVisible bShape bTitle aCols aRows aCursor aVisible aShape aTitle) fun (rdamageSpans2 : List Sp3 × Int) => (bif ((!decide (rdamageSpans1.2 = 0)) || (!decide (rdamageSpans2.2 = 0))) then (decide (rdamageSpans1.2 = rdamageSpans2.2)) else ((slices_Equal_api_Span_api_Span rdamageSpans1.1 rdamageSpans2.1) && ((decide ((rdamageSpans1.1.length : Int) = 0)) == (law24_cells aCols aRows aCursor aVisible aShape aTitle bCols bRows bCursor bVisible bShape bTitle)))))))))

set_option maxRecDepth 100000 in
theorem law24_DamageSame_c (aCols : Int) (aRows : List (List Cel)) (aCursor : Plc) (aVisible : Bool) (aShape : Int) (aTitle : List UInt8) (bCols : Int) (bRows : List (List Cel)) (bCursor : Plc) (bVisible : Bool) (bShape : Int) (bTitle : List UInt8) (aRowsq : Option Addr) (aRowsrs : List Slc) (aRowsk : Nat) (bRowsq : Option Addr) (bRowsrs : List Slc) (bRowsk : Nat) (hrowsaRowsrs : RowsOk aRowsrs aRows) (hlaRows : aRows.length ≤ 9223372036854775807) (hcaRows : aRows.length ≤ aRowsk) (hrowsbRowsrs : RowsOk bRowsrs bRows) (hlbRows : bRows.length ≤ 9223372036854775807) (hcbRows : bRows.length ≤ bRowsk) (hT : aTitle.length ≤ 100000000) (hT2 : bTitle.length ≤ 100000000) (R : Bool) (hR : law24_DamageSame aCols aRows aCursor aVisible aShape aTitle bCols bRows bCursor bVisible bShape bTitle = R) : ConV Tryz.prog 14 [ag [iv aCols, .slice aRowsq aRows.length aRowsk, iv aCursor.row, iv aCursor.col, bv aVisible, iv aShape, sv aTitle], ag [iv bCols, .slice bRowsq bRows.length bRowsk, iv bCursor.row, iv bCursor.col, bv bVisible, iv bShape, sv bTitle]] [sl cSlc aRowsq aRowsrs, rowsF cCel aRowsrs aRows, sl cSlc bRowsq bRowsrs, rowsF cCel bRowsrs bRows, sl cSpn (some ⟨0, 0, none⟩) tab0, sl cSpn (some ⟨1, 0, none⟩) tab1] (bv R) := by
  refine con_of_J (n := 63) Tryz.func14 rfl (by kernel_rfl) rfl rfl [(0, ag [iv aCols, .slice aRowsq aRows.length aRowsk, iv aCursor.row, iv aCursor.col, bv aVisible, iv aShape, sv aTitle]), (1, ag [iv bCols, .slice bRowsq bRows.length bRowsk, iv bCursor.row, iv bCursor.col, bv bVisible, iv bShape, sv bTitle])] ⟨rfl, rfl, trivial⟩ fun X hX hr hD => ?_
  replace hR := (law24_DamageSame.eq_1 ..).symm.trans hR
  have := hrowsaRowsrs.1
  have := hrowsbRowsrs.1
  refine sr 3 rfl ?_
  refine it rfl (tri_box (cs := [iv aCols, .slice aRowsq aRows.length aRowsk, iv aCursor.row, iv aCursor.col, bv aVisible, iv aShape, sv aTitle]) rfl rfl rfl) fun b1 => ?_
  refine it rfl (tri_box (cs := [iv bCols, .slice bRowsq bRows.length bRowsk, iv bCursor.row, iv bCursor.col, bv bVisible, iv bShape, sv bTitle]) rfl rfl rfl) fun b2 => ?_
  refine ip 1 0 [] (by kernel_rfl) ?_
  refine ie ?_
  refine J_seq ?_
  refine sr 2 rfl ?_
  refine ixc rfl (det_call (law24_wakes_c _ rfl) rfl rfl rfl rfl rfl (Foll.pick [4, 5] rfl)) ?_
  refine ip 1 0 [(12, bv (!law24_wakes))] (by kernel_rfl) ?_
  refine ie ?_
  refine J_if rfl (fun h3 => ?_) (fun h3 => ?_)
  · replace hR := bt hR h3
    refine sr 1 rfl ?_
    refine ip 1 0 [(4, bv false)] (by kernel_rfl) ?_
    refine ie ?_
    refine J_ret ?_
    subst hR
    exact ends_ret rfl ⟨hr, hD⟩ (by simp [hD]) (res1 rfl (resV_tmp rfl)) () (by rfl) (mk [false, false] rfl) Foll.nil
  · replace hR := bf hR h3
    refine J_skip ?_
    refine nx ?_
    refine J_seq ?_
    refine sr 8 rfl ?_
    refine ix rfl (det_own_agg (us := [iv aCols, .slice aRowsq aRows.length aRowsk, iv aCursor.row, iv aCursor.col, bv aVisible, iv aShape, sv aTitle]) ty55 rfl rfl 1 rfl rfl rfl) ?_
    refine ix rfl (det_own_agg (us := [iv aCols, .slice aRowsq aRows.length aRowsk, iv aCursor.row, iv aCursor.col, bv aVisible, iv aShape, sv aTitle]) ty55 rfl rfl 1 rfl rfl rfl) ?_
    have hQ := bindVx hR; clear hR; obtain ⟨rdamageSpans, hrdamageSpans, hR⟩ := hQ
    refine it rfl (tri_callP (L2 := [bx b2 [iv bCols, .slice bRowsq bRows.length bRowsk, iv bCursor.row, iv bCursor.col, bv bVisible, iv bShape, sv bTitle] 55, bx b1 [iv aCols, .slice aRowsq aRows.length aRowsk, iv aCursor.row, iv aCursor.col, bv aVisible, iv aShape, sv aTitle] 55]) (damage_Spans_c aCols aRows aCursor aVisible aShape aTitle aCols aRows aCursor aVisible aShape aTitle aRowsq aRowsrs aRowsk aRowsq aRowsrs aRowsk hrowsaRowsrs (by first | omega | (simp only [List.length_take, List.length_drop, List.length_append, List.length_cons, List.length_nil, List.length_set, List.length_map]; omega) | decide) (by first | omega | (simp only [List.length_take, List.length_drop, List.length_append, List.length_cons, List.length_nil, List.length_set, List.length_map]; omega) | decide) hrowsaRowsrs (by first | omega | (simp only [List.length_take, List.length_drop, List.length_append, List.length_cons, List.length_nil, List.length_set, List.length_map]; omega) | decide) (by first | omega | (simp only [List.length_take, List.length_drop, List.length_append, List.length_cons, List.length_nil, List.length_set, List.length_map]; omega) | decide) (by first | omega | (simp only [List.length_nil]; omega)) (by first | omega | (simp only [List.length_nil]; omega)) rdamageSpans hrdamageSpans) rfl rfl rfl rfl rfl (Foll.pick [0, 1, 0, 1, 4, 5] rfl) (List.Perm.refl _) (fun ⟨r4, hk5⟩ => (bx b2 [iv bCols, .slice bRowsq bRows.length bRowsk, iv bCursor.row, iv bCursor.col, bv bVisible, iv bShape, sv bTitle] 55 :: bx b1 [iv aCols, .slice aRowsq aRows.length aRowsk, iv aCursor.row, iv aCursor.col, bv aVisible, iv aShape, sv aTitle] 55 :: (vo cSp3 63 r4 rdamageSpans.1) ++ ([]))) (fun ⟨r4, hk5⟩ => permC [vo cSp3 63 r4 rdamageSpans.1, [bx b2 [iv bCols, .slice bRowsq bRows.length bRowsk, iv bCursor.row, iv bCursor.col, bv bVisible, iv bShape, sv bTitle] 55], [bx b1 [iv aCols, .slice aRowsq aRows.length aRowsk, iv aCursor.row, iv aCursor.col, bv aVisible, iv aShape, sv aTitle] 55]] [1, 2, 0] 3 rfl (by decide) (by first | rfl | simp only [List.flatten_cons, List.flatten_nil, List.append_nil, List.cons_append, List.nil_append, List.append_assoc]) [[bx b2 [iv bCols, .slice bRowsq bRows.length bRowsk, iv bCursor.row, iv bCursor.col, bv bVisible, iv bShape, sv bTitle] 55], [bx b1 [iv aCols, .slice aRowsq aRows.length aRowsk, iv aCursor.row, iv aCursor.col, bv aVisible, iv aShape, sv aTitle] 55], vo cSp3 63 r4 rdamageSpans.1] rfl (by first | rfl | simp only [List.flatten_cons, List.flatten_nil, List.append_nil, List.cons_append, List.nil_append, List.append_assoc]))) fun ⟨r4, hk5⟩ => ?_
    have := VOk.le hk5
    have := VOk.cap hk5
    have := damage_Spans_len aCols aRows aCursor aVisible aShape aTitle aCols aRows aCursor aVisible aShape aTitle; try rw [hrdamageSpans] at this
    refine JI_seal [bx b2 [iv bCols, .slice bRowsq bRows.length bRowsk, iv bCursor.row, iv bCursor.col, bv bVisible, iv bShape, sv bTitle] 55, bx b1 [iv aCols, .slice aRowsq aRows.length aRowsk, iv aCursor.row, iv aCursor.col, bv aVisible, iv aShape, sv aTitle] 55] [] (T := 63) (c := cSp3) (r := r4) (xs := rdamageSpans.1) hk5 (by first | rfl | simp only [List.cons_append, List.append_assoc, List.nil_append, List.append_nil]) ?_
    refine ip 5 0 [(5, .slice (va r4.q) rdamageSpans.1.length r4.k), (6, iv rdamageSpans.2)] (by kernel_rfl) ?_
    refine ie ?_
    refine sr 11 rfl ?_
    refine ip 4 7 [(22, bv (decide ((0 : Int) < (rdamageSpans.1.length : Int))))] (by kernel_rfl) ?_
    refine ior 7 0 22 29 (!((decide (rdamageSpans.2 = 0)) == (decide ((frame_Check aCols aRows aCursor aVisible aShape aTitle) = 0)))) rfl (by kernel_rfl) (fun g6 => ?_) ?_
    · have g6p : ¬ ((0 : Int) < (rdamageSpans.1.length : Int)) := by simpa using g6
      refine ip 2 5 [(24, bv (decide (rdamageSpans.2 = 0)))] (by kernel_rfl) ?_
      refine ix rfl (det_own_agg (us := [iv aCols, .slice aRowsq aRows.length aRowsk, iv aCursor.row, iv aCursor.col, bv aVisible, iv aShape, sv aTitle]) ty55 rfl rfl 1 rfl rfl rfl) ?_
      refine ixc rfl (det_call (frame_Check_c aCols aRows aCursor aVisible aShape aTitle aRowsq aRowsrs aRowsk hrowsaRowsrs (by first | omega | (simp only [List.length_take, List.length_drop, List.length_append, List.length_cons, List.length_nil, List.length_set, List.length_map]; omega) | decide) (by first | omega | (simp only [List.length_take, List.length_drop, List.length_append, List.length_cons, List.length_nil, List.length_set, List.length_map]; omega) | decide) (by first | omega | (simp only [List.length_nil]; omega)) _ rfl) rfl rfl rfl rfl rfl (Foll.pick [1, 2, 5, 6] rfl)) ?_
      refine ip 1 2 [(27, bv (decide ((frame_Check aCols aRows aCursor aVisible aShape aTitle) = 0)))] (by kernel_rfl) ?_
      refine ix rfl (det_neb Tryz.underlying4 rfl rfl rfl) ?_
      refine ip 1 0 [(29, bv (!((decide (rdamageSpans.2 = 0)) == (decide ((frame_Check aCols aRows aCursor aVisible aShape aTitle) = 0)))))] (by kernel_rfl) ?_
      exact JI_end (armI 7 22 29 g6 Foll.refl (mk [true, true] rfl) rfl rfl rfl rfl rfl)
    refine ie ?_
    refine J_if rfl (fun h7 => ?_) (fun h7 => ?_)
    · have h7p := h7; try simp only [Bool.and_eq_true, Bool.or_eq_true, Bool.and_eq_false_iff, Bool.or_eq_false_iff, Bool.not_eq_true', Bool.not_eq_false', decide_eq_true_eq, decide_eq_false_iff_not] at h7p
      replace hR := bt hR h7
      refine sr 1 rfl ?_
      refine ip 1 0 [(4, bv false)] (by kernel_rfl) ?_
      refine ie ?_
      refine J_ret ?_
      subst hR
      exact ends_ret rfl ⟨hr, hD⟩ (by simp [hD]) (res1 rfl (resV_tmp rfl)) () (by rfl) (mk [false, false] rfl) Foll.nil
    · have h7p := h7; try simp only [Bool.and_eq_true, Bool.or_eq_true, Bool.and_eq_false_iff, Bool.or_eq_false_iff, Bool.not_eq_true', Bool.not_eq_false', decide_eq_true_eq, decide_eq_false_iff_not] at h7p
      replace hR := bf hR h7
      refine J_skip ?_
      refine nx ?_
      refine sr 8 rfl ?_
      refine ix rfl (det_own_agg (us := [iv aCols, .slice aRowsq aRows.length aRowsk, iv aCursor.row, iv aCursor.col, bv aVisible, iv aShape, sv aTitle]) ty55 rfl rfl 1 rfl rfl rfl) ?_
      refine ix rfl (det_own_agg (us := [iv bCols, .slice bRowsq bRows.length bRowsk, iv bCursor.row, iv bCursor.col, bv bVisible, iv bShape, sv bTitle]) ty55 rfl rfl 0 rfl rfl rfl) ?_
      have hQ := bindVx hR; clear hR; obtain ⟨rdamageSpans1, hrdamageSpans1, hR⟩ := hQ
      refine it rfl (tri_callP (L2 := [bx b2 [iv bCols, .slice bRowsq bRows.length bRowsk, iv bCursor.row, iv bCursor.col, bv bVisible, iv bShape, sv bTitle] 55, bx b1 [iv aCols, .slice aRowsq aRows.length aRowsk, iv aCursor.row, iv aCursor.col, bv aVisible, iv aShape, sv aTitle] 55]) (damage_Spans_c aCols aRows aCursor aVisible aShape aTitle bCols bRows bCursor bVisible bShape bTitle aRowsq aRowsrs aRowsk bRowsq bRowsrs bRowsk hrowsaRowsrs (by first | omega | (simp only [List.length_take, List.length_drop, List.length_append, List.length_cons, List.length_nil, List.length_set, List.length_map]; omega) | decide) (by first | omega | (simp only [List.length_take, List.length_drop, List.length_append, List.length_cons, List.length_nil, List.length_set, List.length_map]; omega) | decide) hrowsbRowsrs (by first | omega | (simp only [List.length_take, List.length_drop, List.length_append, List.length_cons, List.length_nil, List.length_set, List.length_map]; omega) | decide) (by first | omega | (simp only [List.length_take, List.length_drop, List.length_append, List.length_cons, List.length_nil, List.length_set, List.length_map]; omega) | decide) (by first | omega | (simp only [List.length_nil]; omega)) (by first | omega | (simp only [List.length_nil]; omega)) rdamageSpans1 hrdamageSpans1) rfl rfl rfl rfl rfl (Foll.pick [1, 2, 3, 4, 5, 6] rfl) (List.Perm.refl _) (fun ⟨r8, hk9⟩ => (bx b2 [iv bCols, .slice bRowsq bRows.length bRowsk, iv bCursor.row, iv bCursor.col, bv bVisible, iv bShape, sv bTitle] 55 :: bx b1 [iv aCols, .slice aRowsq aRows.length aRowsk, iv aCursor.row, iv aCursor.col, bv aVisible, iv aShape, sv aTitle] 55 :: (vo cSp3 63 r8 rdamageSpans1.1) ++ ([]))) (fun ⟨r8, hk9⟩ => permC [vo cSp3 63 r8 rdamageSpans1.1, [bx b2 [iv bCols, .slice bRowsq bRows.length bRowsk, iv bCursor.row, iv bCursor.col, bv bVisible, iv bShape, sv bTitle] 55], [bx b1 [iv aCols, .slice aRowsq aRows.length aRowsk, iv aCursor.row, iv aCursor.col, bv aVisible, iv aShape, sv aTitle] 55]] [1, 2, 0] 3 rfl (by decide) (by first | rfl | simp only [List.flatten_cons, List.flatten_nil, List.append_nil, List.cons_append, List.nil_append, List.append_assoc]) [[bx b2 [iv bCols, .slice bRowsq bRows.length bRowsk, iv bCursor.row, iv bCursor.col, bv bVisible, iv bShape, sv bTitle] 55], [bx b1 [iv aCols, .slice aRowsq aRows.length aRowsk, iv aCursor.row, iv aCursor.col, bv aVisible, iv aShape, sv aTitle] 55], vo cSp3 63 r8 rdamageSpans1.1] rfl (by first | rfl | simp only [List.flatten_cons, List.flatten_nil, List.append_nil, List.cons_append, List.nil_append, List.append_assoc]))) fun ⟨r8, hk9⟩ => ?_
      have := VOk.le hk9
      have := VOk.cap hk9
      have := damage_Spans_len aCols aRows aCursor aVisible aShape aTitle bCols bRows bCursor bVisible bShape bTitle; try rw [hrdamageSpans1] at this
      refine JI_seal [bx b2 [iv bCols, .slice bRowsq bRows.length bRowsk, iv bCursor.row, iv bCursor.col, bv bVisible, iv bShape, sv bTitle] 55, bx b1 [iv aCols, .slice aRowsq aRows.length aRowsk, iv aCursor.row, iv aCursor.col, bv aVisible, iv aShape, sv aTitle] 55] [] (T := 63) (c := cSp3) (r := r8) (xs := rdamageSpans1.1) hk9 (by first | rfl | simp only [List.cons_append, List.append_assoc, List.nil_append, List.append_nil]) ?_
      refine ip 5 0 [(7, .slice (va r8.q) rdamageSpans1.1.length r8.k), (8, iv rdamageSpans1.2)] (by kernel_rfl) ?_
      refine ie ?_
      refine sr 8 rfl ?_
      refine ix rfl (det_own_agg (us := [iv bCols, .slice bRowsq bRows.length bRowsk, iv bCursor.row, iv bCursor.col, bv bVisible, iv bShape, sv bTitle]) ty55 rfl rfl 0 rfl rfl rfl) ?_
      refine ix rfl (det_own_agg (us := [iv aCols, .slice aRowsq aRows.length aRowsk, iv aCursor.row, iv aCursor.col, bv aVisible, iv aShape, sv aTitle]) ty55 rfl rfl 1 rfl rfl rfl) ?_
      have hQ := bindVx hR; clear hR; obtain ⟨rdamageSpans2, hrdamageSpans2, hR⟩ := hQ
      refine it rfl (tri_callP (L2 := [bx b2 [iv bCols, .slice bRowsq bRows.length bRowsk, iv bCursor.row, iv bCursor.col, bv bVisible, iv bShape, sv bTitle] 55, bx b1 [iv aCols, .slice aRowsq aRows.length aRowsk, iv aCursor.row, iv aCursor.col, bv aVisible, iv aShape, sv aTitle] 55]) (damage_Spans_c bCols bRows bCursor bVisible bShape bTitle aCols aRows aCursor aVisible aShape aTitle bRowsq bRowsrs bRowsk aRowsq aRowsrs aRowsk hrowsbRowsrs (by first | omega | (simp only [List.length_take, List.length_drop, List.length_append, List.length_cons, List.length_nil, List.length_set, List.length_map]; omega) | decide) (by first | omega | (simp only [List.length_take, List.length_drop, List.length_append, List.length_cons, List.length_nil, List.length_set, List.length_map]; omega) | decide) hrowsaRowsrs (by first | omega | (simp only [List.length_take, List.length_drop, List.length_append, List.length_cons, List.length_nil, List.length_set, List.length_map]; omega) | decide) (by first | omega | (simp only [List.length_take, List.length_drop, List.length_append, List.length_cons, List.length_nil, List.length_set, List.length_map]; omega) | decide) (by first | omega | (simp only [List.length_nil]; omega)) (by first | omega | (simp only [List.length_nil]; omega)) rdamageSpans2 hrdamageSpans2) rfl rfl rfl rfl rfl (Foll.pick [4, 5, 2, 3, 6, 7] rfl) (List.Perm.refl _) (fun ⟨r10, hk11⟩ => (bx b2 [iv bCols, .slice bRowsq bRows.length bRowsk, iv bCursor.row, iv bCursor.col, bv bVisible, iv bShape, sv bTitle] 55 :: bx b1 [iv aCols, .slice aRowsq aRows.length aRowsk, iv aCursor.row, iv aCursor.col, bv aVisible, iv aShape, sv aTitle] 55 :: (vo cSp3 63 r10 rdamageSpans2.1) ++ ([]))) (fun ⟨r10, hk11⟩ => permC [vo cSp3 63 r10 rdamageSpans2.1, [bx b2 [iv bCols, .slice bRowsq bRows.length bRowsk, iv bCursor.row, iv bCursor.col, bv bVisible, iv bShape, sv bTitle] 55], [bx b1 [iv aCols, .slice aRowsq aRows.length aRowsk, iv aCursor.row, iv aCursor.col, bv aVisible, iv aShape, sv aTitle] 55]] [1, 2, 0] 3 rfl (by decide) (by first | rfl | simp only [List.flatten_cons, List.flatten_nil, List.append_nil, List.cons_append, List.nil_append, List.append_assoc]) [[bx b2 [iv bCols, .slice bRowsq bRows.length bRowsk, iv bCursor.row, iv bCursor.col, bv bVisible, iv bShape, sv bTitle] 55], [bx b1 [iv aCols, .slice aRowsq aRows.length aRowsk, iv aCursor.row, iv aCursor.col, bv aVisible, iv aShape, sv aTitle] 55], vo cSp3 63 r10 rdamageSpans2.1] rfl (by first | rfl | simp only [List.flatten_cons, List.flatten_nil, List.append_nil, List.cons_append, List.nil_append, List.append_assoc]))) fun ⟨r10, hk11⟩ => ?_
      have := VOk.le hk11
      have := VOk.cap hk11
      have := damage_Spans_len bCols bRows bCursor bVisible bShape bTitle aCols aRows aCursor aVisible aShape aTitle; try rw [hrdamageSpans2] at this
      refine JI_seal [bx b2 [iv bCols, .slice bRowsq bRows.length bRowsk, iv bCursor.row, iv bCursor.col, bv bVisible, iv bShape, sv bTitle] 55, bx b1 [iv aCols, .slice aRowsq aRows.length aRowsk, iv aCursor.row, iv aCursor.col, bv aVisible, iv aShape, sv aTitle] 55] [] (T := 63) (c := cSp3) (r := r10) (xs := rdamageSpans2.1) hk11 (by first | rfl | simp only [List.cons_append, List.append_assoc, List.nil_append, List.append_nil]) ?_
      refine ip 5 0 [(9, .slice (va r10.q) rdamageSpans2.1.length r10.k), (10, iv rdamageSpans2.2)] (by kernel_rfl) ?_
      refine ie ?_
      refine J_seq ?_
      refine sr 6 rfl ?_
      refine ip 3 3 [(44, bv (!decide (rdamageSpans1.2 = 0)))] (by kernel_rfl) ?_
      refine ior 3 0 44 47 (!decide (rdamageSpans2.2 = 0)) rfl (by kernel_rfl) (fun g12 => ?_) ?_
      · have g12p : ¬ (¬ rdamageSpans1.2 = 0) := by simpa using g12
        refine ip 3 0 [(47, bv (!decide (rdamageSpans2.2 = 0)))] (by kernel_rfl) ?_
        exact JI_end (armI 2 44 47 g12 Foll.refl (mk [true, true] rfl) rfl rfl rfl rfl rfl)
      refine ie ?_
      refine J_if rfl (fun h13 => ?_) (fun h13 => ?_)
      · have h13p : (¬ rdamageSpans1.2 = 0) ∨ (¬ rdamageSpans2.2 = 0) := by simpa using h13
        replace hR := bt hR h13
        refine sr 4 rfl ?_
        refine ip 4 0 [(4, bv (decide (rdamageSpans1.2 = rdamageSpans2.2)))] (by kernel_rfl) ?_
        refine ie ?_
        refine J_ret ?_
        subst hR
        exact ends_ret rfl ⟨hr, hD⟩ (by simp [hD]) (res1 rfl (resV_tmp rfl)) () (by rfl) (mk [false, false] rfl) Foll.nil
      · have h13p : ¬ ((¬ rdamageSpans1.2 = 0) ∨ (¬ rdamageSpans2.2 = 0)) := by simpa using h13
        replace hR := bf hR h13
        refine J_skip ?_
        refine nx ?_
        refine sr 13 rfl ?_
        refine ip 2 11 [(51, .slice (va r8.q) rdamageSpans1.1.length r8.k), (52, .slice (va r10.q) rdamageSpans2.1.length r10.k)] (by kernel_rfl) ?_
        refine ixc rfl (det_call (slices_Equal_api_Span_api_Span_c rdamageSpans1.1 rdamageSpans2.1 (va r8.q) r8.k (va r10.q) r10.k (by first | omega | (simp only [List.length_take, List.length_drop, List.length_append, List.length_cons, List.length_nil, List.length_set, List.length_map]; omega) | decide) (by first | omega | (simp only [List.length_take, List.length_drop, List.length_append, List.length_cons, List.length_nil, List.length_set, List.length_map]; omega) | decide) (by first | omega | (simp only [List.length_take, List.length_drop, List.length_append, List.length_cons, List.length_nil, List.length_set, List.length_map]; omega) | decide) (by first | omega | (simp only [List.length_take, List.length_drop, List.length_append, List.length_cons, List.length_nil, List.length_set, List.length_map]; omega) | decide) _ rfl) rfl rfl rfl rfl rfl (Foll.pick [1, 0] rfl)) ?_
        refine ip 1 9 [(54, bv (slices_Equal_api_Span_api_Span rdamageSpans1.1 rdamageSpans2.1))] (by kernel_rfl) ?_
        refine iand 8 1 54 62 ((decide ((rdamageSpans1.1.length : Int) = 0)) == (law24_cells aCols aRows aCursor aVisible aShape aTitle bCols bRows bCursor bVisible bShape bTitle)) rfl (by kernel_rfl) (fun g14 => ?_) ?_
        · refine ip 3 5 [(57, bv (decide ((rdamageSpans1.1.length : Int) = 0)))] (by kernel_rfl) ?_
          refine ix rfl (det_own_agg (us := [iv aCols, .slice aRowsq aRows.length aRowsk, iv aCursor.row, iv aCursor.col, bv aVisible, iv aShape, sv aTitle]) ty55 rfl rfl 1 rfl rfl rfl) ?_
          refine ix rfl (det_own_agg (us := [iv bCols, .slice bRowsq bRows.length bRowsk, iv bCursor.row, iv bCursor.col, bv bVisible, iv bShape, sv bTitle]) ty55 rfl rfl 0 rfl rfl rfl) ?_
          refine ixc rfl (det_call (law24_cells_c aCols aRows aCursor aVisible aShape aTitle bCols bRows bCursor bVisible bShape bTitle aRowsq aRowsrs aRowsk bRowsq bRowsrs bRowsk hrowsaRowsrs (by first | omega | (simp only [List.length_take, List.length_drop, List.length_append, List.length_cons, List.length_nil, List.length_set, List.length_map]; omega) | decide) (by first | omega | (simp only [List.length_take, List.length_drop, List.length_append, List.length_cons, List.length_nil, List.length_set, List.length_map]; omega) | decide) hrowsbRowsrs (by first | omega | (simp only [List.length_take, List.length_drop, List.length_append, List.length_cons, List.length_nil, List.length_set, List.length_map]; omega) | decide) (by first | omega | (simp only [List.length_take, List.length_drop, List.length_append, List.length_cons, List.length_nil, List.length_set, List.length_map]; omega) | decide) _ rfl) rfl rfl rfl rfl rfl (Foll.pick [3, 4, 5, 6] rfl)) ?_
          refine ix rfl (det_eqb Tryz.underlying4 rfl rfl rfl) ?_
          refine ip 1 0 [(62, bv ((decide ((rdamageSpans1.1.length : Int) = 0)) == (law24_cells aCols aRows aCursor aVisible aShape aTitle bCols bRows bCursor bVisible bShape bTitle)))] (by kernel_rfl) ?_
          exact JI_end (armI 7 54 62 g14 Foll.refl (mk [true, true] rfl) rfl rfl rfl rfl rfl)
        refine ip 1 0 [(4, bv ((slices_Equal_api_Span_api_Span rdamageSpans1.1 rdamageSpans2.1) && ((decide ((rdamageSpans1.1.length : Int) = 0)) == (law24_cells aCols aRows aCursor aVisible aShape aTitle bCols bRows bCursor bVisible bShape bTitle))))] (by kernel_rfl) ?_
        refine ie ?_
        refine J_ret ?_
        subst hR
        exact ends_ret rfl ⟨hr, hD⟩ (by simp [hD]) (res1 rfl (resV_tmp rfl)) () (by rfl) (mk [false, false] rfl) Foll.nil

end Go.Proofs.YtlcaphkcfmlljaaGreatDoor
