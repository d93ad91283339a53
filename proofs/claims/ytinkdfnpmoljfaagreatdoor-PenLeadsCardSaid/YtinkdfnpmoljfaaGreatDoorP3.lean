import Derived.Test.YtinkdfnpmoljfaaGreatDoorD2
import Derived.Test.YtinkdfnpmoljfaaGreatDoorFenX
import Derived.Test.YtinkdfnpmoljfaaGreatDoorIto
import Derived.Test.YtinkdfnpmoljfaaGreatDoorProg
import Derived.Test.YtinkdfnpmoljfaaGreatDoorP1
import Derived.Test.YtinkdfnpmoljfaaGreatDoorP2
set_option linter.unusedVariables false
set_option linter.unusedSimpArgs false
set_option linter.unnecessarySimpa false
set_option maxRecDepth 100000
namespace Go.Proofs.YtinkdfnpmoljfaaGreatDoor
open Go Go.Fen
theorem apt30 : ApTy Tryz.prog 30 5 1 1 := ⟨by kernel_rfl, by kernel_rfl, rfl⟩
theorem ty30 : Ty Tryz.prog 30 1 false := ⟨by kernel_rfl⟩
theorem ty163 : Ty Tryz.prog 163 1 false := ⟨by kernel_rfl⟩
theorem ty168 : Ty Tryz.prog 168 1 false := ⟨by kernel_rfl⟩
theorem zero109 : Zero Tryz.prog 109 [.pointer none, .slice none 0 0] := ⟨by kernel_rfl⟩
def param_empty (l : List (List Int)) : Bool :=
 (((decide ((l.length : Int) = 1)) && (decide (((l.getD 0 []).length : Int) = 1))) && (decide (((l.getD 0 []).getD 0 0) = (-1))))

theorem param_empty_c (l : List (List Int)) (lq : Option Addr) (lrs : List Slc) (lk : Nat) (hrowslrs : RowsOk lrs l) (hll : l.length ≤ 9223372036854775807) (hcl : l.length ≤ lk) (R : Bool) (hR : param_empty l = R) : ConV Tryz.prog 201 [.slice lq l.length lk] [sl cSlc lq lrs, rowsF cInt lrs l] (bv R) := by
 refine con_of_J (n := 23) Tryz.func201 rfl (by kernel_rfl) rfl rfl [(0, .slice lq l.length lk)] ⟨rfl, trivial⟩ fun X hX hr hD => ?_
 replace hR := (param_empty.eq_1 ..).symm.trans hR
 have := hrowslrs.1
 refine sr 1 rfl ?_
 refine ip 1 0 [] (by kernel_rfl) ?_
 refine ie ?_
 refine sr 21 rfl ?_
 refine ip 4 17 [(6, bv (decide ((l.length : Int) = 1)))] (by kernel_rfl) ?_
 refine iand 7 10 6 13 (decide (((l.getD 0 []).length : Int) = 1)) rfl (by kernel_rfl) (fun g1 => ?_) ?_
 ·have g1p : (l.length : Int) = 1 := by simpa using g1
  refine ip 1 6 [(7, .slice lq l.length lk)] (by kernel_rfl) ?_
  refine JI_base 0 rfl (by omega) fun a2 hq3 => ?_
  refine JI_fact1 (rows_atD (k := 0) (d := (⟨none, 0, 0⟩ : Slc)) hrowslrs 1 rfl (by have := hrowslrs.1; omega)) ?_
  have := rows_cap hrowslrs (k := 0) (d := (⟨none, 0, 0⟩ : Slc)) (by have := hrowslrs.1; omega)
  refine ix rfl (det_ixq slt163 rfl rfl hq3 rfl 0 rfl (by omega)) ?_
  refine ip 1 4 [(9, pa (Addr.add a2 (0 * 1)))] (by kernel_rfl) ?_
  refine ix rfl (det_conv (det_ld_one (v := .slice ((lrs.getD 0 (⟨none, 0, 0⟩ : Slc)).q) ((lrs.getD 0 (⟨none, 0, 0⟩ : Slc)).n) ((lrs.getD 0 (⟨none, 0, 0⟩ : Slc)).k)) (us := [.slice ((lrs.getD 0 (⟨none, 0, 0⟩ : Slc)).q) ((lrs.getD 0 (⟨none, 0, 0⟩ : Slc)).n) ((lrs.getD 0 (⟨none, 0, 0⟩ : Slc)).k)]) ty168 rfl rfl (at_part0 (at_slq (c := cSlc) (sz := 1) hq3 (fun _ => rfl) 1 rfl (gd (⟨none, 0, 0⟩ : Slc) (by have := hrowslrs.1; omega))) (ws := [.slice ((lrs.getD 0 (⟨none, 0, 0⟩ : Slc)).q) ((lrs.getD 0 (⟨none, 0, 0⟩ : Slc)).n) ((lrs.getD 0 (⟨none, 0, 0⟩ : Slc)).k)]) 1 rfl) rfl) (rows_val hrowslrs (by have := hrowslrs.1; omega))) ?_
  refine ip 3 0 [(13, bv (decide (((l.getD 0 []).length : Int) = 1)))] (by kernel_rfl) ?_
  exact JI_end (armI 6 6 13 g1 (Foll.pick [1, 2] rfl) (mk [] rfl) rfl rfl rfl rfl rfl)
 refine ip 1 9 [(14, bv ((decide ((l.length : Int) = 1)) && (decide (((l.getD 0 []).length : Int) = 1))))] (by kernel_rfl) ?_
 refine iand 8 1 14 22 (decide (((l.getD 0 []).getD 0 0) = (-1))) rfl (by kernel_rfl) (fun g4 => ?_) ?_
 ·have g4p : ((l.length : Int) = 1) ∧ (((l.getD 0 []).length : Int) = 1) := by simpa using g4
  refine ip 1 7 [(15, .slice lq l.length lk)] (by kernel_rfl) ?_
  refine JI_base 0 rfl (by omega) fun a5 hq6 => ?_
  refine JI_fact1 (rows_atD (k := 0) (d := (⟨none, 0, 0⟩ : Slc)) hrowslrs 1 rfl (by have := hrowslrs.1; omega)) ?_
  have := rows_cap hrowslrs (k := 0) (d := (⟨none, 0, 0⟩ : Slc)) (by have := hrowslrs.1; omega)
  refine ix rfl (det_ixq slt163 rfl rfl hq6 rfl 0 rfl (by omega)) ?_
  refine ip 1 5 [(17, pa (Addr.add a5 (0 * 1)))] (by kernel_rfl) ?_
  refine ix rfl (det_conv (det_ld_one (v := .slice ((lrs.getD 0 (⟨none, 0, 0⟩ : Slc)).q) ((lrs.getD 0 (⟨none, 0, 0⟩ : Slc)).n) ((lrs.getD 0 (⟨none, 0, 0⟩ : Slc)).k)) (us := [.slice ((lrs.getD 0 (⟨none, 0, 0⟩ : Slc)).q) ((lrs.getD 0 (⟨none, 0, 0⟩ : Slc)).n) ((lrs.getD 0 (⟨none, 0, 0⟩ : Slc)).k)]) ty168 rfl rfl (at_part0 (at_slq (c := cSlc) (sz := 1) hq6 (fun _ => rfl) 1 rfl (gd (⟨none, 0, 0⟩ : Slc) (by have := hrowslrs.1; omega))) (ws := [.slice ((lrs.getD 0 (⟨none, 0, 0⟩ : Slc)).q) ((lrs.getD 0 (⟨none, 0, 0⟩ : Slc)).n) ((lrs.getD 0 (⟨none, 0, 0⟩ : Slc)).k)]) 1 rfl) rfl) (rows_val hrowslrs (by have := hrowslrs.1; omega))) ?_
  refine JI_base 0 rfl (by omega) fun a7 hq8 => ?_
  refine ix rfl (det_ixq slt168 rfl rfl hq8 rfl 0 rfl (by omega)) ?_
  refine ix rfl (det_ld_one (v := iv ((l.getD 0 []).getD 0 0)) (us := [iv ((l.getD 0 []).getD 0 0)]) ty3 rfl rfl (at_slq (c := cInt) (sz := 1) hq8 (fun _ => rfl) 0 rfl (gd 0 (by omega))) rfl) ?_
  refine ip 2 0 [(22, bv (decide (((l.getD 0 []).getD 0 0) = (-1))))] (by kernel_rfl) ?_
  exact JI_end (armI 8 14 22 g4 (Foll.pick [1, 2] rfl) (mk [] rfl) rfl rfl rfl rfl rfl)
 refine ip 1 0 [(2, bv (((decide ((l.length : Int) = 1)) && (decide (((l.getD 0 []).length : Int) = 1))) && (decide (((l.getD 0 []).getD 0 0) = (-1)))))] (by kernel_rfl) ?_
 refine ie ?_
 refine J_ret ?_
 subst hR
 exact ends_ret rfl ⟨hr, hD⟩ (by simp [hD]) (res1 rfl (resV_tmp rfl)) () (by rfl) (mk [] rfl) Foll.nil

def param_Check_1_1 (n : Int) : Bool :=
 ((decide (n < (-1))) || (decide ((9999 : Int) < n)))

theorem param_Check_1_1_c (n : Int) (R : Bool) (hR : param_Check_1_1 n = R) : ConV Tryz.prog 200 [iv n] [] (bv R) := by
 refine con_of_J (n := 9) Tryz.func200 rfl (by kernel_rfl) rfl rfl [(0, iv n)] ⟨rfl, trivial⟩ fun X hX hr hD => ?_
 replace hR := (param_Check_1_1.eq_1 ..).symm.trans hR
 refine sr 1 rfl ?_
 refine ip 1 0 [] (by kernel_rfl) ?_
 refine ie ?_
 refine sr 7 rfl ?_
 refine ip 3 4 [(5, bv (decide (n < (-1))))] (by kernel_rfl) ?_
 refine ior 3 1 5 8 (decide ((9999 : Int) < n)) rfl (by kernel_rfl) (fun g1 => ?_) ?_
 ·have g1p : ¬ (n < (-1)) := by simpa using g1
  refine ip 3 0 [(8, bv (decide ((9999 : Int) < n)))] (by kernel_rfl) ?_
  exact JI_end (armI 2 5 8 g1 Foll.nil (mk [] rfl) rfl rfl rfl rfl rfl)
 refine ip 1 0 [(2, bv ((decide (n < (-1))) || (decide ((9999 : Int) < n))))] (by kernel_rfl) ?_
 refine ie ?_
 refine J_ret ?_
 subst hR
 exact ends_ret rfl ⟨hr, hD⟩ (by simp [hD]) (res1 rfl (resV_tmp rfl)) () (by rfl) (mk [] rfl) Foll.nil

def slices_IndexFunc_int_int_l0 : List Int → Nat → Int
 | [], t8 => (-1)
 | hd_l0 :: tl_l0, t8 => (bif (param_Check_1_1 hd_l0) then (t8 : Int) else slices_IndexFunc_int_int_l0 tl_l0 (t8 + 1))
def slices_IndexFunc_int_int (s : List Int) : Int :=
 slices_IndexFunc_int_int_l0 s 0

theorem slices_IndexFunc_int_int_c (s : List Int) (sq : Option Addr) (sk : Nat) (hls : s.length ≤ 9223372036854775807) (hcs : s.length ≤ sk) (R : Int) (hR : slices_IndexFunc_int_int s = R) : ConV Tryz.prog 226 [.slice sq s.length sk, .func (.func 200) #[] #[]] [sl cInt sq s] (iv R) := by
 refine con_of_J (n := 19) Tryz.func226 rfl (by kernel_rfl) rfl rfl [(0, .slice sq s.length sk), (1, .func (.func 200) #[] #[])] ⟨rfl, rfl, trivial⟩ fun X hX hr hD => ?_
 replace hR := (slices_IndexFunc_int_int.eq_1 ..).symm.trans hR
 refine sr 1 rfl ?_
 refine ip 1 0 [] (by kernel_rfl) ?_
 refine ie ?_
 refine J_seq ?_
 refine sr 3 rfl ?_
 refine ip 3 0 [(7, iv (s.length : Int)), (8, iv 0)] (by kernel_rfl) ?_
 refine ie ?_
 refine J_block ?_
 refine JL1 (fun (t8 : Nat) => t8 ≤ s.length ∧ slices_IndexFunc_int_int_l0 (s.drop t8) t8 = R) (fun (t8 : Nat) => [(0, .slice sq s.length sk), (1, .func (.func 200) #[] #[]), (7, iv (s.length : Int)), (8, iv (t8 : Int))]) (fun (t8 : Nat) => []) (fun (t8 : Nat) => [sl cInt sq s]) (fun (t8 : Nat) => s.length - t8) 0 ⟨(by omega), hR⟩ ⟨rfl, rfl, rfl, (by first | rfl | (simp only [List.length_set]; rfl) | (simp; done) | (simp; omega)), trivial⟩ (mk [] rfl) Foll.refl ?_
 rintro t8 ⟨hm1, hR⟩
 refine sr 1 rfl ?_
 refine ip 1 0 [(9, bv (decide ((t8 : Int) < (s.length : Int))))] (by kernel_rfl) ?_
 refine ie ?_
 refine J_seq ?_
 refine J_if rfl (fun h2 => ?_) (fun h2 => ?_)
 ·have h2p : (t8 : Int) < (s.length : Int) := by simpa using h2
  rw [dropc 0 (show t8 < s.length by omega)] at hR; replace hR := (slices_IndexFunc_int_int_l0.eq_2 ..).symm.trans hR
  refine J_skip ?_
  refine nx ?_
  refine J_seq ?_
  refine J_block ?_
  refine sr 2 rfl ?_
  refine ip 2 0 [(5, iv (t8 : Int))] (by kernel_rfl) ?_
  refine ie ?_
  refine sr 6 rfl ?_
  refine ip 3 3 [(11, .func (.func 200) #[] #[]), (12, .slice sq s.length sk), (13, iv (t8 : Int))] (by kernel_rfl) ?_
  refine JI_base 0 rfl (by omega) fun a3 hq4 => ?_
  refine ix rfl (det_ixq slt168 rfl rfl hq4 rfl t8 rfl (by omega)) ?_
  refine ix rfl (det_ld_one (v := iv (s.getD t8 0)) (us := [iv (s.getD t8 0)]) ty3 rfl rfl (at_slq (c := cInt) (sz := 1) hq4 (fun _ => rfl) 0 rfl (gd 0 (by omega))) rfl) ?_
  refine ixc rfl (det_call (param_Check_1_1_c (s.getD t8 0) _ rfl) rfl rfl rfl rfl rfl Foll.nil) ?_
  refine ie ?_
  refine J_if rfl (fun h5 => ?_) (fun h5 => ?_)
  ·replace hR := bt hR h5
   refine sr 2 rfl ?_
   refine ip 2 0 [(4, iv (t8 : Int))] (by kernel_rfl) ?_
   refine ie ?_
   refine J_ret ?_
   subst hR
   exact ends_ret rfl ⟨hr, hD⟩ (by simp [hD]) (res1 rfl (resV_tmp rfl)) () (by rfl) (mk [] rfl) Foll.nil
  ·replace hR := bf hR h5
   refine J_skip ?_
   refine nx ?_
   refine J_region 2 rfl ?_
   refine ix rfl (det_add64 rfl rfl rfl rfl (by omega)) ?_
   refine ip 1 0 [(8, iv ((t8 : Int) + 1))] (by kernel_rfl) ?_
   refine JI_end ?_
   exact againL1 (z1 := t8) (t8 + 1) ⟨(by omega), hR⟩ (by (try dsimp only); omega) ⟨rfl, rfl, rfl, (by first | rfl | (simp only [List.length_set]; rfl) | (simp; done) | (simp; omega)), trivial⟩ (mk [] rfl) Foll.refl
 ·have h2p : ¬ ((t8 : Int) < (s.length : Int)) := by simpa using h2
  rw [dropn h2p] at hR; replace hR := (slices_IndexFunc_int_int_l0.eq_1 ..).symm.trans hR
  refine J_exit ?_
  refine nx ?_
  refine sr 1 rfl ?_
  refine ip 1 0 [(4, iv (-1))] (by kernel_rfl) ?_
  refine ie ?_
  refine J_ret ?_
  subst hR
  exact ends_ret rfl ⟨hr, hD⟩ (by simp [hD]) (res1 rfl (resV_tmp rfl)) () (by rfl) (mk [] rfl) Foll.nil

def slices_ContainsFunc_int_int (s : List Int) : Bool :=
 (decide ((0 : Int) ≤ (slices_IndexFunc_int_int s)))

theorem slices_ContainsFunc_int_int_c (s : List Int) (sq : Option Addr) (sk : Nat) (hls : s.length ≤ 9223372036854775807) (hcs : s.length ≤ sk) (R : Bool) (hR : slices_ContainsFunc_int_int s = R) : ConV Tryz.prog 199 [.slice sq s.length sk, .func (.func 200) #[] #[]] [sl cInt sq s] (bv R) := by
 refine con_of_J (n := 9) Tryz.func199 rfl (by kernel_rfl) rfl rfl [(0, .slice sq s.length sk), (1, .func (.func 200) #[] #[])] ⟨rfl, rfl, trivial⟩ fun X hX hr hD => ?_
 replace hR := (slices_ContainsFunc_int_int.eq_1 ..).symm.trans hR
 refine sr 1 rfl ?_
 refine ip 1 0 [] (by kernel_rfl) ?_
 refine ie ?_
 refine sr 5 rfl ?_
 refine ip 2 3 [(5, .slice sq s.length sk), (6, .func (.func 200) #[] #[])] (by kernel_rfl) ?_
 refine ixc rfl (det_call (slices_IndexFunc_int_int_c s sq sk (by first | omega | (simp <;> omega) | (dsimp only; omega) | decide) (by first | omega | (simp <;> omega) | (dsimp only; omega) | decide) _ rfl) rfl rfl rfl rfl rfl Foll.refl) ?_
 refine ip 2 0 [(4, bv (decide ((0 : Int) ≤ (slices_IndexFunc_int_int s))))] (by kernel_rfl) ?_
 refine ie ?_
 refine J_ret ?_
 subst hR
 exact ends_ret rfl ⟨hr, hD⟩ (by simp [hD]) (res1 rfl (resV_tmp rfl)) () (by rfl) (mk [] rfl) Foll.nil

def param_Check_1 (p : List Int) : Bool :=
 (((decide ((p.length : Int) = 0)) || (decide ((6 : Int) < (p.length : Int)))) || (slices_ContainsFunc_int_int p))

theorem param_Check_1_c (p : List Int) (pq : Option Addr) (pk : Nat) (hlp : p.length ≤ 9223372036854775807) (hcp : p.length ≤ pk) (R : Bool) (hR : param_Check_1 p = R) : ConV Tryz.prog 198 [ag [.slice pq p.length pk]] [sl cInt pq p] (bv R) := by
 refine con_of_J (n := 18) Tryz.func198 rfl (by kernel_rfl) rfl rfl [(0, ag [.slice pq p.length pk])] ⟨rfl, trivial⟩ fun X hX hr hD => ?_
 replace hR := (param_Check_1.eq_1 ..).symm.trans hR
 refine sr 2 rfl ?_
 refine it rfl (tri_box (cs := [.slice pq p.length pk]) rfl rfl rfl) fun b1 => ?_
 refine ip 1 0 [] (by kernel_rfl) ?_
 refine ie ?_
 refine sr 16 rfl ?_
 refine ip 1 15 [(3, pt b1 0)] (by kernel_rfl) ?_
 refine ix rfl (det_own_one (v := .slice pq p.length pk) ty168 rfl rfl 0 rfl rfl) ?_
 refine ip 3 11 [(7, bv (decide ((p.length : Int) = 0)))] (by kernel_rfl) ?_
 refine ior 5 6 7 12 (decide ((6 : Int) < (p.length : Int))) rfl (by kernel_rfl) (fun g2 => ?_) ?_
 ·have g2p : ¬ ((p.length : Int) = 0) := by simpa using g2
  refine ip 1 4 [(8, pt b1 0)] (by kernel_rfl) ?_
  refine ix rfl (det_own_one (v := .slice pq p.length pk) ty168 rfl rfl 0 rfl rfl) ?_
  refine ip 3 0 [(12, bv (decide ((6 : Int) < (p.length : Int))))] (by kernel_rfl) ?_
  exact JI_end (armI 4 7 12 g2 Foll.refl (mk [true] rfl) rfl rfl rfl rfl rfl)
 refine ip 1 5 [(13, bv ((decide ((p.length : Int) = 0)) || (decide ((6 : Int) < (p.length : Int)))))] (by kernel_rfl) ?_
 refine ior 4 1 13 17 (slices_ContainsFunc_int_int p) rfl (by kernel_rfl) (fun g3 => ?_) ?_
 ·have g3p : ¬ (((p.length : Int) = 0) ∨ ((6 : Int) < (p.length : Int))) := by simpa using g3
  refine ip 1 3 [(14, pt b1 0)] (by kernel_rfl) ?_
  refine ix rfl (det_own_one (v := .slice pq p.length pk) ty168 rfl rfl 0 rfl rfl) ?_
  refine ixc rfl (det_call (slices_ContainsFunc_int_int_c p pq pk (by first | omega | (simp <;> omega) | (dsimp only; omega) | decide) (by first | omega | (simp <;> omega) | (dsimp only; omega) | decide) _ rfl) rfl rfl rfl rfl rfl Foll.refl) ?_
  refine ip 1 0 [(17, bv (slices_ContainsFunc_int_int p))] (by kernel_rfl) ?_
  exact JI_end (armI 5 13 17 g3 Foll.refl (mk [true] rfl) rfl rfl rfl rfl rfl)
 refine ip 1 0 [(2, bv (((decide ((p.length : Int) = 0)) || (decide ((6 : Int) < (p.length : Int)))) || (slices_ContainsFunc_int_int p)))] (by kernel_rfl) ?_
 refine ie ?_
 refine J_ret ?_
 subst hR
 exact ends_ret rfl ⟨hr, hD⟩ (by simp [hD]) (res1 rfl (resV_tmp rfl)) () (by rfl) (mk [false] rfl) Foll.nil

def slices_IndexFunc_api_Param_api_Param_l0 : List (List Int) → Nat → Int
 | [], t8 => (-1)
 | hd_l0 :: tl_l0, t8 => (bif (param_Check_1 hd_l0) then (t8 : Int) else slices_IndexFunc_api_Param_api_Param_l0 tl_l0 (t8 + 1))
def slices_IndexFunc_api_Param_api_Param (s : List (List Int)) : Int :=
 slices_IndexFunc_api_Param_api_Param_l0 s 0

theorem slices_IndexFunc_api_Param_api_Param_c (s : List (List Int)) (sq : Option Addr) (srs : List Slc) (sk : Nat) (hrowssrs : RowsOk srs s) (hls : s.length ≤ 9223372036854775807) (hcs : s.length ≤ sk) (R : Int) (hR : slices_IndexFunc_api_Param_api_Param s = R) : ConV Tryz.prog 227 [.slice sq s.length sk, .func (.func 198) #[] #[]] [sl cSlc sq srs, rowsF cInt srs s] (iv R) := by
 refine con_of_J (n := 19) Tryz.func227 rfl (by kernel_rfl) rfl rfl [(0, .slice sq s.length sk), (1, .func (.func 198) #[] #[])] ⟨rfl, rfl, trivial⟩ fun X hX hr hD => ?_
 replace hR := (slices_IndexFunc_api_Param_api_Param.eq_1 ..).symm.trans hR
 have := hrowssrs.1
 refine sr 1 rfl ?_
 refine ip 1 0 [] (by kernel_rfl) ?_
 refine ie ?_
 refine J_seq ?_
 refine sr 3 rfl ?_
 refine ip 3 0 [(7, iv (s.length : Int)), (8, iv 0)] (by kernel_rfl) ?_
 refine ie ?_
 refine J_block ?_
 refine JL1 (fun (t8 : Nat) => t8 ≤ s.length ∧ slices_IndexFunc_api_Param_api_Param_l0 (s.drop t8) t8 = R) (fun (t8 : Nat) => [(0, .slice sq s.length sk), (1, .func (.func 198) #[] #[]), (7, iv (s.length : Int)), (8, iv (t8 : Int))]) (fun (t8 : Nat) => []) (fun (t8 : Nat) => [sl cSlc sq srs, rowsF cInt srs s]) (fun (t8 : Nat) => s.length - t8) 0 ⟨(by omega), hR⟩ ⟨rfl, rfl, rfl, (by first | rfl | (simp only [List.length_set]; rfl) | (simp; done) | (simp; omega)), trivial⟩ (mk [] rfl) Foll.refl ?_
 rintro t8 ⟨hm1, hR⟩
 refine sr 1 rfl ?_
 refine ip 1 0 [(9, bv (decide ((t8 : Int) < (s.length : Int))))] (by kernel_rfl) ?_
 refine ie ?_
 refine J_seq ?_
 refine J_if rfl (fun h2 => ?_) (fun h2 => ?_)
 ·have h2p : (t8 : Int) < (s.length : Int) := by simpa using h2
  rw [dropc [] (show t8 < s.length by omega)] at hR; replace hR := (slices_IndexFunc_api_Param_api_Param_l0.eq_2 ..).symm.trans hR
  refine J_skip ?_
  refine nx ?_
  refine J_seq ?_
  refine J_block ?_
  refine sr 2 rfl ?_
  refine ip 2 0 [(5, iv (t8 : Int))] (by kernel_rfl) ?_
  refine ie ?_
  refine sr 6 rfl ?_
  refine ip 3 3 [(11, .func (.func 198) #[] #[]), (12, .slice sq s.length sk), (13, iv (t8 : Int))] (by kernel_rfl) ?_
  refine JI_base 0 rfl (by omega) fun a3 hq4 => ?_
  refine JI_fact1 (rows_atD (k := t8) (d := (⟨none, 0, 0⟩ : Slc)) hrowssrs 1 rfl (by have := hrowssrs.1; omega)) ?_
  have := rows_cap hrowssrs (k := t8) (d := (⟨none, 0, 0⟩ : Slc)) (by have := hrowssrs.1; omega)
  refine ix rfl (det_ixq slt163 rfl rfl hq4 rfl t8 rfl (by omega)) ?_
  refine ix rfl (det_conv (det_ld_agg (us := [.slice ((srs.getD t8 (⟨none, 0, 0⟩ : Slc)).q) ((srs.getD t8 (⟨none, 0, 0⟩ : Slc)).n) ((srs.getD t8 (⟨none, 0, 0⟩ : Slc)).k)]) ty217 rfl rfl (at_slq (c := cSlc) (sz := 1) hq4 (fun _ => rfl) 1 rfl (gd (⟨none, 0, 0⟩ : Slc) (by have := hrowssrs.1; omega))) rfl) (congrArg (fun z => ag [z]) (rows_val hrowssrs (by have := hrowssrs.1; omega)))) ?_
  refine ixc rfl (det_call (param_Check_1_c (s.getD t8 []) ((srs.getD t8 (⟨none, 0, 0⟩ : Slc)).q) ((srs.getD t8 (⟨none, 0, 0⟩ : Slc)).k) (by first | omega | (simp <;> omega) | (dsimp only; omega) | decide) (by first | omega | (simp <;> omega) | (dsimp only; omega) | decide) _ rfl) rfl rfl rfl rfl rfl (Foll.pick [0] rfl)) ?_
  refine ie ?_
  refine J_if rfl (fun h5 => ?_) (fun h5 => ?_)
  ·replace hR := bt hR h5
   refine sr 2 rfl ?_
   refine ip 2 0 [(4, iv (t8 : Int))] (by kernel_rfl) ?_
   refine ie ?_
   refine J_ret ?_
   subst hR
   exact ends_ret rfl ⟨hr, hD⟩ (by simp [hD]) (res1 rfl (resV_tmp rfl)) () (by rfl) (mk [] rfl) Foll.nil
  ·replace hR := bf hR h5
   refine J_skip ?_
   refine nx ?_
   refine J_region 2 rfl ?_
   refine ix rfl (det_add64 rfl rfl rfl rfl (by omega)) ?_
   refine ip 1 0 [(8, iv ((t8 : Int) + 1))] (by kernel_rfl) ?_
   refine JI_end ?_
   exact againL1 (z1 := t8) (t8 + 1) ⟨(by omega), hR⟩ (by (try dsimp only); omega) ⟨rfl, rfl, rfl, (by first | rfl | (simp only [List.length_set]; rfl) | (simp; done) | (simp; omega)), trivial⟩ (mk [] rfl) (Foll.pick [1, 2] rfl)
 ·have h2p : ¬ ((t8 : Int) < (s.length : Int)) := by simpa using h2
  rw [dropn h2p] at hR; replace hR := (slices_IndexFunc_api_Param_api_Param_l0.eq_1 ..).symm.trans hR
  refine J_exit ?_
  refine nx ?_
  refine sr 1 rfl ?_
  refine ip 1 0 [(4, iv (-1))] (by kernel_rfl) ?_
  refine ie ?_
  refine J_ret ?_
  subst hR
  exact ends_ret rfl ⟨hr, hD⟩ (by simp [hD]) (res1 rfl (resV_tmp rfl)) () (by rfl) (mk [] rfl) Foll.nil

def slices_ContainsFunc_api_Param_api_Param (s : List (List Int)) : Bool :=
 (decide ((0 : Int) ≤ (slices_IndexFunc_api_Param_api_Param s)))

theorem slices_ContainsFunc_api_Param_api_Param_c (s : List (List Int)) (sq : Option Addr) (srs : List Slc) (sk : Nat) (hrowssrs : RowsOk srs s) (hls : s.length ≤ 9223372036854775807) (hcs : s.length ≤ sk) (R : Bool) (hR : slices_ContainsFunc_api_Param_api_Param s = R) : ConV Tryz.prog 202 [.slice sq s.length sk, .func (.func 198) #[] #[]] [sl cSlc sq srs, rowsF cInt srs s] (bv R) := by
 refine con_of_J (n := 9) Tryz.func202 rfl (by kernel_rfl) rfl rfl [(0, .slice sq s.length sk), (1, .func (.func 198) #[] #[])] ⟨rfl, rfl, trivial⟩ fun X hX hr hD => ?_
 replace hR := (slices_ContainsFunc_api_Param_api_Param.eq_1 ..).symm.trans hR
 have := hrowssrs.1
 refine sr 1 rfl ?_
 refine ip 1 0 [] (by kernel_rfl) ?_
 refine ie ?_
 refine sr 5 rfl ?_
 refine ip 2 3 [(5, .slice sq s.length sk), (6, .func (.func 198) #[] #[])] (by kernel_rfl) ?_
 refine ixc rfl (det_call (slices_IndexFunc_api_Param_api_Param_c s sq srs sk hrowssrs (by first | omega | (simp <;> omega) | (dsimp only; omega) | decide) (by first | omega | (simp <;> omega) | (dsimp only; omega) | decide) _ rfl) rfl rfl rfl rfl rfl Foll.refl) ?_
 refine ip 2 0 [(4, bv (decide ((0 : Int) ≤ (slices_IndexFunc_api_Param_api_Param s))))] (by kernel_rfl) ?_
 refine ie ?_
 refine J_ret ?_
 subst hR
 exact ends_ret rfl ⟨hr, hD⟩ (by simp [hD]) (res1 rfl (resV_tmp rfl)) () (by rfl) (mk [] rfl) Foll.nil

def param_Check (l : List (List Int)) : Int :=
 (bif (((decide ((16 : Int) < (l.length : Int))) || (param_empty l)) || (slices_ContainsFunc_api_Param_api_Param l)) then 150 else 0)

def parOk (l : List (List Int)) : Prop := l.length ≤ 16 ∧ ∀ r ∈ l, 1 ≤ r.length ∧ r.length ≤ 6 ∧ ∀ n ∈ r, -1 ≤ n ∧ n ≤ 9999
theorem parOk_idx1 : ∀ (s : List Int) (t : Nat), slices_IndexFunc_int_int_l0 s t < 0 → ∀ n ∈ s, -1 ≤ n ∧ n ≤ 9999
 | [], t, _, n, hn => by cases hn
 | x :: s, t, h, n, hn => by
  simp only [slices_IndexFunc_int_int_l0] at h
  cases hc : param_Check_1_1 x with
  | true => rw [hc, cond_true] at h; omega
  | false =>
   rw [hc, cond_false] at h
   unfold param_Check_1_1 at hc
   simp only [Bool.or_eq_false_iff, decide_eq_false_iff_not] at hc
   rcases List.mem_cons.1 hn with rfl | hn
   ·omega
   ·exact parOk_idx1 s (t + 1) h n hn
theorem parOk_idx2 : ∀ (s : List (List Int)) (t : Nat), slices_IndexFunc_api_Param_api_Param_l0 s t < 0 → ∀ r ∈ s, param_Check_1 r = false
 | [], t, _, n, hn => by cases hn
 | x :: s, t, h, n, hn => by
  simp only [slices_IndexFunc_api_Param_api_Param_l0] at h
  cases hc : param_Check_1 x with
  | true => rw [hc, cond_true] at h; omega
  | false =>
   rw [hc, cond_false] at h
   rcases List.mem_cons.1 hn with rfl | hn
   ·exact hc
   ·exact parOk_idx2 s (t + 1) h n hn
theorem parOk_check {r : List Int} (h : param_Check_1 r = false) : 1 ≤ r.length ∧ r.length ≤ 6 ∧ ∀ n ∈ r, -1 ≤ n ∧ n ≤ 9999 := by
 unfold param_Check_1 at h
 simp only [Bool.or_eq_false_iff, decide_eq_false_iff_not] at h
 have h3 := h.2; unfold slices_ContainsFunc_int_int slices_IndexFunc_int_int at h3; simp only [decide_eq_false_iff_not] at h3
 exact ⟨by omega, by omega, parOk_idx1 r 0 (by omega)⟩
theorem param_Check_ok {l : List (List Int)} (h : param_Check l = 0) : parOk l := by
 unfold param_Check at h
 generalize hc : (((decide ((16 : Int) < (l.length : Int))) || (param_empty l)) || (slices_ContainsFunc_api_Param_api_Param l)) = c at h
 cases c with
 | true => simp at h
 | false =>
  simp only [Bool.or_eq_false_iff, decide_eq_false_iff_not] at hc
  have h3 := hc.2; unfold slices_ContainsFunc_api_Param_api_Param slices_IndexFunc_api_Param_api_Param at h3; simp only [decide_eq_false_iff_not] at h3
  exact ⟨by omega, fun r hr => parOk_check (parOk_idx2 l 0 (by omega) r hr)⟩
theorem parOk.at {l : List (List Int)} (h : parOk l) (i k : Nat) : -1 ≤ (l.getD i []).getD k 0 ∧ (l.getD i []).getD k 0 ≤ 9999 := by
 by_cases hi : i < l.length
 ·by_cases hk : k < (l.getD i []).length
  ·rw [gdE hk]
   have hm : l.getD i [] ∈ l := by rw [gdE hi]; exact List.getElem_mem hi
   exact (h.2 _ hm).2.2 _ (List.getElem_mem hk)
  ·rw [show (l.getD i []).getD k 0 = 0 from gdN hk]; omega
 ·rw [show l.getD i [] = [] from gdN hi]; simp
theorem parOk.row {l : List (List Int)} (h : parOk l) (i : Nat) : (l.getD i []).length ≤ 6 := by
 by_cases hi : i < l.length
 ·have hm : l.getD i [] ∈ l := by rw [gdE hi]; exact List.getElem_mem hi
  exact (h.2 _ hm).2.1
 ·rw [gdN hi]; simp

theorem param_Check_c (l : List (List Int)) (lq : Option Addr) (lrs : List Slc) (lk : Nat) (hrowslrs : RowsOk lrs l) (hll : l.length ≤ 9223372036854775807) (hcl : l.length ≤ lk) (R : Int) (hR : param_Check l = R) : ConV Tryz.prog 148 [.slice lq l.length lk] [sl cSlc lq lrs, rowsF cInt lrs l] (iv R) := by
 refine con_of_J (n := 16) Tryz.func148 rfl (by kernel_rfl) rfl rfl [(0, .slice lq l.length lk)] ⟨rfl, trivial⟩ fun X hX hr hD => ?_
 replace hR := (param_Check.eq_1 ..).symm.trans hR
 have := hrowslrs.1
 refine sr 1 rfl ?_
 refine ip 1 0 [] (by kernel_rfl) ?_
 refine ie ?_
 refine sr 1 rfl ?_
 refine ip 1 0 [(3, .func (.func 198) #[] #[])] (by kernel_rfl) ?_
 refine ie ?_
 refine J_seq ?_
 refine sr 12 rfl ?_
 refine ip 4 8 [(7, bv (decide ((16 : Int) < (l.length : Int))))] (by kernel_rfl) ?_
 refine ior 3 5 7 10 (param_empty l) rfl (by kernel_rfl) (fun g1 => ?_) ?_
 ·have g1p : ¬ ((16 : Int) < (l.length : Int)) := by simpa using g1
  refine ip 1 2 [(8, .slice lq l.length lk)] (by kernel_rfl) ?_
  refine ixc rfl (det_call (param_empty_c l lq lrs lk hrowslrs (by first | omega | (simp <;> omega) | (dsimp only; omega) | decide) (by first | omega | (simp <;> omega) | (dsimp only; omega) | decide) _ rfl) rfl rfl rfl rfl rfl Foll.refl) ?_
  refine ip 1 0 [(10, bv (param_empty l))] (by kernel_rfl) ?_
  exact JI_end (armI 4 7 10 g1 Foll.refl (mk [] rfl) rfl rfl rfl rfl rfl)
 refine ip 1 4 [(11, bv ((decide ((16 : Int) < (l.length : Int))) || (param_empty l)))] (by kernel_rfl) ?_
 refine ior 4 0 11 15 (slices_ContainsFunc_api_Param_api_Param l) rfl (by kernel_rfl) (fun g2 => ?_) ?_
 ·have g2p := g2; try simp at g2p
  refine ip 2 2 [(12, .slice lq l.length lk), (13, .func (.func 198) #[] #[])] (by kernel_rfl) ?_
  refine ixc rfl (det_call (slices_ContainsFunc_api_Param_api_Param_c l lq lrs lk hrowslrs (by first | omega | (simp <;> omega) | (dsimp only; omega) | decide) (by first | omega | (simp <;> omega) | (dsimp only; omega) | decide) _ rfl) rfl rfl rfl rfl rfl Foll.refl) ?_
  refine ip 1 0 [(15, bv (slices_ContainsFunc_api_Param_api_Param l))] (by kernel_rfl) ?_
  exact JI_end (armI 5 11 15 g2 Foll.refl (mk [] rfl) rfl rfl rfl rfl rfl)
 refine ie ?_
 refine J_if rfl (fun h3 => ?_) (fun h3 => ?_)
 ·have h3p := h3; try simp at h3p
  replace hR := bt hR h3
  refine sr 1 rfl ?_
  refine ip 1 0 [(2, iv 150)] (by kernel_rfl) ?_
  refine ie ?_
  refine J_ret ?_
  subst hR
  exact ends_ret rfl ⟨hr, hD⟩ (by simp [hD]) (res1 rfl (resV_tmp rfl)) () (by rfl) (mk [] rfl) Foll.nil
 ·have h3p := h3; try simp at h3p
  replace hR := bf hR h3
  refine J_skip ?_
  refine nx ?_
  refine sr 1 rfl ?_
  refine ip 1 0 [(2, iv 0)] (by kernel_rfl) ?_
  refine ie ?_
  refine J_ret ?_
  subst hR
  exact ends_ret rfl ⟨hr, hD⟩ (by simp [hD]) (res1 rfl (resV_tmp rfl)) () (by rfl) (mk [] rfl) Foll.nil

def param_parts (l : List (List Int)) : List (List Int) :=
 l

theorem param_parts_c (l : List (List Int)) (lq : Option Addr) (lrs : List Slc) (lk : Nat) (hrowslrs : RowsOk lrs l) (hll : l.length ≤ 9223372036854775807) (hcl : l.length ≤ lk) (R : List (List Int)) (hR : param_parts l = R) : Con Tryz.prog 149 [.slice lq l.length lk] [] [sl cSlc lq lrs, rowsF cInt lrs l] (Addr × {t : Option Addr × List Slc × Nat // RowsOk t.2.1 R ∧ R.length ≤ t.2.2 ∧ R.length ≤ 9223372036854775807}) (fun x => .func (.func 203) #[] #[pa x.1]) (fun x => []) (fun x => [at_ x.1 [.slice x.2.1.1 R.length x.2.1.2.2], sl cSlc x.2.1.1 x.2.1.2.1, rowsF cInt x.2.1.2.1 R]) := by
 refine con_of_J (n := 4) Tryz.func149 rfl (by kernel_rfl) rfl rfl [(0, .slice lq l.length lk)] ⟨rfl, trivial⟩ fun X hX hr hD => ?_
 replace hR := (param_parts.eq_1 ..).symm.trans hR
 have := hrowslrs.1
 refine sr 2 rfl ?_
 refine it rfl (tri_box (cs := [.slice lq l.length lk]) rfl rfl rfl) fun b1 => ?_
 refine JI_fix 0 rfl ?_
 refine ip 1 0 [] (by kernel_rfl) ?_
 refine ie ?_
 refine sr 2 rfl ?_
 refine ip 2 0 [(2, .func (.func 203) #[] #[pa ⟨b1, 0, none⟩])] (by kernel_rfl) ?_
 refine ie ?_
 refine J_ret ?_
 subst hR
 exact ends_ret rfl ⟨hr, hD⟩ (by simp [hD]) (res1 rfl (resV_tmp rfl)) (⟨b1, 0, none⟩, ⟨(lq, lrs, lk), ⟨hrowslrs, (by first | omega | (simp <;> omega) | (dsimp only; omega) | decide), (by first | omega | (simp <;> omega) | (dsimp only; omega) | decide)⟩⟩) (by rfl) (mk [] rfl) (Foll.con1 (at_of 0 rfl) (Foll.con1 (at_of 1 rfl) (Foll.con1 (at_of 2 rfl) Foll.nil)))

def param_parts_1_j17 (t19 : Nat) (ahead : List UInt8) (ag_param_parts_1_l3 : Nat → (List (List UInt8 × List UInt8))) (part : List UInt8) : List (List UInt8 × List UInt8) :=
 ((ahead, part) :: ag_param_parts_1_l3 (t19 + 1))
def param_parts_1_j16 (c0 : List (List Int)) (t11 : Nat) (t19 : Nat) (ag_param_parts_1_l3 : Nat → (List (List UInt8 × List UInt8))) (ahead : List UInt8) : List (List UInt8 × List UInt8) :=
 (bif (!decide (((c0.getD t11 []).getD t19 0) = (-1))) then param_parts_1_j17 t19 ahead ag_param_parts_1_l3 (Lib.itoa ((c0.getD t11 []).getD t19 0)) else param_parts_1_j17 t19 ahead ag_param_parts_1_l3 ([] : List UInt8))
def param_parts_1_l3 (c0 : List (List Int)) (t11 : Nat) (ag_param_parts_1_l2 : Nat → (List (List UInt8 × List UInt8))) : List Int → Nat → (List (List UInt8 × List UInt8))
 | [], t19 => ag_param_parts_1_l2 (t11 + 1)
 | hd_l3 :: tl_l3, t19 => (bif ((decide ((t19 : Int) = 0)) && (decide ((t11 : Int) = 0))) then param_parts_1_j16 c0 t11 t19 (param_parts_1_l3 c0 t11 ag_param_parts_1_l2 tl_l3) ([] : List UInt8) else (bif (decide ((t19 : Int) = 0)) then param_parts_1_j16 c0 t11 t19 (param_parts_1_l3 c0 t11 ag_param_parts_1_l2 tl_l3) ([59] : List UInt8) else param_parts_1_j16 c0 t11 t19 (param_parts_1_l3 c0 t11 ag_param_parts_1_l2 tl_l3) ([58] : List UInt8)))
def param_parts_1_l2 (c0 : List (List Int)) : List (List Int) → Nat → (List (List UInt8 × List UInt8))
 | [], t11 => []
 | hd_l2 :: tl_l2, t11 => param_parts_1_l3 c0 t11 (param_parts_1_l2 c0 tl_l2) hd_l2 0
def param_parts_1 (c0 : List (List Int)) : List (List UInt8 × List UInt8) :=
 param_parts_1_l2 c0 c0 0

def partOk (x : List UInt8 × List UInt8) : Prop := x.1.length ≤ 1 ∧ x.2.length ≤ 21
theorem param_parts_1_l3_ok (c0 : List (List Int)) (h : parOk c0) (t11 : Nat) (ag : Nat → List (List UInt8 × List UInt8)) (B : Nat) (hag : ∀ t, (ag t).length ≤ B ∧ ∀ x ∈ ag t, partOk x) : ∀ (s : List Int) (t : Nat), (param_parts_1_l3 c0 t11 ag s t).length ≤ s.length + B ∧ ∀ x ∈ param_parts_1_l3 c0 t11 ag s t, partOk x
 | [], t => by have := hag (t11 + 1); simp only [param_parts_1_l3, List.length_nil]; exact ⟨by omega, this.2⟩
 | n :: s, t => by
  have ih := param_parts_1_l3_ok c0 h t11 ag B hag s (t + 1)
  have hb := h.at t11 t
  have hl := itoa_len ((c0.getD t11 []).getD t 0) (by omega) (by omega)
  simp only [param_parts_1_l3, param_parts_1_j16, param_parts_1_j17, Bool.cond_eq_ite]
  repeat' split
  all_goals refine ⟨by simp only [List.length_cons]; omega, fun x hx => ?_⟩
  all_goals rcases List.mem_cons.1 hx with rfl | hx
  all_goals first | exact ih.2 x hx | exact ⟨by simp, by first | exact hl | simp⟩
theorem param_parts_1_l2_ok (c0 : List (List Int)) (h : parOk c0) : ∀ (s : List (List Int)) (t : Nat), (∀ r ∈ s, r.length ≤ 6) → (param_parts_1_l2 c0 s t).length ≤ 6 * s.length ∧ ∀ x ∈ param_parts_1_l2 c0 s t, partOk x
 | [], t, _ => ⟨by simp [param_parts_1_l2], fun x hx => by cases hx⟩
 | r :: s, t, hs => by
  have ih := fun t' => param_parts_1_l2_ok c0 h s t' (fun r hr => hs r (List.mem_cons_of_mem _ hr))
  have h6 := hs r (List.mem_cons_self ..)
  have hx := param_parts_1_l3_ok c0 h t (param_parts_1_l2 c0 s) (6 * s.length) ih r 0
  simp only [param_parts_1_l2, List.length_cons]
  exact ⟨by omega, hx.2⟩
theorem param_parts_1_ok (c0 : List (List Int)) (h : parOk c0) : (param_parts_1 c0).length ≤ 96 ∧ ∀ x ∈ param_parts_1 c0, partOk x := by
 have := param_parts_1_l2_ok c0 h c0 0 (fun r hr => (h.2 r hr).2.1)
 have h1 := h.1
 unfold param_parts_1
 exact ⟨by omega, this.2⟩

theorem param_parts_1_c (c0 : List (List Int)) (c0p : Addr) (c0q : Option Addr) (c0rs : List Slc) (c0k : Nat) (hrowsc0rs : RowsOk c0rs c0) (hlc0 : c0.length ≤ 9223372036854775807) (hcc0 : c0.length ≤ c0k) (hpo : parOk c0) (R : List (List UInt8 × List UInt8)) (hR : param_parts_1 c0 = R) : IterCon2 Tryz.prog 203 [pa c0p] [sl cSlc c0q c0rs, rowsF cInt c0rs c0, at_ c0p [.slice c0q c0.length c0k], tabP 5 pow10Cells] (fun x => sv x.1) (fun x => sv x.2) R := by
 refine iter_of_J2 (n := 45) Tryz.func203 rfl (by kernel_rfl) rfl rfl (fun l => [(0, .func (.yield l) #[] #[]), (1, pa c0p)]) (fun l => ⟨rfl, rfl, trivial⟩) fun X l I Ix L Φ hX hr hD hI0 hY => ?_
 replace hR := (param_parts_1.eq_1 ..).symm.trans hR
 have := hrowsc0rs.1
 refine sr 3 rfl ?_
 refine ix rfl (det_ld_one (v := .slice c0q c0.length c0k) (us := [.slice c0q c0.length c0k]) ty163 rfl rfl (at_of 2 rfl) rfl) ?_
 refine ip 2 0 [(10, iv (c0.length : Int)), (11, iv 0)] (by kernel_rfl) ?_
 refine ie ?_
 refine J_block ?_
 refine JL4 (fun (t11 : Nat) (R_ : List (List UInt8 × List UInt8)) (Lt : Fen.Own) (Ft : List Pers) => t11 ≤ c0.length ∧ param_parts_1_l2 c0 (c0.drop t11) t11 = R_ ∧ I R_ Lt Ft) (fun (t11 : Nat) (R_ : List (List UInt8 × List UInt8)) (Lt : Fen.Own) (Ft : List Pers) => [(0, .func (.yield l) #[] #[]), (9, .slice c0q c0.length c0k), (10, iv (c0.length : Int)), (11, iv (t11 : Int))]) (fun (t11 : Nat) (R_ : List (List UInt8 × List UInt8)) (Lt : Fen.Own) (Ft : List Pers) => (Lt ++ ([]))) (fun (t11 : Nat) (R_ : List (List UInt8 × List UInt8)) (Lt : Fen.Own) (Ft : List Pers) => (sl cSlc c0q c0rs :: rowsF cInt c0rs c0 :: at_ c0p [.slice c0q c0.length c0k] :: tabP 5 pow10Cells :: Ft)) (fun (t11 : Nat) (R_ : List (List UInt8 × List UInt8)) (Lt : Fen.Own) (Ft : List Pers) => c0.length - t11) 0 R L Φ ⟨(by omega), hR, hI0⟩ ⟨rfl, rfl, rfl, (by first | rfl | (simp only [List.length_set]; rfl) | (simp; done) | (simp; omega)), trivial⟩ (mc [L] [true] rfl (by first | rfl | (simp only [List.length_set] <;> rfl))) (Foll.con1 (at_of 0 rfl) (Foll.con1 (at_of 1 rfl) (Foll.con1 (at_of 2 rfl) (Foll.con1 (at_of 3 rfl) (Foll.dropT 4 rfl))))) ?_
 rintro t11 R_ Lt Ft ⟨hm1, hR, hILt⟩
 refine sr 1 rfl ?_
 refine ip 1 0 [(12, bv (decide ((t11 : Int) < (c0.length : Int))))] (by kernel_rfl) ?_
 refine ie ?_
 refine J_seq ?_
 refine J_if rfl (fun h2 => ?_) (fun h2 => ?_)
 ·have h2p : (t11 : Int) < (c0.length : Int) := by simpa using h2
  rw [dropc [] (show t11 < c0.length by omega)] at hR; replace hR := (param_parts_1_l2.eq_2 ..).symm.trans hR
  refine J_skip ?_
  refine nx ?_
  refine J_seq ?_
  refine J_block ?_
  refine sr 6 rfl ?_
  refine ip 1 5 [(13, iv (t11 : Int))] (by kernel_rfl) ?_
  refine JI_base 0 rfl (by omega) fun a3 hq4 => ?_
  refine JI_fact1 (rows_atD (k := t11) (d := (⟨none, 0, 0⟩ : Slc)) hrowsc0rs 1 rfl (by have := hrowsc0rs.1; omega)) ?_
  have := rows_cap hrowsc0rs (k := t11) (d := (⟨none, 0, 0⟩ : Slc)) (by have := hrowsc0rs.1; omega)
  refine ix rfl (det_ixq slt163 rfl rfl hq4 rfl t11 rfl (by omega)) ?_
  refine ix rfl (det_conv (det_ld_agg (us := [.slice ((c0rs.getD t11 (⟨none, 0, 0⟩ : Slc)).q) ((c0rs.getD t11 (⟨none, 0, 0⟩ : Slc)).n) ((c0rs.getD t11 (⟨none, 0, 0⟩ : Slc)).k)]) ty217 rfl rfl (at_slq (c := cSlc) (sz := 1) hq4 (fun _ => rfl) 1 rfl (gd (⟨none, 0, 0⟩ : Slc) (by have := hrowsc0rs.1; omega))) rfl) (congrArg (fun z => ag [z]) (rows_val hrowsc0rs (by have := hrowsc0rs.1; omega)))) ?_
  refine it rfl (tri_alloc (cs := [.slice none 0 0]) zero217 rfl) fun b5 => ?_
  refine ip 1 1 [(3, iv (t11 : Int))] (by kernel_rfl) ?_
  refine it rfl (tri_store (us := [.slice ((c0rs.getD t11 (⟨none, 0, 0⟩ : Slc)).q) ((c0.getD t11 []).length) ((c0rs.getD t11 (⟨none, 0, 0⟩ : Slc)).k)]) (cs' := [.slice ((c0rs.getD t11 (⟨none, 0, 0⟩ : Slc)).q) ((c0.getD t11 []).length) ((c0rs.getD t11 (⟨none, 0, 0⟩ : Slc)).k)]) ty217 rfl rfl rfl 0 rfl rfl rfl rfl rfl rfl) fun _ => ?_
  refine ie ?_
  refine sr 4 rfl ?_
  refine ip 1 3 [(16, pt b5 0)] (by kernel_rfl) ?_
  refine ix rfl (det_own_one (v := .slice ((c0rs.getD t11 (⟨none, 0, 0⟩ : Slc)).q) ((c0.getD t11 []).length) ((c0rs.getD t11 (⟨none, 0, 0⟩ : Slc)).k)) ty168 rfl rfl 0 rfl rfl) ?_
  refine ip 2 0 [(18, iv ((c0.getD t11 []).length : Int)), (19, iv 0)] (by kernel_rfl) ?_
  refine ie ?_
  refine J_block ?_
  refine JL4 (fun (t19 : Nat) (R_1 : List (List UInt8 × List UInt8)) (Lt1 : Fen.Own) (Ft1 : List Pers) => t19 ≤ (c0.getD t11 []).length ∧ param_parts_1_l3 c0 t11 (param_parts_1_l2 c0 (c0.drop (t11 + 1))) ((c0.getD t11 []).drop t19) t19 = R_1 ∧ I R_1 Lt1 Ft1) (fun (t19 : Nat) (R_1 : List (List UInt8 × List UInt8)) (Lt1 : Fen.Own) (Ft1 : List Pers) => [(0, .func (.yield l) #[] #[]), (3, iv (t11 : Int)), (9, .slice c0q c0.length c0k), (10, iv (c0.length : Int)), (11, iv (t11 : Int)), (17, .slice ((c0rs.getD t11 (⟨none, 0, 0⟩ : Slc)).q) ((c0.getD t11 []).length) ((c0rs.getD t11 (⟨none, 0, 0⟩ : Slc)).k)), (18, iv ((c0.getD t11 []).length : Int)), (19, iv (t19 : Int))]) (fun (t19 : Nat) (R_1 : List (List UInt8 × List UInt8)) (Lt1 : Fen.Own) (Ft1 : List Pers) => (bx b5 [.slice ((c0rs.getD t11 (⟨none, 0, 0⟩ : Slc)).q) ((c0.getD t11 []).length) ((c0rs.getD t11 (⟨none, 0, 0⟩ : Slc)).k)] 217 :: Lt1 ++ ([]))) (fun (t19 : Nat) (R_1 : List (List UInt8 × List UInt8)) (Lt1 : Fen.Own) (Ft1 : List Pers) => (sl cInt ((c0rs.getD t11 (⟨none, 0, 0⟩ : Slc)).q) (c0.getD t11 []) :: sl cSlc c0q c0rs :: rowsF cInt c0rs c0 :: at_ c0p [.slice c0q c0.length c0k] :: tabP 5 pow10Cells :: Ft1)) (fun (t19 : Nat) (R_1 : List (List UInt8 × List UInt8)) (Lt1 : Fen.Own) (Ft1 : List Pers) => (c0.getD t11 []).length - t19) 0 R_ Lt Ft ⟨(by omega), hR, hILt⟩ ⟨rfl, rfl, rfl, rfl, rfl, rfl, rfl, (by first | rfl | (simp only [List.length_set]; rfl) | (simp; done) | (simp; omega)), trivial⟩ (mc [[bx b5 [.slice ((c0rs.getD t11 (⟨none, 0, 0⟩ : Slc)).q) ((c0.getD t11 []).length) ((c0rs.getD t11 (⟨none, 0, 0⟩ : Slc)).k)] 217], Lt] [true, true] rfl (by first | rfl | (simp only [List.length_set] <;> rfl))) (Foll.con1 (at_of 0 rfl) (Foll.con1 (at_of 1 rfl) (Foll.con1 (at_of 2 rfl) (Foll.con1 (at_of 3 rfl) (Foll.con1 (at_of 4 rfl) (Foll.dropT 5 rfl)))))) ?_
  rintro t19 R_1 Lt1 Ft1 ⟨hm6, hR, hILt1⟩
  have hq := parOk.at hpo t11 t19
  refine sr 1 rfl ?_
  refine ip 1 0 [(20, bv (decide ((t19 : Int) < ((c0.getD t11 []).length : Int))))] (by kernel_rfl) ?_
  refine ie ?_
  refine J_seq ?_
  refine J_if rfl (fun h7 => ?_) (fun h7 => ?_)
  ·have h7p : (t19 : Int) < ((c0.getD t11 []).length : Int) := by simpa using h7
   rw [dropc 0 (show t19 < (c0.getD t11 []).length by omega)] at hR; replace hR := (param_parts_1_l3.eq_2 ..).symm.trans hR
   refine J_skip ?_
   refine nx ?_
   refine J_seq ?_
   refine J_block ?_
   refine sr 5 rfl ?_
   refine ip 1 4 [(21, iv (t19 : Int))] (by kernel_rfl) ?_
   refine JI_base 0 rfl (by omega) fun a8 hq9 => ?_
   refine ix rfl (det_ixq slt168 rfl rfl hq9 rfl t19 rfl (by omega)) ?_
   refine ix rfl (det_ld_one (v := iv ((c0.getD t11 []).getD t19 0)) (us := [iv ((c0.getD t11 []).getD t19 0)]) ty3 rfl rfl (at_slq (c := cInt) (sz := 1) hq9 (fun _ => rfl) 0 rfl (gd 0 (by omega))) rfl) ?_
   refine ip 2 0 [(5, iv (t19 : Int)), (6, iv ((c0.getD t11 []).getD t19 0))] (by kernel_rfl) ?_
   refine ie ?_
   refine sr 2 rfl ?_
   refine ip 2 0 [(7, sv ([58] : List UInt8)), (8, sv ([] : List UInt8))] (by kernel_rfl) ?_
   refine ie ?_
   refine JS4 (fun (ahead : List UInt8) (R_2 : List (List UInt8 × List UInt8)) (Lt2 : Fen.Own) (Ft2 : List Pers) => param_parts_1_j16 c0 t11 t19 (param_parts_1_l3 c0 t11 (param_parts_1_l2 c0 (c0.drop (t11 + 1))) ((c0.getD t11 []).drop (t19 + 1))) ahead = R_2 ∧ I R_2 Lt2 Ft2) (fun (ahead : List UInt8) (R_2 : List (List UInt8 × List UInt8)) (Lt2 : Fen.Own) (Ft2 : List Pers) => [(0, .func (.yield l) #[] #[]), (3, iv (t11 : Int)), (6, iv ((c0.getD t11 []).getD t19 0)), (7, sv ahead), (8, sv ([] : List UInt8)), (9, .slice c0q c0.length c0k), (10, iv (c0.length : Int)), (11, iv (t11 : Int)), (17, .slice ((c0rs.getD t11 (⟨none, 0, 0⟩ : Slc)).q) ((c0.getD t11 []).length) ((c0rs.getD t11 (⟨none, 0, 0⟩ : Slc)).k)), (18, iv ((c0.getD t11 []).length : Int)), (19, iv (t19 : Int))]) (fun (ahead : List UInt8) (R_2 : List (List UInt8 × List UInt8)) (Lt2 : Fen.Own) (Ft2 : List Pers) => (bx b5 [.slice ((c0rs.getD t11 (⟨none, 0, 0⟩ : Slc)).q) ((c0.getD t11 []).length) ((c0rs.getD t11 (⟨none, 0, 0⟩ : Slc)).k)] 217 :: Lt2 ++ ([]))) (fun (ahead : List UInt8) (R_2 : List (List UInt8 × List UInt8)) (Lt2 : Fen.Own) (Ft2 : List Pers) => (sl cInt ((c0rs.getD t11 (⟨none, 0, 0⟩ : Slc)).q) (c0.getD t11 []) :: sl cSlc c0q c0rs :: rowsF cInt c0rs c0 :: at_ c0p [.slice c0q c0.length c0k] :: tabP 5 pow10Cells :: Ft2)) ?_ ?_
   ·refine J_block ?_
    refine sr 7 rfl ?_
    refine ip 3 4 [(27, bv (decide ((t19 : Int) = 0)))] (by kernel_rfl) ?_
    refine iand 3 1 27 30 (decide ((t11 : Int) = 0)) rfl (by kernel_rfl) (fun g10 => ?_) ?_
    ·have g10p : (t19 : Int) = 0 := by simpa using g10
     refine ip 3 0 [(30, bv (decide ((t11 : Int) = 0)))] (by kernel_rfl) ?_
     exact JI_end (armI 2 27 30 g10 Foll.refl (mc [[bx b5 [.slice ((c0rs.getD t11 (⟨none, 0, 0⟩ : Slc)).q) ((c0.getD t11 []).length) ((c0rs.getD t11 (⟨none, 0, 0⟩ : Slc)).k)] 217], Lt1] [true, true] rfl (by first | rfl | (simp only [List.length_set] <;> rfl))) rfl rfl rfl rfl rfl)
    refine ip 1 0 [(24, bv ((decide ((t19 : Int) = 0)) && (decide ((t11 : Int) = 0))))] (by kernel_rfl) ?_
    refine ie ?_
    refine J_if rfl (fun h11 => ?_) (fun h11 => ?_)
    ·have h11p : ((t19 : Int) = 0) ∧ ((t11 : Int) = 0) := by simpa using h11
     replace hR := bt hR h11
     refine J_region 1 rfl ?_
     refine ip 1 0 [(7, sv ([] : List UInt8))] (by kernel_rfl) ?_
     refine JI_end ?_
     exact meet4 ([] : List UInt8) R_1 Lt1 Ft1 ⟨hR, hILt1⟩ ⟨rfl, rfl, rfl, (by first | rfl | (simp only [List.length_set]; rfl) | (simp; done) | (simp; omega)), rfl, rfl, rfl, rfl, rfl, rfl, rfl, trivial⟩ (mc [[bx b5 [.slice ((c0rs.getD t11 (⟨none, 0, 0⟩ : Slc)).q) ((c0.getD t11 []).length) ((c0rs.getD t11 (⟨none, 0, 0⟩ : Slc)).k)] 217], Lt1] [true, true] rfl (by first | rfl | (simp only [List.length_set] <;> rfl))) (Foll.con1 (at_of 0 rfl) (Foll.con1 (at_of 1 rfl) (Foll.con1 (at_of 2 rfl) (Foll.con1 (at_of 3 rfl) (Foll.con1 (at_of 4 rfl) (Foll.dropT 5 rfl))))))
    ·have h11p : ¬ (((t19 : Int) = 0) ∧ ((t11 : Int) = 0)) := by simpa using h11
     replace hR := bf hR h11
     refine sr 3 rfl ?_
     refine ip 3 0 [(31, bv (decide ((t19 : Int) = 0)))] (by kernel_rfl) ?_
     refine ie ?_
     refine J_if rfl (fun h12 => ?_) (fun h12 => ?_)
     ·have h12p : (t19 : Int) = 0 := by simpa using h12
      replace hR := bt hR h12
      refine J_region 1 rfl ?_
      refine ip 1 0 [(7, sv ([59] : List UInt8))] (by kernel_rfl) ?_
      refine JI_end ?_
      exact meet4 ([59] : List UInt8) R_1 Lt1 Ft1 ⟨hR, hILt1⟩ ⟨rfl, rfl, rfl, (by first | rfl | (simp only [List.length_set]; rfl) | (simp; done) | (simp; omega)), rfl, rfl, rfl, rfl, rfl, rfl, rfl, trivial⟩ (mc [[bx b5 [.slice ((c0rs.getD t11 (⟨none, 0, 0⟩ : Slc)).q) ((c0.getD t11 []).length) ((c0rs.getD t11 (⟨none, 0, 0⟩ : Slc)).k)] 217], Lt1] [true, true] rfl (by first | rfl | (simp only [List.length_set] <;> rfl))) (Foll.con1 (at_of 0 rfl) (Foll.con1 (at_of 1 rfl) (Foll.con1 (at_of 2 rfl) (Foll.con1 (at_of 3 rfl) (Foll.con1 (at_of 4 rfl) (Foll.dropT 5 rfl))))))
     ·have h12p : ¬ ((t19 : Int) = 0) := by simpa using h12
      replace hR := bf hR h12
      refine J_skip ?_
      exact meet4 ([58] : List UInt8) R_1 Lt1 Ft1 ⟨hR, hILt1⟩ ⟨rfl, rfl, rfl, (by first | rfl | (simp only [List.length_set]; rfl) | (simp; done) | (simp; omega)), rfl, rfl, rfl, rfl, rfl, rfl, rfl, trivial⟩ (mc [[bx b5 [.slice ((c0rs.getD t11 (⟨none, 0, 0⟩ : Slc)).q) ((c0.getD t11 []).length) ((c0rs.getD t11 (⟨none, 0, 0⟩ : Slc)).k)] 217], Lt1] [true, true] rfl (by first | rfl | (simp only [List.length_set] <;> rfl))) (Foll.con1 (at_of 0 rfl) (Foll.con1 (at_of 1 rfl) (Foll.con1 (at_of 2 rfl) (Foll.con1 (at_of 3 rfl) (Foll.con1 (at_of 4 rfl) (Foll.dropT 5 rfl))))))
   ·intro ahead R_2 Lt2 Ft2
    rintro ⟨hR, hILt2⟩
    replace hR := (param_parts_1_j16.eq_1 ..).symm.trans hR
    refine JS4 (fun (part : List UInt8) (R_3 : List (List UInt8 × List UInt8)) (Lt3 : Fen.Own) (Ft3 : List Pers) => param_parts_1_j17 t19 ahead (param_parts_1_l3 c0 t11 (param_parts_1_l2 c0 (c0.drop (t11 + 1))) ((c0.getD t11 []).drop (t19 + 1))) part = R_3 ∧ I R_3 Lt3 Ft3) (fun (part : List UInt8) (R_3 : List (List UInt8 × List UInt8)) (Lt3 : Fen.Own) (Ft3 : List Pers) => [(0, .func (.yield l) #[] #[]), (3, iv (t11 : Int)), (7, sv ahead), (8, sv part), (9, .slice c0q c0.length c0k), (10, iv (c0.length : Int)), (11, iv (t11 : Int)), (17, .slice ((c0rs.getD t11 (⟨none, 0, 0⟩ : Slc)).q) ((c0.getD t11 []).length) ((c0rs.getD t11 (⟨none, 0, 0⟩ : Slc)).k)), (18, iv ((c0.getD t11 []).length : Int)), (19, iv (t19 : Int))]) (fun (part : List UInt8) (R_3 : List (List UInt8 × List UInt8)) (Lt3 : Fen.Own) (Ft3 : List Pers) => (bx b5 [.slice ((c0rs.getD t11 (⟨none, 0, 0⟩ : Slc)).q) ((c0.getD t11 []).length) ((c0rs.getD t11 (⟨none, 0, 0⟩ : Slc)).k)] 217 :: Lt3 ++ ([]))) (fun (part : List UInt8) (R_3 : List (List UInt8 × List UInt8)) (Lt3 : Fen.Own) (Ft3 : List Pers) => (sl cInt ((c0rs.getD t11 (⟨none, 0, 0⟩ : Slc)).q) (c0.getD t11 []) :: sl cSlc c0q c0rs :: rowsF cInt c0rs c0 :: at_ c0p [.slice c0q c0.length c0k] :: tabP 5 pow10Cells :: Ft3)) ?_ ?_
    ·refine sr 2 rfl ?_
     refine ip 2 0 [(35, bv (!decide (((c0.getD t11 []).getD t19 0) = (-1))))] (by kernel_rfl) ?_
     refine ie ?_
     refine J_if rfl (fun h13 => ?_) (fun h13 => ?_)
     ·have h13p : ¬ ((c0.getD t11 []).getD t19 0) = (-1) := by simpa using h13
      replace hR := bt hR h13
      refine J_region 3 rfl ?_
      refine ip 1 2 [(36, iv ((c0.getD t11 []).getD t19 0))] (by kernel_rfl) ?_
      refine ixc rfl (det_call (itoa_c ((c0.getD t11 []).getD t19 0) (by first | omega | (exact ⟨by omega, by omega⟩))) rfl rfl rfl rfl rfl (Foll.cons (at_of 4 rfl) Foll.nil)) ?_
      have := itoa_len ((c0.getD t11 []).getD t19 0) (by omega) (by omega)
      refine ip 1 0 [(8, sv (Lib.itoa ((c0.getD t11 []).getD t19 0)))] (by kernel_rfl) ?_
      refine JI_end ?_
      exact meet4 (Lib.itoa ((c0.getD t11 []).getD t19 0)) R_2 Lt2 Ft2 ⟨hR, hILt2⟩ ⟨rfl, rfl, rfl, (by first | rfl | (simp only [List.length_set]; rfl) | (simp; done) | (simp; omega)), rfl, rfl, rfl, rfl, rfl, rfl, trivial⟩ (mc [[bx b5 [.slice ((c0rs.getD t11 (⟨none, 0, 0⟩ : Slc)).q) ((c0.getD t11 []).length) ((c0rs.getD t11 (⟨none, 0, 0⟩ : Slc)).k)] 217], Lt2] [true, true] rfl (by first | rfl | (simp only [List.length_set] <;> rfl))) (Foll.con1 (at_of 0 rfl) (Foll.con1 (at_of 1 rfl) (Foll.con1 (at_of 2 rfl) (Foll.con1 (at_of 3 rfl) (Foll.con1 (at_of 4 rfl) (Foll.dropT 5 rfl))))))
     ·have h13p : ¬ (¬ ((c0.getD t11 []).getD t19 0) = (-1)) := by simpa using h13
      replace hR := bf hR h13
      refine J_skip ?_
      exact meet4 ([] : List UInt8) R_2 Lt2 Ft2 ⟨hR, hILt2⟩ ⟨rfl, rfl, rfl, (by first | rfl | (simp only [List.length_set]; rfl) | (simp; done) | (simp; omega)), rfl, rfl, rfl, rfl, rfl, rfl, trivial⟩ (mc [[bx b5 [.slice ((c0rs.getD t11 (⟨none, 0, 0⟩ : Slc)).q) ((c0.getD t11 []).length) ((c0rs.getD t11 (⟨none, 0, 0⟩ : Slc)).k)] 217], Lt2] [true, true] rfl (by first | rfl | (simp only [List.length_set] <;> rfl))) (Foll.con1 (at_of 0 rfl) (Foll.con1 (at_of 1 rfl) (Foll.con1 (at_of 2 rfl) (Foll.con1 (at_of 3 rfl) (Foll.con1 (at_of 4 rfl) (Foll.dropT 5 rfl))))))
    ·intro part R_3 Lt3 Ft3
     rintro ⟨hR, hILt3⟩
     replace hR := (param_parts_1_j17.eq_1 ..).symm.trans hR
     refine sr 5 rfl ?_
     refine ip 3 2 [(38, .func (.yield l) #[] #[]), (39, sv ahead), (40, sv part)] (by kernel_rfl) ?_
     have hq19 := consR hR; clear hR; obtain ⟨R14, hR, hq19⟩ := hq19; rw [hq19] at hILt3
     refine it rfl (tri_yield2 (L2 := [bx b5 [.slice ((c0rs.getD t11 (⟨none, 0, 0⟩ : Slc)).q) ((c0.getD t11 []).length) ((c0rs.getD t11 (⟨none, 0, 0⟩ : Slc)).k)] 217]) (hY _ R14 _ _ hILt3) rfl rfl rfl rfl (Foll.dropT 5 rfl) (permC [[bx b5 [.slice ((c0rs.getD t11 (⟨none, 0, 0⟩ : Slc)).q) ((c0.getD t11 []).length) ((c0rs.getD t11 (⟨none, 0, 0⟩ : Slc)).k)] 217], Lt3] [1, 0] 2 rfl (by decide) rfl [Lt3, [bx b5 [.slice ((c0rs.getD t11 (⟨none, 0, 0⟩ : Slc)).q) ((c0.getD t11 []).length) ((c0rs.getD t11 (⟨none, 0, 0⟩ : Slc)).k)] 217]] rfl (by simp only [List.flatten_cons, List.flatten_nil, List.append_nil, List.cons_append, List.nil_append, List.append_assoc]))) fun ⟨⟨y15, L16, Φ17⟩, hy18⟩ => ?_
     refine JI_foll (Foll.yield [sl cInt ((c0rs.getD t11 (⟨none, 0, 0⟩ : Slc)).q) (c0.getD t11 []), sl cSlc c0q c0rs, rowsF cInt c0rs c0, at_ c0p [.slice c0q c0.length c0k], tabP 5 pow10Cells]) ?_
     refine ip 1 0 [(42, bv (!y15))] (by kernel_rfl) ?_
     refine ie ?_
     refine J_if rfl (fun h20 => ?_) (fun h20 => ?_)
     ·have h20b : y15 = false := by simpa using h20
      rw [h20b] at hy18; try simp only [if_true, if_false, Bool.false_eq_true] at hy18
      refine J_ret ?_
      exact iends_ret rfl ⟨hr, hD⟩ (by simp [hD]) (res0 rfl) (L' := L16) (Φ' := Φ17) (by exact .inr hy18) (mcT [L16, [bx b5 [.slice ((c0rs.getD t11 (⟨none, 0, 0⟩ : Slc)).q) ((c0.getD t11 []).length) ((c0rs.getD t11 (⟨none, 0, 0⟩ : Slc)).k)] 217]] 0 rfl rfl) (Foll.dropT 5 rfl)
     ·have h20b : y15 = true := by simpa using h20
      rw [h20b] at hy18; try simp only [if_true, if_false, Bool.false_eq_true] at hy18
      refine J_skip ?_
      refine nx ?_
      refine J_region 2 rfl ?_
      refine ix rfl (det_add64 rfl rfl rfl rfl (by omega)) ?_
      refine ip 1 0 [(19, iv ((t19 : Int) + 1))] (by kernel_rfl) ?_
      refine JI_end ?_
      refine JQ_perm (permC [L16, [bx b5 [.slice ((c0rs.getD t11 (⟨none, 0, 0⟩ : Slc)).q) ((c0.getD t11 []).length) ((c0rs.getD t11 (⟨none, 0, 0⟩ : Slc)).k)] 217]] [1, 0] 2 rfl (by decide) rfl [[bx b5 [.slice ((c0rs.getD t11 (⟨none, 0, 0⟩ : Slc)).q) ((c0.getD t11 []).length) ((c0rs.getD t11 (⟨none, 0, 0⟩ : Slc)).k)] 217], L16] rfl (by first | rfl | simp)) ?_
      exact againL4 (z1 := t19) (z2 := R_1) (z3 := Lt1) (z4 := Ft1) (t19 + 1) R14 L16 Φ17 ⟨(by omega), hR, hy18⟩ (by (try dsimp only); omega) ⟨rfl, rfl, rfl, rfl, rfl, rfl, rfl, (by first | rfl | (simp only [List.length_set]; rfl) | (simp; done) | (simp; omega)), trivial⟩ (mc [[bx b5 [.slice ((c0rs.getD t11 (⟨none, 0, 0⟩ : Slc)).q) ((c0.getD t11 []).length) ((c0rs.getD t11 (⟨none, 0, 0⟩ : Slc)).k)] 217], L16] [true, true] rfl (by first | rfl | (simp only [List.length_set] <;> rfl))) (Foll.con1 (at_of 0 rfl) (Foll.con1 (at_of 1 rfl) (Foll.con1 (at_of 2 rfl) (Foll.con1 (at_of 3 rfl) (Foll.con1 (at_of 4 rfl) (Foll.dropT 5 rfl))))))
  ·have h7p : ¬ ((t19 : Int) < ((c0.getD t11 []).length : Int)) := by simpa using h7
   rw [dropn h7p] at hR; replace hR := (param_parts_1_l3.eq_1 ..).symm.trans hR
   refine J_exit ?_
   refine nx ?_
   refine J_region 2 rfl ?_
   refine ix rfl (det_add64 rfl rfl rfl rfl (by omega)) ?_
   refine ip 1 0 [(11, iv ((t11 : Int) + 1))] (by kernel_rfl) ?_
   refine JI_end ?_
   exact againL4 (z1 := t11) (z2 := R_) (z3 := Lt) (z4 := Ft) (t11 + 1) R_1 Lt1 Ft1 ⟨(by omega), hR, hILt1⟩ (by (try dsimp only); omega) ⟨rfl, rfl, rfl, (by first | rfl | (simp only [List.length_set]; rfl) | (simp; done) | (simp; omega)), trivial⟩ (mc [[bx b5 [.slice ((c0rs.getD t11 (⟨none, 0, 0⟩ : Slc)).q) ((c0.getD t11 []).length) ((c0rs.getD t11 (⟨none, 0, 0⟩ : Slc)).k)] 217], Lt1] [false, true] rfl (by first | rfl | (simp only [List.length_set] <;> rfl))) (Foll.con1 (at_of 1 rfl) (Foll.con1 (at_of 2 rfl) (Foll.con1 (at_of 3 rfl) (Foll.con1 (at_of 4 rfl) (Foll.dropT 5 rfl)))))
 ·have h2p : ¬ ((t11 : Int) < (c0.length : Int)) := by simpa using h2
  rw [dropn h2p] at hR; replace hR := (param_parts_1_l2.eq_1 ..).symm.trans hR
  refine J_exit ?_
  subst hR
  exact iends_normal rfl ⟨hr, hD⟩ (by simp [hD]) (res0 rfl) (L' := Lt) (Φ' := Ft) (by exact .inl hILt) (mcT [Lt] 0 rfl rfl) (Foll.dropT 4 rfl)

def strings_Builder_WriteStringa (bbuf : List UInt8) (s : List UInt8) : List UInt8 × Int :=
 ((bbuf ++ s), (s.length : Int))

theorem strings_Builder_WriteStringa_len (bbuf s : List UInt8) : (strings_Builder_WriteStringa bbuf s).1.length = bbuf.length + s.length := by simp [strings_Builder_WriteStringa]

theorem strings_Builder_WriteStringa_c (bbuf : List UInt8) (s : List UInt8) (bb : Nat) (baddrz : Option Addr) (bbufr : VR) (hzbaddrz : baddrz = none ∨ baddrz = some ⟨bb, 0, none⟩) (hokbbufr : VOk 1 bbuf.length bbufr) (hb : bbuf.length + s.length ≤ 140737488355328) (R : List UInt8 × Int) (hR : strings_Builder_WriteStringa bbuf s = R) : Con Tryz.prog 62 [pt bb 0, sv s] (bx bb [.pointer baddrz, .slice (va bbufr.q) bbuf.length bbufr.k] 109 :: (vo cU8 5 bbufr bbuf) ++ ([])) [] ({r : VR // VOk 1 R.1.length r}) (fun x => .tuple #[iv R.2, .nilIface]) (fun x => (bx bb [pt bb 0, .slice (va x.1.q) R.1.length x.1.k] 109 :: (vo cU8 5 x.1 R.1) ++ ([]))) (fun x => []) := by
 refine con_of_J (n := 19) Tryz.func62 rfl (by kernel_rfl) rfl rfl [(0, pt bb 0), (1, sv s)] ⟨rfl, rfl, trivial⟩ fun X hX hr hD => ?_
 replace hR := (strings_Builder_WriteStringa.eq_1 ..).symm.trans hR
 have := VOk.le hokbbufr
 refine sr 2 rfl ?_
 refine ip 2 0 [] (by kernel_rfl) ?_
 refine ie ?_
 refine sr 2 rfl ?_
 refine ip 1 1 [(6, pt bb 0)] (by kernel_rfl) ?_
 refine it rfl (tri_callN (L2 := ((vo cU8 5 bbufr bbuf) ++ ([]))) (copyCheck_p bb (.slice (va bbufr.q) bbuf.length bbufr.k) baddrz hzbaddrz) rfl rfl rfl rfl rfl Foll.nil (permC [[bx bb [.pointer baddrz, .slice (va bbufr.q) bbuf.length bbufr.k] 109], vo cU8 5 bbufr bbuf] [0, 1] 2 rfl (by decide) rfl [[bx bb [.pointer baddrz, .slice (va bbufr.q) bbuf.length bbufr.k] 109], vo cU8 5 bbufr bbuf] rfl (by first | rfl | simp only [List.flatten_cons, List.flatten_nil, List.append_nil, List.cons_append, List.nil_append, List.append_assoc])) (fun _ => (bx bb [pt bb 0, .slice (va bbufr.q) bbuf.length bbufr.k] 109 :: (vo cU8 5 bbufr bbuf) ++ ([]))) (fun _ => by first | rfl | simp only [List.append_nil, List.cons_append, List.nil_append, List.append_assoc])) fun _ => ?_
 refine ie ?_
 refine sr 10 rfl ?_
 refine ip 4 6 [(8, pt bb 0), (11, pt bb 1)] (by kernel_rfl) ?_
 refine ix rfl (det_own_one (v := .slice (va bbufr.q) bbuf.length bbufr.k) ty30 rfl rfl 0 rfl rfl) ?_
 refine ip 1 4 [(13, sv s)] (by kernel_rfl) ?_
 refine it rfl (tri_app_str (r := bbufr) (xs := bbuf) (s := s) (pre := [bx bb [pt bb 0, .slice (va bbufr.q) bbuf.length bbufr.k] 109]) (post := []) apt30 (by kernel_rfl) Tryz.underlying9 rfl rfl rfl rfl rfl rfl rfl hokbbufr (by first | omega | (simp <;> omega))) fun ⟨r1, hr2⟩ => ?_
 have : (bbuf ++ s).length = bbuf.length + s.length := List.length_append
 have := VOk.le hr2
 have := VOk.cap hr2
 refine ip 2 1 [(16, pt bb 1)] (by kernel_rfl) ?_
 refine it rfl (tri_store (us := [.slice (va r1.q) ((bbuf ++ s).length) r1.k]) (cs' := [pt bb 0, .slice (va r1.q) ((bbuf ++ s).length) r1.k]) ty30 rfl rfl rfl 0 rfl rfl rfl rfl rfl rfl) fun _ => ?_
 refine ie ?_
 refine sr 4 rfl ?_
 refine ip 4 0 [(4, iv (s.length : Int)), (5, .nilIface)] (by kernel_rfl) ?_
 refine ie ?_
 refine J_ret ?_
 subst hR
 exact ends_ret rfl ⟨hr, hD⟩ (by simp [hD]) (res2 rfl (resV_tmp rfl) (resV_tmp rfl)) ⟨r1, hr2⟩ (by rfl) (mc [[bx bb [pt bb 0, .slice (va r1.q) ((bbuf ++ s).length) r1.k] 109], vo cU8 5 r1 (bbuf ++ s)] [true, true] rfl (by first | rfl | (simp only [List.length_set] <;> rfl))) Foll.nil

def param_Print_r0 : List (List UInt8 × List UInt8) → List UInt8 → (List UInt8 × Int)
 | [], bbuf => (bbuf, 0)
 | el :: rest, bbuf => (bindV (strings_Builder_WriteStringa bbuf (el.1 ++ el.2)) fun (y0 : List UInt8 × Int) => param_Print_r0 rest y0.1)
def param_Print (l : List (List Int)) : List UInt8 × Int :=
 (bif (!decide ((param_Check l) = 0)) then (([] : List UInt8), (param_Check l)) else param_Print_r0 (param_parts_1 (param_parts l)) ([] : List UInt8))

theorem param_Print_r0_len : ∀ (es : List (List UInt8 × List UInt8)) (b : List UInt8), (∀ x ∈ es, partOk x) → (param_Print_r0 es b).1.length ≤ b.length + 22 * es.length
 | [], b, _ => by simp [param_Print_r0]
 | e :: es, b, h => by
  have h1 := h e (List.mem_cons_self ..); unfold partOk at h1
  have ih := param_Print_r0_len es (strings_Builder_WriteStringa b (e.1 ++ e.2)).1 (fun x hx => h x (List.mem_cons_of_mem _ hx))
  rw [strings_Builder_WriteStringa_len, List.length_append] at ih
  simp only [param_Print_r0, bindV, List.length_cons]; omega
theorem param_Print_len (l : List (List Int)) : (param_Print l).1.length ≤ 2112 := by
 unfold param_Print
 by_cases h : param_Check l = 0
 ·have hp := param_parts_1_ok l (param_Check_ok h)
  have := param_Print_r0_len (param_parts_1 (param_parts l)) [] hp.2
  rw [h]; simp only [decide_true, Bool.not_true, cond_false]
  have e : (param_parts_1 (param_parts l)).length ≤ 96 := hp.1
  rw [List.length_nil] at this; omega
 ·simp [h]

theorem param_Print_c (l : List (List Int)) (lq : Option Addr) (lrs : List Slc) (lk : Nat) (hrowslrs : RowsOk lrs l) (hll : l.length ≤ 9223372036854775807) (hcl : l.length ≤ lk) (R : List UInt8 × Int) (hR : param_Print l = R) : ConV Tryz.prog 112 [.slice lq l.length lk] [sl cSlc lq lrs, rowsF cInt lrs l, tabP 5 pow10Cells] (.tuple #[sv R.1, iv R.2]) := by
 refine con_of_J (n := 22) Tryz.func112 rfl (by kernel_rfl) rfl rfl [(0, .slice lq l.length lk)] ⟨rfl, trivial⟩ fun X hX hr hD => ?_
 replace hR := (param_Print.eq_1 ..).symm.trans hR
 have := hrowslrs.1
 refine sr 2 rfl ?_
 refine ip 2 0 [] (by kernel_rfl) ?_
 refine ie ?_
 refine J_seq ?_
 refine sr 3 rfl ?_
 refine ip 1 2 [(8, .slice lq l.length lk)] (by kernel_rfl) ?_
 refine ixc rfl (det_call (param_Check_c l lq lrs lk hrowslrs (by first | omega | (simp <;> omega) | (dsimp only; omega) | decide) (by first | omega | (simp <;> omega) | (dsimp only; omega) | decide) _ rfl) rfl rfl rfl rfl rfl (Foll.pick [0, 1] rfl)) ?_
 refine ip 1 0 [(4, iv (param_Check l))] (by kernel_rfl) ?_
 refine ie ?_
 refine sr 2 rfl ?_
 refine ip 2 0 [(11, bv (!decide ((param_Check l) = 0)))] (by kernel_rfl) ?_
 refine ie ?_
 refine J_if rfl (fun h1 => ?_) (fun h1 => ?_)
 ·have h1p : ¬ (param_Check l) = 0 := by simpa using h1
  replace hR := bt hR h1
  refine sr 3 rfl ?_
  refine ip 3 0 [(2, sv ([] : List UInt8)), (3, iv (param_Check l))] (by kernel_rfl) ?_
  refine ie ?_
  refine J_ret ?_
  subst hR
  exact ends_ret rfl ⟨hr, hD⟩ (by simp [hD]) (res2 rfl (resV_tmp rfl) (resV_tmp rfl)) () (by rfl) (mk [] rfl) Foll.nil
 ·have h1p : ¬ (¬ (param_Check l) = 0) := by simpa using h1
  replace hR := bf hR h1
  refine J_skip ?_
  refine nx ?_
  refine sr 1 rfl ?_
  refine it rfl (tri_alloc (cs := [.pointer none, .slice none 0 0]) zero109 rfl) fun b2 => ?_
  refine ie ?_
  refine J_seq ?_
  refine sr 2 rfl ?_
  refine ip 1 1 [(13, .slice lq l.length lk)] (by kernel_rfl) ?_
  refine it rfl (tri_callN (L2 := [bx b2 [.pointer none, .slice none 0 0] 109]) (param_parts_c l lq lrs lk hrowslrs (by first | omega | (simp <;> omega) | (dsimp only; omega) | decide) (by first | omega | (simp <;> omega) | (dsimp only; omega) | decide) _ rfl) rfl rfl rfl rfl rfl (Foll.pick [0, 1] rfl) (List.Perm.refl _) (fun ⟨b3, ⟨⟨q4, rs5, k6⟩, hp9⟩⟩ => [bx b2 [.pointer none, .slice none 0 0] 109]) (fun _ => rfl)) fun ⟨b3, ⟨⟨q4, rs5, k6⟩, hp9⟩⟩ => ?_
  obtain ⟨hr7, hc8, hl10⟩ := hp9
  have := hr7.1
  refine ie ?_
  refine J_block ?_
  refine JQ_perm (permC [vo cU8 5 VR.nil ([] : List UInt8), [bx b2 [.pointer none, .slice none 0 0] 109]] [1, 0] 2 rfl (by decide) rfl [[bx b2 [.pointer none, .slice none 0 0] 109], vo cU8 5 VR.nil ([] : List UInt8)] rfl (by first | rfl | simp)) ?_
  refine J_env [(5, pt b2 0), (14, .func (.func 203) #[] #[pa b3])] ⟨rfl, rfl, trivial⟩ ?_
  refine J_range2 (β := (List UInt8 × List UInt8)) (enc := (fun x => sv x.1)) (enc2 := (fun x => sv x.2)) (xs := (param_parts_1 (param_parts l))) (σ := Option Addr × List UInt8 × VR) hr rfl (param_parts_1_c (param_parts l) b3 q4 rs5 k6 hr7 (by first | omega | (simp <;> omega) | (dsimp only; omega) | decide) (by first | omega | (simp <;> omega) | (dsimp only; omega) | decide) (by exact param_Check_ok (Decidable.of_not_not (by assumption))) _ rfl) (Foll.pick [1, 2, 0, 5] rfl) rfl rfl rfl (fun rem x => param_Print_r0 rem x.2.1 = R ∧ (x.1 = none ∨ x.1 = some ⟨b2, 0, none⟩) ∧ VOk 1 x.2.1.length x.2.2 ∧ x.2.1.length + 22 * rem.length ≤ 2112 ∧ ∀ x ∈ rem, partOk x) (fun _ _ => False) (fun x => (bx b2 [.pointer x.1, .slice (va x.2.2.q) x.2.1.length x.2.2.k] 109 :: (vo cU8 5 x.2.2 x.2.1) ++ ([]))) (fun x => [at_ b3 [.slice q4 ((param_parts l).length) k6], sl cSlc q4 rs5, rowsF cInt rs5 (param_parts l), sl cSlc lq lrs, rowsF cInt lrs l, tabP 5 pow10Cells]) (none, ([] : List UInt8), VR.nil) (by exact ⟨hR, (.inl rfl), VOk.nil, (by have hpp := param_parts_1_ok l (param_Check_ok (Decidable.of_not_not (by assumption))); refine ⟨?_, hpp.2⟩; have hpl : (param_parts_1 (param_parts l)).length ≤ 96 := hpp.1; simp only [List.length_nil]; omega)⟩) (mc [[bx b2 [.pointer none, .slice none 0 0] 109], vo cU8 5 VR.nil ([] : List UInt8)] [true, true] rfl (by first | rfl | (simp only [List.length_set] <;> rfl))) Foll.refl ?_ ?_ (fun _ _ _ _ h => h.elim)
  ·rintro el rest ⟨baddrz, bbuf, bbufr⟩ hI Y Y' K' hY' hK
   try dsimp only at hI
   obtain ⟨hR, hzbaddrz, hokbbufr, hg⟩ := hI
   replace hR := (param_Print_r0.eq_2 ..).symm.trans hR
   have := VOk.le hokbbufr
   refine sr 1 rfl ?_
   refine ip 1 0 [(6, sv el.1)] (by kernel_rfl) ?_
   refine ie ?_
   refine J_region 1 rfl ?_
   refine ip 1 0 [(7, sv el.2)] (by kernel_rfl) ?_
   refine JI_end ?_
   refine hK _ _ _ ?_
   refine J_block ?_
   refine J_region 4 rfl ?_
   refine ip 2 2 [(17, sv el.1), (18, sv el.2)] (by kernel_rfl) ?_
   refine ix rfl (det_stadd rfl rfl rfl (by first | omega | (have hel := hg.2 _ (List.mem_cons_self ..); unfold partOk at hel; omega) | (first | omega | (simp <;> omega)))) ?_
   have : (el.1 ++ el.2).length = el.1.length + el.2.length := List.length_append
   have hQ := bindVx hR; clear hR; obtain ⟨y0, hy0, hR⟩ := hQ
   refine it rfl (tri_callN (L2 := []) (strings_Builder_WriteStringa_c bbuf (el.1 ++ el.2) b2 baddrz bbufr hzbaddrz hokbbufr (by first | omega | (simp <;> omega) | (have hel := hg.2 _ (List.mem_cons_self ..); unfold partOk at hel; have hgl := hg.1; simp only [List.length_append, List.length_cons, List.length_nil] at *; omega)) y0 hy0) rfl rfl rfl rfl rfl Foll.nil (permC [[bx b2 [.pointer baddrz, .slice (va bbufr.q) bbuf.length bbufr.k] 109], vo cU8 5 bbufr bbuf] [0, 1] 2 rfl (by decide) rfl [[bx b2 [.pointer baddrz, .slice (va bbufr.q) bbuf.length bbufr.k] 109], vo cU8 5 bbufr bbuf] rfl (by first | rfl | simp only [List.flatten_cons, List.flatten_nil, List.append_nil, List.cons_append, List.nil_append, List.append_assoc])) (fun ⟨r11, hk12⟩ => (bx b2 [pt b2 0, .slice (va r11.q) y0.1.length r11.k] 109 :: (vo cU8 5 r11 y0.1) ++ ([]))) (fun _ => by first | rfl | simp only [List.append_nil, List.cons_append, List.nil_append, List.append_assoc])) fun ⟨r11, hk12⟩ => ?_
   have := VOk.le hk12
   have := VOk.cap hk12
   have := strings_Builder_WriteStringa_len bbuf (el.1 ++ el.2); try rw [hy0] at this
   refine JI_end ?_
   exact rp_normal (I := fun rem x => param_Print_r0 rem x.2.1 = R ∧ (x.1 = none ∨ x.1 = some ⟨b2, 0, none⟩) ∧ VOk 1 x.2.1.length x.2.2 ∧ x.2.1.length + 22 * rem.length ≤ 2112 ∧ ∀ x ∈ rem, partOk x) (Jx := fun _ _ => False) (Lk := fun x => (bx b2 [.pointer x.1, .slice (va x.2.2.q) x.2.1.length x.2.2.k] 109 :: (vo cU8 5 x.2.2 x.2.1) ++ ([]))) (Φk := fun x => [at_ b3 [.slice q4 ((param_parts l).length) k6], sl cSlc q4 rs5, rowsF cInt rs5 (param_parts l), sl cSlc lq lrs, rowsF cInt lrs l, tabP 5 pow10Cells]) (rest := rest) ((some ⟨b2, 0, none⟩), y0.1, r11) (by exact ⟨hR, (.inr rfl), hk12, (by have hel := hg.2 _ (List.mem_cons_self ..); unfold partOk at hel; refine ⟨?_, fun x hx => hg.2 x (List.mem_cons_of_mem _ hx)⟩; have hgl := hg.1; try dsimp only; simp only [List.length_cons] at hgl; omega)⟩) (mc [[bx b2 [pt b2 0, .slice (va r11.q) y0.1.length r11.k] 109], vo cU8 5 r11 y0.1] [true, true] rfl (by first | rfl | (simp only [List.length_set] <;> rfl))) Foll.refl
  ·rintro d13 ⟨baddrz, bbuf, bbufr⟩ hd13 hI
   try dsimp only at hI
   obtain ⟨hR, hzbaddrz, hokbbufr, hg⟩ := hI
   replace hR := (param_Print_r0.eq_1 ..).symm.trans hR
   have := VOk.le hokbbufr
   refine nx ?_
   refine sr 3 rfl ?_
   refine it rfl (tri_callN (L2 := []) (String_c b2 (.pointer baddrz) bbuf bbufr hokbbufr) rfl rfl rfl rfl rfl Foll.nil (permC [[bx b2 [.pointer baddrz, .slice (va bbufr.q) bbuf.length bbufr.k] 109], vo cU8 5 bbufr bbuf] [0, 1] 2 rfl (by decide) rfl [[bx b2 [.pointer baddrz, .slice (va bbufr.q) bbuf.length bbufr.k] 109], vo cU8 5 bbufr bbuf] rfl (by first | rfl | simp only [List.flatten_cons, List.flatten_nil, List.append_nil, List.cons_append, List.nil_append, List.append_assoc])) (fun _ => []) (fun _ => rfl)) fun _ => ?_
   refine ip 2 0 [(2, sv bbuf), (3, iv 0)] (by kernel_rfl) ?_
   refine ie ?_
   refine J_ret ?_
   subst hR
   exact ends_ret rfl ⟨hr, hD⟩ (by exact (MarksOk.cons (show MarksOk X.D by rw [hD]; exact MarksOk.nil) hd13)) (res2 rfl (resV_tmp rfl) (resV_tmp rfl)) () (by rfl) (mk [] rfl) Foll.nil

end Go.Proofs.YtinkdfnpmoljfaaGreatDoor

