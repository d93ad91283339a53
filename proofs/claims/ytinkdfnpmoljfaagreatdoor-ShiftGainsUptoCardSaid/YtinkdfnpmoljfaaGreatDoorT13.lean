import Derived.Test.YtinkdfnpmoljfaaGreatDoorD2
import Derived.Test.YtinkdfnpmoljfaaGreatDoorFenX
import Derived.Test.YtinkdfnpmoljfaaGreatDoorProg
import Derived.Test.YtinkdfnpmoljfaaGreatDoorT4a
import Derived.Test.YtinkdfnpmoljfaaGreatDoorT4b
import Derived.Test.YtinkdfnpmoljfaaGreatDoorT5
import Derived.Test.YtinkdfnpmoljfaaGreatDoorT6
import Derived.Test.YtinkdfnpmoljfaaGreatDoorT7
import Derived.Test.YtinkdfnpmoljfaaGreatDoorT8
import Derived.Test.YtinkdfnpmoljfaaGreatDoorT9
import Derived.Test.YtinkdfnpmoljfaaGreatDoorT10
import Derived.Test.YtinkdfnpmoljfaaGreatDoorT11
import Derived.Test.YtinkdfnpmoljfaaGreatDoorT12
set_option linter.unusedVariables false
set_option linter.unusedSimpArgs false
set_option linter.unnecessarySimpa false
set_option maxRecDepth 100000
namespace Go.Proofs.YtinkdfnpmoljfaaGreatDoor
open Go Go.Fen

theorem ref28_Done_l0_len (c : Int) (rows : List (List Cel)) (cu : Plc) (v : Bool) (sh : Int) (ti : List UInt8) (s : Shf) (B : Int × List (List Cel) × Int × Int × Bool × Int × List UInt8) : ∀ (rs : List (List Cel)) (r : Nat) (out : List (List Cel)), (ref28_Done_l0 c rows cu v sh ti s B rs r out).2.1.length = out.length + rs.length
 | [], r, out => by simp only [ref28_Done_l0]; rfl
 | x :: rs, r, out => by
  simp only [ref28_Done_l0]
  generalize (decide (s.top ≤ (r : Int)) && decide ((r : Int) ≤ s.bottom)) = b1
  generalize (decide (s.top ≤ IntKind.i64.wrap ((r : Int) + s.amt)) && decide (IntKind.i64.wrap ((r : Int) + s.amt) ≤ s.bottom)) = b2
  cases b1 <;> cases b2 <;> simp only [cond_true, cond_false] <;> rw [ref28_Done_l0_len c rows cu v sh ti s B rs] <;> simp only [List.length_append, List.length_cons, List.length_nil] <;> omega
theorem ref28_Done_len (c : Int) (rows : List (List Cel)) (cu : Plc) (v : Bool) (sh : Int) (ti : List UInt8) (s : Shf) : (ref28_Done c rows cu v sh ti s).2.1.length = rows.length := by
 unfold ref28_Done bindV
 show (ref28_Done_l0 c rows cu v sh ti s (ref23_Blank c 1) rows 0 []).2.1.length = _
 rw [ref28_Done_l0_len]; simp

def ref28_like_l0 (bR : List (List Cel)) : List (List Cel) → Nat → Nat → Int
 | [], n, r => (n : Int)
 | hd_l0 :: tl_l0, n, r => (bif (ref23_SameCells hd_l0 (bR.getD r [])) then ref28_like_l0 bR tl_l0 (n + 1) (r + 1) else ref28_like_l0 bR tl_l0 n (r + 1))
def ref28_like (aC : Int) (aR : List (List Cel)) (aU : Plc) (aV : Bool) (aS : Int) (aT : List UInt8) (bC : Int) (bR : List (List Cel)) (bU : Plc) (bV : Bool) (bS : Int) (bT : List UInt8) : Int :=
 ref28_like_l0 bR aR 0 0

theorem ref28_like_c (aC : Int) (aR : List (List Cel)) (aU : Plc) (aV : Bool) (aS : Int) (aT : List UInt8) (bC : Int) (bR : List (List Cel)) (bU : Plc) (bV : Bool) (bS : Int) (bT : List UInt8) (aQ : Option Addr) (aZ : List Slc) (aK : Nat) (bQ : Option Addr) (bZ : List Slc) (bK : Nat) (hrowsaRowsrs : RowsOk aZ aR) (hlaRows : aR.length ≤ 9223372036854775807) (hcaRows : aR.length ≤ aK) (hrowsbRowsrs : RowsOk bZ bR) (hlbRows : bR.length ≤ 9223372036854775807) (hcbRows : bR.length ≤ bK) (hlk : aR.length = bR.length ∧ aR.length ≤ 40) (R : Int) (hR : ref28_like aC aR aU aV aS aT bC bR bU bV bS bT = R) : ConV Tryz.prog 75 [ag [iv aC, .slice aQ aR.length aK, iv aU.row, iv aU.col, bv aV, iv aS, sv aT], ag [iv bC, .slice bQ bR.length bK, iv bU.row, iv bU.col, bv bV, iv bS, sv bT]] [sl cSlc aQ aZ, rowsF cCel aZ aR, sl cSlc bQ bZ, rowsF cCel bZ bR] (iv R) := by
 refine con_of_J (n := 28) Tryz.func75 rfl (by kernel_rfl) rfl rfl [(0, ag [iv aC, .slice aQ aR.length aK, iv aU.row, iv aU.col, bv aV, iv aS, sv aT]), (1, ag [iv bC, .slice bQ bR.length bK, iv bU.row, iv bU.col, bv bV, iv bS, sv bT])] ⟨rfl, rfl, trivial⟩ fun X hX hr hD => ?_
 replace hR := (ref28_like.eq_1 ..).symm.trans hR
 have := hrowsaRowsrs.1
 have := hrowsbRowsrs.1
 refine sr 3 rfl ?_
 refine it rfl (tri_box (cs := [iv aC, .slice aQ aR.length aK, iv aU.row, iv aU.col, bv aV, iv aS, sv aT]) rfl rfl rfl) fun b1 => ?_
 refine it rfl (tri_box (cs := [iv bC, .slice bQ bR.length bK, iv bU.row, iv bU.col, bv bV, iv bS, sv bT]) rfl rfl rfl) fun b2 => ?_
 refine ip 1 0 [] (by kernel_rfl) ?_
 refine ie ?_
 refine sr 1 rfl ?_
 refine ip 1 0 [(5, iv 0)] (by kernel_rfl) ?_
 refine ie ?_
 refine J_seq ?_
 refine sr 1 rfl ?_
 refine ip 1 0 [(6, iv 0)] (by kernel_rfl) ?_
 refine ie ?_
 refine J_block ?_
 refine JL2 (fun (n : Nat) (r : Nat) => r ≤ aR.length ∧ ref28_like_l0 bR (aR.drop r) n r = R ∧ 0 ≤ n ∧ n ≤ (r : Int)) (fun (n : Nat) (r : Nat) => [(2, pt b1 0), (3, pt b2 0), (5, iv (n : Int)), (6, iv (r : Int))]) (fun (n : Nat) (r : Nat) => [bx b2 [iv bC, .slice bQ bR.length bK, iv bU.row, iv bU.col, bv bV, iv bS, sv bT] 53, bx b1 [iv aC, .slice aQ aR.length aK, iv aU.row, iv aU.col, bv aV, iv aS, sv aT] 53]) (fun (n : Nat) (r : Nat) => [sl cSlc aQ aZ, rowsF cCel aZ aR, sl cSlc bQ bZ, rowsF cCel bZ bR]) (fun (n : Nat) (r : Nat) => aR.length - r) 0 0 ⟨(by omega), hR, (by omega)⟩ ⟨rfl, rfl, (by first | rfl | (simp only [List.length_set]; rfl) | (simp; done) | (simp; omega)), (by first | rfl | (simp only [List.length_set]; rfl) | (simp; done) | (simp; omega)), trivial⟩ (mk [true, true] rfl) Foll.refl ?_
 rintro n r ⟨hm3, hR, hn⟩
 refine J_seq ?_
 refine sr 5 rfl ?_
 refine ip 2 3 [(7, iv (r : Int)), (8, pt b1 1)] (by kernel_rfl) ?_
 refine ix rfl (det_own_one (v := .slice aQ aR.length aK) ty49 rfl rfl 1 rfl rfl) ?_
 refine ip 2 0 [(11, bv (decide ((r : Int) < (aR.length : Int))))] (by kernel_rfl) ?_
 refine ie ?_
 refine J_if rfl (fun h4 => ?_) (fun h4 => ?_)
 ·have h4p : (r : Int) < (aR.length : Int) := by simpa using h4
  rw [dropc [] (show r < aR.length by omega)] at hR; replace hR := (ref28_like_l0.eq_2 ..).symm.trans hR
  refine J_skip ?_
  refine nx ?_
  refine J_seq ?_
  refine J_block ?_
  refine sd 11 rfl (by kernel_rfl) rfl ?_
  refine dp 1 10 [(14, pt b1 1)] (by kernel_rfl) ?_
  refine dd rfl (det_own_one (v := .slice aQ aR.length aK) ty49 rfl rfl 1 rfl rfl) ?_
  refine dp 1 8 [(16, iv (r : Int))] (by kernel_rfl) ?_
  refine JD_base 0 rfl (by omega) fun a5 hq6 => ?_
  refine JD_fact1 (rows_atD (k := r) (d := (⟨none, 0, 0⟩ : Slc)) hrowsaRowsrs 1 rfl (by have := hrowsaRowsrs.1; omega)) ?_
  have := rows_cap hrowsaRowsrs (k := r) (d := (⟨none, 0, 0⟩ : Slc)) (by have := hrowsaRowsrs.1; omega)
  refine dd rfl (det_ixq slt49 rfl rfl hq6 rfl r rfl (by omega)) ?_
  refine dd rfl (det_conv (det_ld_one (v := .slice ((aZ.getD r (⟨none, 0, 0⟩ : Slc)).q) ((aZ.getD r (⟨none, 0, 0⟩ : Slc)).n) ((aZ.getD r (⟨none, 0, 0⟩ : Slc)).k)) (us := [.slice ((aZ.getD r (⟨none, 0, 0⟩ : Slc)).q) ((aZ.getD r (⟨none, 0, 0⟩ : Slc)).n) ((aZ.getD r (⟨none, 0, 0⟩ : Slc)).k)]) ty67 rfl rfl (at_slq (c := cSlc) (sz := 1) hq6 (fun _ => rfl) 1 rfl (gd (⟨none, 0, 0⟩ : Slc) (by have := hrowsaRowsrs.1; omega))) rfl) (rows_val hrowsaRowsrs (by have := hrowsaRowsrs.1; omega))) ?_
  refine dp 1 5 [(19, pt b2 1)] (by kernel_rfl) ?_
  refine dd rfl (det_own_one (v := .slice bQ bR.length bK) ty49 rfl rfl 0 rfl rfl) ?_
  refine dp 1 3 [(21, iv (r : Int))] (by kernel_rfl) ?_
  refine JD_base 3 rfl (by omega) fun a7 hq8 => ?_
  refine JD_fact1 (rows_atD (k := r) (d := (⟨none, 0, 0⟩ : Slc)) hrowsbRowsrs 4 rfl (by have := hrowsbRowsrs.1; omega)) ?_
  have := rows_cap hrowsbRowsrs (k := r) (d := (⟨none, 0, 0⟩ : Slc)) (by have := hrowsbRowsrs.1; omega)
  refine dd rfl (det_ixq slt49 rfl rfl hq8 rfl r rfl (by omega)) ?_
  refine dd rfl (det_conv (det_ld_one (v := .slice ((bZ.getD r (⟨none, 0, 0⟩ : Slc)).q) ((bZ.getD r (⟨none, 0, 0⟩ : Slc)).n) ((bZ.getD r (⟨none, 0, 0⟩ : Slc)).k)) (us := [.slice ((bZ.getD r (⟨none, 0, 0⟩ : Slc)).q) ((bZ.getD r (⟨none, 0, 0⟩ : Slc)).n) ((bZ.getD r (⟨none, 0, 0⟩ : Slc)).k)]) ty67 rfl rfl (at_slq (c := cSlc) (sz := 1) hq8 (fun _ => rfl) 4 rfl (gd (⟨none, 0, 0⟩ : Slc) (by have := hrowsbRowsrs.1; omega))) rfl) (rows_val hrowsbRowsrs (by have := hrowsbRowsrs.1; omega))) ?_
  refine ddc rfl (det_call (ref23_SameCells_c (aR.getD r []) (bR.getD r []) ((aZ.getD r (⟨none, 0, 0⟩ : Slc)).q) ((aZ.getD r (⟨none, 0, 0⟩ : Slc)).k) ((bZ.getD r (⟨none, 0, 0⟩ : Slc)).q) ((bZ.getD r (⟨none, 0, 0⟩ : Slc)).k) (by first | omega | (simp <;> omega) | (dsimp only; omega) | decide) (by first | omega | (simp <;> omega) | (dsimp only; omega) | decide) (by first | omega | (simp <;> omega) | (dsimp only; omega) | decide) (by first | omega | (simp <;> omega) | (dsimp only; omega) | decide) _ rfl) rfl rfl rfl rfl rfl (Foll.pick [1, 0] rfl)) ?_
  refine de ?_
  refine J_if rfl (fun h9 => ?_) (fun h9 => ?_)
  ·replace hR := bt hR h9
   refine J_region 3 rfl ?_
   refine ip 1 2 [(25, iv (n : Int))] (by kernel_rfl) ?_
   refine ix rfl (det_add64 rfl rfl rfl rfl (by omega)) ?_
   refine ip 1 0 [(5, iv ((n : Int) + 1))] (by kernel_rfl) ?_
   refine JI_end ?_
   refine nx ?_
   refine J_region 3 rfl ?_
   refine ip 1 2 [(12, iv (r : Int))] (by kernel_rfl) ?_
   refine ix rfl (det_add64 rfl rfl rfl rfl (by omega)) ?_
   refine ip 1 0 [(6, iv ((r : Int) + 1))] (by kernel_rfl) ?_
   refine JI_end ?_
   exact againL2 (z1 := n) (z2 := r) (n + 1) (r + 1) ⟨(by omega), hR, (by omega)⟩ (by (try dsimp only); omega) ⟨rfl, rfl, (by first | rfl | (simp only [List.length_set]; rfl) | (simp; done) | (simp; omega)), (by first | rfl | (simp only [List.length_set]; rfl) | (simp; done) | (simp; omega)), trivial⟩ (mk [true, true] rfl) (Foll.pick [2, 3, 4, 5] rfl)
  ·replace hR := bf hR h9
   refine J_skip ?_
   refine nx ?_
   refine J_region 3 rfl ?_
   refine ip 1 2 [(12, iv (r : Int))] (by kernel_rfl) ?_
   refine ix rfl (det_add64 rfl rfl rfl rfl (by omega)) ?_
   refine ip 1 0 [(6, iv ((r : Int) + 1))] (by kernel_rfl) ?_
   refine JI_end ?_
   exact againL2 (z1 := n) (z2 := r) n (r + 1) ⟨(by omega), hR, (by omega)⟩ (by (try dsimp only); omega) ⟨rfl, rfl, rfl, (by first | rfl | (simp only [List.length_set]; rfl) | (simp; done) | (simp; omega)), trivial⟩ (mk [true, true] rfl) (Foll.pick [2, 3, 4, 5] rfl)
 ·have h4p : ¬ ((r : Int) < (aR.length : Int)) := by simpa using h4
  rw [dropn h4p] at hR; replace hR := (ref28_like_l0.eq_1 ..).symm.trans hR
  refine J_exit ?_
  refine nx ?_
  refine sr 2 rfl ?_
  refine ip 2 0 [(4, iv (n : Int))] (by kernel_rfl) ?_
  refine ie ?_
  refine J_ret ?_
  subst hR
  exact ends_ret rfl ⟨hr, hD⟩ (by simp [hD]) (res1 rfl (resV_tmp rfl)) () (by rfl) (mk [false, false] rfl) Foll.nil

def ref28_Gain (aC : Int) (aR : List (List Cel)) (aU : Plc) (aV : Bool) (aS : Int) (aT : List UInt8) (bC : Int) (bR : List (List Cel)) (bU : Plc) (bV : Bool) (bS : Int) (bT : List UInt8) (s : Shf) : Int :=
 (bindV (ref28_Done aC aR aU aV aS aT s) fun (y0 : Int × List (List Cel) × Int × Int × Bool × Int × List UInt8) => (IntKind.i64.wrap ((ref28_like y0.1 y0.2.1 (⟨y0.2.2.1, y0.2.2.2.1⟩ : Plc) y0.2.2.2.2.1 y0.2.2.2.2.2.1 y0.2.2.2.2.2.2 bC bR bU bV bS bT) - (ref28_like aC aR aU aV aS aT bC bR bU bV bS bT))))

theorem ref28_Gain_c (aC : Int) (aR : List (List Cel)) (aU : Plc) (aV : Bool) (aS : Int) (aT : List UInt8) (bC : Int) (bR : List (List Cel)) (bU : Plc) (bV : Bool) (bS : Int) (bT : List UInt8) (s : Shf) (aQ : Option Addr) (aZ : List Slc) (aK : Nat) (bQ : Option Addr) (bZ : List Slc) (bK : Nat) (hrowsaRowsrs : RowsOk aZ aR) (hlaRows : aR.length ≤ 9223372036854775807) (hcaRows : aR.length ≤ aK) (hrowsbRowsrs : RowsOk bZ bR) (hlbRows : bR.length ≤ 9223372036854775807) (hcbRows : bR.length ≤ bK) (hg : 2 ≤ aC ∧ aC ≤ 80 ∧ aR.length ≤ 40 ∧ aR.length = bR.length ∧ 0 ≤ s.top ∧ s.bottom < (aR.length : Int)) (R : Int) (hR : ref28_Gain aC aR aU aV aS aT bC bR bU bV bS bT s = R) : ConV Tryz.prog 37 [ag [iv aC, .slice aQ aR.length aK, iv aU.row, iv aU.col, bv aV, iv aS, sv aT], ag [iv bC, .slice bQ bR.length bK, iv bU.row, iv bU.col, bv bV, iv bS, sv bT], ag (cShf s)] [sl cSlc aQ aZ, rowsF cCel aZ aR, sl cSlc bQ bZ, rowsF cCel bZ bR] (iv R) := by
 refine con_of_J (n := 16) Tryz.func37 rfl (by kernel_rfl) rfl rfl [(0, ag [iv aC, .slice aQ aR.length aK, iv aU.row, iv aU.col, bv aV, iv aS, sv aT]), (1, ag [iv bC, .slice bQ bR.length bK, iv bU.row, iv bU.col, bv bV, iv bS, sv bT]), (2, ag (cShf s))] ⟨rfl, rfl, rfl, trivial⟩ fun X hX hr hD => ?_
 replace hR := (ref28_Gain.eq_1 ..).symm.trans hR
 have := hrowsaRowsrs.1
 have := hrowsbRowsrs.1
 refine sr 4 rfl ?_
 refine it rfl (tri_box (cs := [iv aC, .slice aQ aR.length aK, iv aU.row, iv aU.col, bv aV, iv aS, sv aT]) rfl rfl rfl) fun b1 => ?_
 refine it rfl (tri_box (cs := [iv bC, .slice bQ bR.length bK, iv bU.row, iv bU.col, bv bV, iv bS, sv bT]) rfl rfl rfl) fun b2 => ?_
 refine it rfl (tri_box (cs := cShf s) rfl rfl rfl) fun b3 => ?_
 refine ip 1 0 [] (by kernel_rfl) ?_
 refine ie ?_
 refine sh 10 [(10, [bx b3 (cShf s) 55]), (10, [bx b2 [iv bC, .slice bQ bR.length bK, iv bU.row, iv bU.col, bv bV, iv bS, sv bT] 53]), (10, [bx b1 [iv aC, .slice aQ aR.length aK, iv aU.row, iv aU.col, bv aV, iv aS, sv aT] 53])] [sl cSlc aQ aZ, rowsF cCel aZ aR, sl cSlc bQ bZ, rowsF cCel bZ bR] [bx b3 (cShf s) 55, bx b2 [iv bC, .slice bQ bR.length bK, iv bU.row, iv bU.col, bv bV, iv bS, sv bT] 53, bx b1 [iv aC, .slice aQ aR.length aK, iv aU.row, iv aU.col, bv aV, iv aS, sv aT] 53] #[false, false, false, false, false, false, false, false, false, false] (by kernel_rfl) rfl (by kernel_rfl) (by kernel_rfl) (by kernel_rfl) (mk [true, true, true] rfl) Foll.refl ?_
 refine htak 0 [bx b3 (cShf s) 55, bx b2 [iv bC, .slice bQ bR.length bK, iv bU.row, iv bU.col, bv bV, iv bS, sv bT] 53, bx b1 [iv aC, .slice aQ aR.length aK, iv aU.row, iv aU.col, bv aV, iv aS, sv aT] 53] #[true, false, false, false, false, false, false, false, false, false] rfl rfl rfl (by kernel_rfl) (by kernel_rfl) (by kernel_rfl) (det_own_agg (us := [iv aC, .slice aQ aR.length aK, iv aU.row, iv aU.col, bv aV, iv aS, sv aT]) ty53 rfl rfl 2 rfl rfl rfl) ?_
 refine htak 1 [bx b3 (cShf s) 55, bx b2 [iv bC, .slice bQ bR.length bK, iv bU.row, iv bU.col, bv bV, iv bS, sv bT] 53, bx b1 [iv aC, .slice aQ aR.length aK, iv aU.row, iv aU.col, bv aV, iv aS, sv aT] 53] #[true, true, false, false, false, false, false, false, false, false] rfl rfl rfl (by kernel_rfl) (by kernel_rfl) (by kernel_rfl) (det_own_agg (us := cShf s) ty55 rfl rfl 0 rfl rfl rfl) ?_
 refine htak 3 [bx b3 (cShf s) 55, bx b2 [iv bC, .slice bQ bR.length bK, iv bU.row, iv bU.col, bv bV, iv bS, sv bT] 53, bx b1 [iv aC, .slice aQ aR.length aK, iv aU.row, iv aU.col, bv aV, iv aS, sv aT] 53] #[true, true, false, true, false, false, false, false, false, false] rfl rfl rfl (by kernel_rfl) (by kernel_rfl) (by kernel_rfl) (det_own_agg (us := [iv bC, .slice bQ bR.length bK, iv bU.row, iv bU.col, bv bV, iv bS, sv bT]) ty53 rfl rfl 1 rfl rfl rfl) ?_
 refine htak 5 [bx b3 (cShf s) 55, bx b2 [iv bC, .slice bQ bR.length bK, iv bU.row, iv bU.col, bv bV, iv bS, sv bT] 53, bx b1 [iv aC, .slice aQ aR.length aK, iv aU.row, iv aU.col, bv aV, iv aS, sv aT] 53] #[true, true, false, true, false, true, false, false, false, false] rfl rfl rfl (by kernel_rfl) (by kernel_rfl) (by kernel_rfl) (det_own_agg (us := [iv aC, .slice aQ aR.length aK, iv aU.row, iv aU.col, bv aV, iv aS, sv aT]) ty53 rfl rfl 2 rfl rfl rfl) ?_
 refine htak 6 [bx b3 (cShf s) 55, bx b2 [iv bC, .slice bQ bR.length bK, iv bU.row, iv bU.col, bv bV, iv bS, sv bT] 53, bx b1 [iv aC, .slice aQ aR.length aK, iv aU.row, iv aU.col, bv aV, iv aS, sv aT] 53] #[true, true, false, true, false, true, true, false, false, false] rfl rfl rfl (by kernel_rfl) (by kernel_rfl) (by kernel_rfl) (det_own_agg (us := [iv bC, .slice bQ bR.length bK, iv bU.row, iv bU.col, bv bV, iv bS, sv bT]) ty53 rfl rfl 1 rfl rfl rfl) ?_
 have hQ := bindVx hR; clear hR; obtain ⟨y0, hy0, hR⟩ := hQ
 refine hone 2 [bx b3 (cShf s) 55, bx b2 [iv bC, .slice bQ bR.length bK, iv bU.row, iv bU.col, bv bV, iv bS, sv bT] 53, bx b1 [iv aC, .slice aQ aR.length aK, iv aU.row, iv aU.col, bv aV, iv aS, sv aT] 53] #[true, true, true, true, false, true, true, false, false, false] rfl rfl rfl (by kernel_rfl) (by kernel_rfl) (by kernel_rfl) (tri_callP (L2 := [bx b3 (cShf s) 55, bx b2 [iv bC, .slice bQ bR.length bK, iv bU.row, iv bU.col, bv bV, iv bS, sv bT] 53, bx b1 [iv aC, .slice aQ aR.length aK, iv aU.row, iv aU.col, bv aV, iv aS, sv aT] 53]) (ref28_Done_c aC aR aU aV aS aT s aQ aZ aK hrowsaRowsrs (by first | omega | (simp <;> omega) | (dsimp only; omega) | decide) (by first | omega | (simp <;> omega) | (dsimp only; omega) | decide) (by first | omega | (simp <;> omega)) y0 hy0) rfl rfl rfl rfl rfl (Foll.pick [0, 1] rfl) (List.Perm.refl _) (fun ⟨⟨r4, rs5⟩, hp8⟩ => (bx b3 (cShf s) 55 :: bx b2 [iv bC, .slice bQ bR.length bK, iv bU.row, iv bU.col, bv bV, iv bS, sv bT] 53 :: bx b1 [iv aC, .slice aQ aR.length aK, iv aU.row, iv aU.col, bv aV, iv aS, sv aT] 53 :: (vo cSlc 67 r4 rs5) ++ ([]))) (fun ⟨⟨r4, rs5⟩, hp8⟩ => permC [vo cSlc 67 r4 rs5, [bx b3 (cShf s) 55], [bx b2 [iv bC, .slice bQ bR.length bK, iv bU.row, iv bU.col, bv bV, iv bS, sv bT] 53], [bx b1 [iv aC, .slice aQ aR.length aK, iv aU.row, iv aU.col, bv aV, iv aS, sv aT] 53]] [1, 2, 3, 0] 4 rfl (by decide) (by first | rfl | simp only [List.flatten_cons, List.flatten_nil, List.append_nil, List.cons_append, List.nil_append, List.append_assoc]) [[bx b3 (cShf s) 55], [bx b2 [iv bC, .slice bQ bR.length bK, iv bU.row, iv bU.col, bv bV, iv bS, sv bT] 53], [bx b1 [iv aC, .slice aQ aR.length aK, iv aU.row, iv aU.col, bv aV, iv aS, sv aT] 53], vo cSlc 67 r4 rs5] rfl (by first | rfl | simp only [List.flatten_cons, List.flatten_nil, List.append_nil, List.cons_append, List.nil_append, List.append_assoc]))) (fun ⟨⟨r4, rs5⟩, hp8⟩ => (mc [[bx b3 (cShf s) 55], [bx b2 [iv bC, .slice bQ bR.length bK, iv bU.row, iv bU.col, bv bV, iv bS, sv bT] 53], [bx b1 [iv aC, .slice aQ aR.length aK, iv aU.row, iv aU.col, bv aV, iv aS, sv aT] 53], vo cSlc 67 r4 rs5] [true, true, true, false] rfl (by first | rfl | (simp only [List.length_set] <;> rfl)))) (fun ⟨⟨r4, rs5⟩, hp8⟩ => (Foll.pick [1, 2, 3, 4] rfl)) fun ⟨⟨r4, rs5⟩, hp8⟩ => ?_
 try dsimp only at hp8
 obtain ⟨hk6, hw7⟩ := hp8
 have := VOk.le hk6
 have := VOk.cap hk6
 have := hw7.1
 have := VOk.cap hk6
 have := VOk.le hk6
 refine JH_seal [bx b3 (cShf s) 55, bx b2 [iv bC, .slice bQ bR.length bK, iv bU.row, iv bU.col, bv bV, iv bS, sv bT] 53, bx b1 [iv aC, .slice aQ aR.length aK, iv aU.row, iv aU.col, bv aV, iv aS, sv aT] 53] [] (T := 67) (c := cSlc) (r := r4) (xs := rs5) (VOk.cast hk6 (by rw [hw7.1])) (by first | rfl | simp only [List.cons_append, List.append_assoc, List.nil_append, List.append_nil]) [bx b3 (cShf s) 55, bx b2 [iv bC, .slice bQ bR.length bK, iv bU.row, iv bU.col, bv bV, iv bS, sv bT] 53, bx b1 [iv aC, .slice aQ aR.length aK, iv aU.row, iv aU.col, bv aV, iv aS, sv aT] 53] rfl (mk [true, true, true] rfl) ?_
 refine hone 4 [bx b3 (cShf s) 55, bx b2 [iv bC, .slice bQ bR.length bK, iv bU.row, iv bU.col, bv bV, iv bS, sv bT] 53, bx b1 [iv aC, .slice aQ aR.length aK, iv aU.row, iv aU.col, bv aV, iv aS, sv aT] 53] #[true, true, true, true, true, true, true, false, false, false] rfl rfl rfl (by kernel_rfl) (by kernel_rfl) (by kernel_rfl) (Det.tri (det_call (ref28_like_c y0.1 y0.2.1 (⟨y0.2.2.1, y0.2.2.2.1⟩ : Plc) y0.2.2.2.2.1 y0.2.2.2.2.2.1 y0.2.2.2.2.2.2 bC bR bU bV bS bT (va r4.q) rs5 r4.k bQ bZ bK hw7 (by first | omega | (simp <;> omega) | (dsimp only; omega) | decide) (by first | omega | (simp <;> omega) | (dsimp only; omega) | decide) hrowsbRowsrs (by first | omega | (simp <;> omega) | (dsimp only; omega) | decide) (by first | omega | (simp <;> omega) | (dsimp only; omega) | decide) (by first | omega | (have hz := ref28_Done_len aC aR aU aV aS aT s; rw [hy0] at hz; omega)) _ rfl) rfl rfl rfl rfl rfl (Foll.pick [0, 1, 4, 5] rfl))) (fun _ => (mk [true, true, true] rfl)) (fun _ => (Foll.pick [2, 3, 4, 5] rfl)) fun _ => ?_
 refine hone 7 [bx b3 (cShf s) 55, bx b2 [iv bC, .slice bQ bR.length bK, iv bU.row, iv bU.col, bv bV, iv bS, sv bT] 53, bx b1 [iv aC, .slice aQ aR.length aK, iv aU.row, iv aU.col, bv aV, iv aS, sv aT] 53] #[true, true, true, true, true, true, true, true, false, false] rfl rfl rfl (by kernel_rfl) (by kernel_rfl) (by kernel_rfl) (Det.tri (det_call (ref28_like_c aC aR aU aV aS aT bC bR bU bV bS bT aQ aZ aK bQ bZ bK hrowsaRowsrs (by first | omega | (simp <;> omega) | (dsimp only; omega) | decide) (by first | omega | (simp <;> omega) | (dsimp only; omega) | decide) hrowsbRowsrs (by first | omega | (simp <;> omega) | (dsimp only; omega) | decide) (by first | omega | (simp <;> omega) | (dsimp only; omega) | decide) (by first | omega | (have hz := ref28_Done_len aC aR aU aV aS aT s; rw [hy0] at hz; omega)) _ rfl) rfl rfl rfl rfl rfl (Foll.pick [2, 3, 4, 5] rfl))) (fun _ => (mk [true, true, true] rfl)) (fun _ => (Foll.pick [2, 3, 4, 5] rfl)) fun _ => ?_
 refine htak 8 [bx b3 (cShf s) 55, bx b2 [iv bC, .slice bQ bR.length bK, iv bU.row, iv bU.col, bv bV, iv bS, sv bT] 53, bx b1 [iv aC, .slice aQ aR.length aK, iv aU.row, iv aU.col, bv aV, iv aS, sv aT] 53] #[true, true, true, true, true, true, true, true, true, false] rfl rfl rfl (by kernel_rfl) (by kernel_rfl) (by kernel_rfl) (DetR.pure rfl) ?_
 refine hpur [9] 0 #[true, true, true, true, true, true, true, true, true, true] [(6, iv (IntKind.i64.wrap ((ref28_like y0.1 y0.2.1 (⟨y0.2.2.1, y0.2.2.2.1⟩ : Plc) y0.2.2.2.2.1 y0.2.2.2.2.2.1 y0.2.2.2.2.2.2 bC bR bU bV bS bT) - (ref28_like aC aR aU aV aS aT bC bR bU bV bS bT))))] (by kernel_rfl) ?_
 refine hend (by kernel_rfl) ?_
 refine J_ret ?_
 subst hR
 exact ends_ret rfl ⟨hr, hD⟩ (by simp [hD]) (res1 rfl (resV_tmp rfl)) () (by rfl) (mk [false, false, false] rfl) Foll.nil

def ref28_Best_j63 (aC : Int) (aR : List (List Cel)) (aU : Plc) (aV : Bool) (aS : Int) (aT : List UInt8) (bC : Int) (bR : List (List Cel)) (bU : Plc) (bV : Bool) (bS : Int) (bT : List UInt8) (top : Nat) (bottom : Nat) (by_ : Nat) (ag_ref28_Best_l20 : Int → Nat → Shf → (Shf × Int)) (most3 : Int) (best3 : Shf) : Shf × Int :=
 (bif (decide (most3 < (ref28_Gain aC aR aU aV aS aT bC bR bU bV bS bT ({ Shf.zero with top := (top : Int), bottom := (bottom : Int), amt := (-(by_ : Int)) })))) then ag_ref28_Best_l20 (ref28_Gain aC aR aU aV aS aT bC bR bU bV bS bT ({ Shf.zero with top := (top : Int), bottom := (bottom : Int), amt := (-(by_ : Int)) })) (by_ + 1) ({ Shf.zero with top := (top : Int), bottom := (bottom : Int), amt := (-(by_ : Int)) }) else ag_ref28_Best_l20 most3 (by_ + 1) best3)
def ref28_Best_l20 (aC : Int) (aR : List (List Cel)) (aU : Plc) (aV : Bool) (aS : Int) (aT : List UInt8) (bC : Int) (bR : List (List Cel)) (bU : Plc) (bV : Bool) (bS : Int) (bT : List UInt8) (top : Nat) (bottom : Nat) (ag_ref28_Best_l19 : Int → Nat → Shf → (Shf × Int)) : Nat → Int → Nat → Shf → (Shf × Int)
 | 0, _, _, _ => (Shf.zero, 0)
 | fu1 + 1, most2, by_, best2 => (bif (decide ((by_ : Int) ≤ ((bottom : Int) - (top : Int)))) then (bif (decide (most2 < (ref28_Gain aC aR aU aV aS aT bC bR bU bV bS bT ({ Shf.zero with top := (top : Int), bottom := (bottom : Int), amt := (by_ : Int) })))) then ref28_Best_j63 aC aR aU aV aS aT bC bR bU bV bS bT top bottom by_ (ref28_Best_l20 aC aR aU aV aS aT bC bR bU bV bS bT top bottom ag_ref28_Best_l19 fu1) (ref28_Gain aC aR aU aV aS aT bC bR bU bV bS bT ({ Shf.zero with top := (top : Int), bottom := (bottom : Int), amt := (by_ : Int) })) ({ Shf.zero with top := (top : Int), bottom := (bottom : Int), amt := (by_ : Int) }) else ref28_Best_j63 aC aR aU aV aS aT bC bR bU bV bS bT top bottom by_ (ref28_Best_l20 aC aR aU aV aS aT bC bR bU bV bS bT top bottom ag_ref28_Best_l19 fu1) most2 best2) else ag_ref28_Best_l19 most2 (bottom + 1) best2)
def ref28_Best_l19 (aC : Int) (aR : List (List Cel)) (aU : Plc) (aV : Bool) (aS : Int) (aT : List UInt8) (bC : Int) (bR : List (List Cel)) (bU : Plc) (bV : Bool) (bS : Int) (bT : List UInt8) (top : Nat) (ag_ref28_Best_l15 : Int → Nat → Shf → (Shf × Int)) : List (List Cel) → Int → Nat → Shf → (Shf × Int)
 | [], most1, bottom, best1 => ag_ref28_Best_l15 most1 (top + 1) best1
 | hd_l19 :: tl_l19, most1, bottom, best1 => ref28_Best_l20 aC aR aU aV aS aT bC bR bU bV bS bT top bottom (ref28_Best_l19 aC aR aU aV aS aT bC bR bU bV bS bT top ag_ref28_Best_l15 tl_l19) ((((bottom : Int) - (top : Int)) + 1 - (1 : Int)).toNat + 1) most1 1 best1
def ref28_Best_l15 (aC : Int) (aR : List (List Cel)) (aU : Plc) (aV : Bool) (aS : Int) (aT : List UInt8) (bC : Int) (bR : List (List Cel)) (bU : Plc) (bV : Bool) (bS : Int) (bT : List UInt8) : List (List Cel) → Int → Nat → Shf → (Shf × Int)
 | [], most, top, best => (best, most)
 | hd_l15 :: tl_l15, most, top, best => ref28_Best_l19 aC aR aU aV aS aT bC bR bU bV bS bT top (ref28_Best_l15 aC aR aU aV aS aT bC bR bU bV bS bT tl_l15) (aR.drop top) most top best
def ref28_Best (aC : Int) (aR : List (List Cel)) (aU : Plc) (aV : Bool) (aS : Int) (aT : List UInt8) (bC : Int) (bR : List (List Cel)) (bU : Plc) (bV : Bool) (bS : Int) (bT : List UInt8) : Shf × Int :=
 ref28_Best_l15 aC aR aU aV aS aT bC bR bU bV bS bT aR 0 0 Shf.zero

theorem ref28_Best_c (aC : Int) (aR : List (List Cel)) (aU : Plc) (aV : Bool) (aS : Int) (aT : List UInt8) (bC : Int) (bR : List (List Cel)) (bU : Plc) (bV : Bool) (bS : Int) (bT : List UInt8) (aQ : Option Addr) (aZ : List Slc) (aK : Nat) (bQ : Option Addr) (bZ : List Slc) (bK : Nat) (hrowsaRowsrs : RowsOk aZ aR) (hlaRows : aR.length ≤ 9223372036854775807) (hcaRows : aR.length ≤ aK) (hrowsbRowsrs : RowsOk bZ bR) (hlbRows : bR.length ≤ 9223372036854775807) (hcbRows : bR.length ≤ bK) (hg : 2 ≤ aC ∧ aC ≤ 80 ∧ aR.length ≤ 40 ∧ aR.length = bR.length) (R : Shf × Int) (hR : ref28_Best aC aR aU aV aS aT bC bR bU bV bS bT = R) : ConV Tryz.prog 38 [ag [iv aC, .slice aQ aR.length aK, iv aU.row, iv aU.col, bv aV, iv aS, sv aT], ag [iv bC, .slice bQ bR.length bK, iv bU.row, iv bU.col, bv bV, iv bS, sv bT]] [sl cSlc aQ aZ, rowsF cCel aZ aR, sl cSlc bQ bZ, rowsF cCel bZ bR] (.tuple #[ag (cShf R.1), iv R.2]) := by
 refine con_of_J (n := 66) Tryz.func38 rfl (by kernel_rfl) rfl rfl [(0, ag [iv aC, .slice aQ aR.length aK, iv aU.row, iv aU.col, bv aV, iv aS, sv aT]), (1, ag [iv bC, .slice bQ bR.length bK, iv bU.row, iv bU.col, bv bV, iv bS, sv bT])] ⟨rfl, rfl, trivial⟩ fun X hX hr hD => ?_
 replace hR := (ref28_Best.eq_1 ..).symm.trans hR
 have := hrowsaRowsrs.1
 have := hrowsbRowsrs.1
 refine sr 4 rfl ?_
 refine it rfl (tri_box (cs := [iv aC, .slice aQ aR.length aK, iv aU.row, iv aU.col, bv aV, iv aS, sv aT]) rfl rfl rfl) fun b1 => ?_
 refine it rfl (tri_box (cs := [iv bC, .slice bQ bR.length bK, iv bU.row, iv bU.col, bv bV, iv bS, sv bT]) rfl rfl rfl) fun b2 => ?_
 refine it rfl (tri_alloc (cs := cShf Shf.zero) zero55 rfl) fun b3 => ?_
 refine ip 1 0 [] (by kernel_rfl) ?_
 refine ie ?_
 refine sr 1 rfl ?_
 refine it rfl (tri_alloc (cs := cShf Shf.zero) zero55 rfl) fun b4 => ?_
 refine ie ?_
 refine sr 1 rfl ?_
 refine ip 1 0 [(7, iv 0)] (by kernel_rfl) ?_
 refine ie ?_
 refine J_seq ?_
 refine sr 1 rfl ?_
 refine ip 1 0 [(8, iv 0)] (by kernel_rfl) ?_
 refine ie ?_
 refine J_block ?_
 refine JL3 (fun (most : Int) (top : Nat) (best : Shf) => top ≤ aR.length ∧ ref28_Best_l15 aC aR aU aV aS aT bC bR bU bV bS bT (aR.drop top) most top best = R) (fun (most : Int) (top : Nat) (best : Shf) => [(2, pt b1 0), (3, pt b2 0), (4, pt b3 0), (6, pt b4 0), (7, iv most), (8, iv (top : Int))]) (fun (most : Int) (top : Nat) (best : Shf) => [bx b4 (cShf best) 55, bx b3 (cShf Shf.zero) 55, bx b2 [iv bC, .slice bQ bR.length bK, iv bU.row, iv bU.col, bv bV, iv bS, sv bT] 53, bx b1 [iv aC, .slice aQ aR.length aK, iv aU.row, iv aU.col, bv aV, iv aS, sv aT] 53]) (fun (most : Int) (top : Nat) (best : Shf) => [sl cSlc aQ aZ, rowsF cCel aZ aR, sl cSlc bQ bZ, rowsF cCel bZ bR]) (fun (most : Int) (top : Nat) (best : Shf) => aR.length - top) 0 0 Shf.zero ⟨(by omega), hR⟩ ⟨rfl, rfl, rfl, rfl, (by first | rfl | (simp only [List.length_set]; rfl) | (simp; done) | (simp; omega)), (by first | rfl | (simp only [List.length_set]; rfl) | (simp; done) | (simp; omega)), trivial⟩ (mk [true, true, true, true] rfl) Foll.refl ?_
 rintro most top best ⟨hm5, hR⟩
 refine J_seq ?_
 refine sr 5 rfl ?_
 refine ip 2 3 [(15, iv (top : Int)), (16, pt b1 1)] (by kernel_rfl) ?_
 refine ix rfl (det_own_one (v := .slice aQ aR.length aK) ty49 rfl rfl 3 rfl rfl) ?_
 refine ip 2 0 [(19, bv (decide ((top : Int) < (aR.length : Int))))] (by kernel_rfl) ?_
 refine ie ?_
 refine J_if rfl (fun h6 => ?_) (fun h6 => ?_)
 ·have h6p : (top : Int) < (aR.length : Int) := by simpa using h6
  rw [dropc [] (show top < aR.length by omega)] at hR; replace hR := (ref28_Best_l15.eq_2 ..).symm.trans hR
  refine J_skip ?_
  refine nx ?_
  refine J_seq ?_
  refine J_block ?_
  refine sr 2 rfl ?_
  refine ip 2 0 [(9, iv (top : Int))] (by kernel_rfl) ?_
  refine ie ?_
  refine J_block ?_
  refine JL3 (fun (most1 : Int) (bottom : Nat) (best1 : Shf) => bottom ≤ aR.length ∧ ref28_Best_l19 aC aR aU aV aS aT bC bR bU bV bS bT top (ref28_Best_l15 aC aR aU aV aS aT bC bR bU bV bS bT (aR.drop (top + 1))) (aR.drop bottom) most1 bottom best1 = R) (fun (most1 : Int) (bottom : Nat) (best1 : Shf) => [(2, pt b1 0), (3, pt b2 0), (4, pt b3 0), (6, pt b4 0), (7, iv most1), (8, iv (top : Int)), (9, iv (bottom : Int))]) (fun (most1 : Int) (bottom : Nat) (best1 : Shf) => [bx b4 (cShf best1) 55, bx b3 (cShf Shf.zero) 55, bx b2 [iv bC, .slice bQ bR.length bK, iv bU.row, iv bU.col, bv bV, iv bS, sv bT] 53, bx b1 [iv aC, .slice aQ aR.length aK, iv aU.row, iv aU.col, bv aV, iv aS, sv aT] 53]) (fun (most1 : Int) (bottom : Nat) (best1 : Shf) => [sl cSlc aQ aZ, rowsF cCel aZ aR, sl cSlc bQ bZ, rowsF cCel bZ bR]) (fun (most1 : Int) (bottom : Nat) (best1 : Shf) => aR.length - bottom) most top best ⟨(by omega), hR⟩ ⟨rfl, rfl, rfl, rfl, (by first | rfl | (simp only [List.length_set]; rfl) | (simp; done) | (simp; omega)), rfl, (by first | rfl | (simp only [List.length_set]; rfl) | (simp; done) | (simp; omega)), trivial⟩ (mk [true, true, true, true] rfl) Foll.refl ?_
  rintro most1 bottom best1 ⟨hm7, hR⟩
  refine J_seq ?_
  refine sr 5 rfl ?_
  refine ip 2 3 [(23, iv (bottom : Int)), (24, pt b1 1)] (by kernel_rfl) ?_
  refine ix rfl (det_own_one (v := .slice aQ aR.length aK) ty49 rfl rfl 3 rfl rfl) ?_
  refine ip 2 0 [(27, bv (decide ((bottom : Int) < (aR.length : Int))))] (by kernel_rfl) ?_
  refine ie ?_
  refine J_if rfl (fun h8 => ?_) (fun h8 => ?_)
  ·have h8p : (bottom : Int) < (aR.length : Int) := by simpa using h8
   rw [dropc [] (show bottom < aR.length by omega)] at hR; replace hR := (ref28_Best_l19.eq_2 ..).symm.trans hR
   refine J_skip ?_
   refine nx ?_
   refine J_seq ?_
   refine J_block ?_
   refine sr 1 rfl ?_
   refine ip 1 0 [(10, iv 1)] (by kernel_rfl) ?_
   refine ie ?_
   refine J_block ?_
   refine JL4 (fun (fu : Nat) (most2 : Int) (by_ : Nat) (best2 : Shf) => (((bottom : Int) - (top : Int)) + 1 - (by_ : Int)).toNat < fu ∧ ref28_Best_l20 aC aR aU aV aS aT bC bR bU bV bS bT top bottom (ref28_Best_l19 aC aR aU aV aS aT bC bR bU bV bS bT top (ref28_Best_l15 aC aR aU aV aS aT bC bR bU bV bS bT (aR.drop (top + 1))) (aR.drop (bottom + 1))) fu most2 by_ best2 = R) (fun (fu : Nat) (most2 : Int) (by_ : Nat) (best2 : Shf) => [(2, pt b1 0), (3, pt b2 0), (4, pt b3 0), (6, pt b4 0), (7, iv most2), (8, iv (top : Int)), (9, iv (bottom : Int)), (10, iv (by_ : Int))]) (fun (fu : Nat) (most2 : Int) (by_ : Nat) (best2 : Shf) => [bx b4 (cShf best2) 55, bx b3 (cShf Shf.zero) 55, bx b2 [iv bC, .slice bQ bR.length bK, iv bU.row, iv bU.col, bv bV, iv bS, sv bT] 53, bx b1 [iv aC, .slice aQ aR.length aK, iv aU.row, iv aU.col, bv aV, iv aS, sv aT] 53]) (fun (fu : Nat) (most2 : Int) (by_ : Nat) (best2 : Shf) => [sl cSlc aQ aZ, rowsF cCel aZ aR, sl cSlc bQ bZ, rowsF cCel bZ bR]) (fun (fu : Nat) (most2 : Int) (by_ : Nat) (best2 : Shf) => fu) ((((bottom : Int) - (top : Int)) + 1 - (1 : Int)).toNat + 1) most1 1 best1 ⟨(Nat.lt_succ_self _), hR⟩ ⟨rfl, rfl, rfl, rfl, (by first | rfl | (simp only [List.length_set]; rfl) | (simp; done) | (simp; omega)), rfl, rfl, (by first | rfl | (simp only [List.length_set]; rfl) | (simp; done) | (simp; omega)), trivial⟩ (mk [true, true, true, true] rfl) Foll.refl ?_
   rintro fu most2 by_ best2 ⟨hm9, hR⟩
   obtain ⟨fu1, rfl⟩ : ∃ m, fu = m + 1 := ⟨fu - 1, by omega⟩
   replace hR := (ref28_Best_l20.eq_2 ..).symm.trans hR
   refine J_seq ?_
   refine sr 5 rfl ?_
   refine ip 3 2 [(30, iv (by_ : Int)), (31, iv (bottom : Int)), (32, iv (top : Int))] (by kernel_rfl) ?_
   refine ix rfl (det_sub64 rfl rfl rfl rfl (by omega)) ?_
   refine ip 1 0 [(34, bv (decide ((by_ : Int) ≤ ((bottom : Int) - (top : Int)))))] (by kernel_rfl) ?_
   refine ie ?_
   refine J_if rfl (fun h10 => ?_) (fun h10 => ?_)
   ·have h10p : (by_ : Int) ≤ ((bottom : Int) - (top : Int)) := by simpa using h10
    replace hR := bt hR h10
    refine J_skip ?_
    refine nx ?_
    refine J_seq ?_
    refine J_block ?_
    refine sr 6 rfl ?_
    refine ip 3 3 [(37, iv (top : Int)), (38, iv (bottom : Int)), (39, iv (by_ : Int))] (by kernel_rfl) ?_
    refine ix rfl (det_build (cs := cShf ({ Shf.zero with top := (top : Int), bottom := (bottom : Int), amt := (by_ : Int) })) rfl rfl (by kernel_rfl)) ?_
    refine it rfl (tri_alloc (cs := cShf Shf.zero) zero55 rfl) fun b11 => ?_
    refine it rfl (tri_store (us := cShf ({ Shf.zero with top := (top : Int), bottom := (bottom : Int), amt := (by_ : Int) })) (cs' := cShf ({ Shf.zero with top := (top : Int), bottom := (bottom : Int), amt := (by_ : Int) })) ty55 rfl rfl rfl 0 rfl rfl rfl rfl rfl rfl) fun _ => ?_
    refine ie ?_
    refine sr 7 rfl ?_
    refine ip 3 4 [(41, iv (top : Int)), (42, iv (bottom : Int)), (43, iv (by_ : Int))] (by kernel_rfl) ?_
    refine ix rfl (det_neg64 rfl rfl rfl (by omega)) ?_
    refine ix rfl (det_build (cs := cShf ({ Shf.zero with top := (top : Int), bottom := (bottom : Int), amt := (-(by_ : Int)) })) rfl rfl (by kernel_rfl)) ?_
    refine it rfl (tri_alloc (cs := cShf Shf.zero) zero55 rfl) fun b12 => ?_
    refine it rfl (tri_store (us := cShf ({ Shf.zero with top := (top : Int), bottom := (bottom : Int), amt := (-(by_ : Int)) })) (cs' := cShf ({ Shf.zero with top := (top : Int), bottom := (bottom : Int), amt := (-(by_ : Int)) })) ty55 rfl rfl rfl 0 rfl rfl rfl rfl rfl rfl) fun _ => ?_
    refine ie ?_
    refine JS2 (fun (most3 : Int) (best3 : Shf) => ref28_Best_j63 aC aR aU aV aS aT bC bR bU bV bS bT top bottom by_ (ref28_Best_l20 aC aR aU aV aS aT bC bR bU bV bS bT top bottom (ref28_Best_l19 aC aR aU aV aS aT bC bR bU bV bS bT top (ref28_Best_l15 aC aR aU aV aS aT bC bR bU bV bS bT (aR.drop (top + 1))) (aR.drop (bottom + 1))) fu1) most3 best3 = R) (fun (most3 : Int) (best3 : Shf) => [(2, pt b1 0), (3, pt b2 0), (4, pt b3 0), (6, pt b4 0), (7, iv most3), (8, iv (top : Int)), (9, iv (bottom : Int)), (10, iv (by_ : Int)), (12, pt b12 0)]) (fun (most3 : Int) (best3 : Shf) => [bx b12 (cShf ({ Shf.zero with top := (top : Int), bottom := (bottom : Int), amt := (-(by_ : Int)) })) 55, bx b11 (cShf ({ Shf.zero with top := (top : Int), bottom := (bottom : Int), amt := (by_ : Int) })) 55, bx b4 (cShf best3) 55, bx b3 (cShf Shf.zero) 55, bx b2 [iv bC, .slice bQ bR.length bK, iv bU.row, iv bU.col, bv bV, iv bS, sv bT] 53, bx b1 [iv aC, .slice aQ aR.length aK, iv aU.row, iv aU.col, bv aV, iv aS, sv aT] 53]) (fun (most3 : Int) (best3 : Shf) => [sl cSlc aQ aZ, rowsF cCel aZ aR, sl cSlc bQ bZ, rowsF cCel bZ bR]) ?_ ?_
    ·refine sr 5 rfl ?_
     refine ix rfl (det_own_agg (us := [iv aC, .slice aQ aR.length aK, iv aU.row, iv aU.col, bv aV, iv aS, sv aT]) ty53 rfl rfl 5 rfl rfl rfl) ?_
     refine ix rfl (det_own_agg (us := [iv bC, .slice bQ bR.length bK, iv bU.row, iv bU.col, bv bV, iv bS, sv bT]) ty53 rfl rfl 4 rfl rfl rfl) ?_
     refine ix rfl (det_own_agg (us := cShf ({ Shf.zero with top := (top : Int), bottom := (bottom : Int), amt := (by_ : Int) })) ty55 rfl rfl 1 rfl rfl rfl) ?_
     refine ixc rfl (det_call (ref28_Gain_c aC aR aU aV aS aT bC bR bU bV bS bT ({ Shf.zero with top := (top : Int), bottom := (bottom : Int), amt := (by_ : Int) }) aQ aZ aK bQ bZ bK hrowsaRowsrs (by first | omega | (simp <;> omega) | (dsimp only; omega) | decide) (by first | omega | (simp <;> omega) | (dsimp only; omega) | decide) hrowsbRowsrs (by first | omega | (simp <;> omega) | (dsimp only; omega) | decide) (by first | omega | (simp <;> omega) | (dsimp only; omega) | decide) (by first | omega | (dsimp only; omega)) _ rfl) rfl rfl rfl rfl rfl Foll.refl) ?_
     refine ip 1 0 [(13, iv (ref28_Gain aC aR aU aV aS aT bC bR bU bV bS bT ({ Shf.zero with top := (top : Int), bottom := (bottom : Int), amt := (by_ : Int) })))] (by kernel_rfl) ?_
     refine ie ?_
     refine sr 3 rfl ?_
     refine ip 3 0 [(52, bv (decide (most2 < (ref28_Gain aC aR aU aV aS aT bC bR bU bV bS bT ({ Shf.zero with top := (top : Int), bottom := (bottom : Int), amt := (by_ : Int) })))))] (by kernel_rfl) ?_
     refine ie ?_
     refine J_if rfl (fun h13 => ?_) (fun h13 => ?_)
     ·have h13p : most2 < (ref28_Gain aC aR aU aV aS aT bC bR bU bV bS bT ({ Shf.zero with top := (top : Int), bottom := (bottom : Int), amt := (by_ : Int) })) := by simpa using h13
      replace hR := bt hR h13
      refine J_region 4 rfl ?_
      refine ix rfl (det_own_agg (us := cShf ({ Shf.zero with top := (top : Int), bottom := (bottom : Int), amt := (by_ : Int) })) ty55 rfl rfl 1 rfl rfl rfl) ?_
      refine ip 1 2 [(54, iv (ref28_Gain aC aR aU aV aS aT bC bR bU bV bS bT ({ Shf.zero with top := (top : Int), bottom := (bottom : Int), amt := (by_ : Int) })))] (by kernel_rfl) ?_
      refine it rfl (tri_store (us := cShf ({ Shf.zero with top := (top : Int), bottom := (bottom : Int), amt := (by_ : Int) })) (cs' := cShf ({ Shf.zero with top := (top : Int), bottom := (bottom : Int), amt := (by_ : Int) })) ty55 rfl rfl rfl 2 rfl rfl rfl rfl rfl rfl) fun _ => ?_
      refine ip 1 0 [(7, iv (ref28_Gain aC aR aU aV aS aT bC bR bU bV bS bT ({ Shf.zero with top := (top : Int), bottom := (bottom : Int), amt := (by_ : Int) })))] (by kernel_rfl) ?_
      refine JI_end ?_
      exact meet2 (ref28_Gain aC aR aU aV aS aT bC bR bU bV bS bT ({ Shf.zero with top := (top : Int), bottom := (bottom : Int), amt := (by_ : Int) })) ({ Shf.zero with top := (top : Int), bottom := (bottom : Int), amt := (by_ : Int) }) hR ⟨rfl, rfl, rfl, rfl, (by first | rfl | (simp only [List.length_set]; rfl) | (simp; done) | (simp; omega)), rfl, rfl, rfl, rfl, trivial⟩ (mk [true, true, true, true, true, true] rfl) Foll.refl
     ·have h13p : ¬ (most2 < (ref28_Gain aC aR aU aV aS aT bC bR bU bV bS bT ({ Shf.zero with top := (top : Int), bottom := (bottom : Int), amt := (by_ : Int) }))) := by simpa using h13
      replace hR := bf hR h13
      refine J_skip ?_
      exact meet2 most2 best2 hR ⟨rfl, rfl, rfl, rfl, (by first | rfl | (simp only [List.length_set]; rfl) | (simp; done) | (simp; omega)), rfl, rfl, rfl, rfl, trivial⟩ (mk [true, true, true, true, true, true] rfl) Foll.refl
    ·intro most3 best3
     rintro hR
     replace hR := (ref28_Best_j63.eq_1 ..).symm.trans hR
     refine sr 5 rfl ?_
     refine ix rfl (det_own_agg (us := [iv aC, .slice aQ aR.length aK, iv aU.row, iv aU.col, bv aV, iv aS, sv aT]) ty53 rfl rfl 5 rfl rfl rfl) ?_
     refine ix rfl (det_own_agg (us := [iv bC, .slice bQ bR.length bK, iv bU.row, iv bU.col, bv bV, iv bS, sv bT]) ty53 rfl rfl 4 rfl rfl rfl) ?_
     refine ix rfl (det_own_agg (us := cShf ({ Shf.zero with top := (top : Int), bottom := (bottom : Int), amt := (-(by_ : Int)) })) ty55 rfl rfl 0 rfl rfl rfl) ?_
     refine ixc rfl (det_call (ref28_Gain_c aC aR aU aV aS aT bC bR bU bV bS bT ({ Shf.zero with top := (top : Int), bottom := (bottom : Int), amt := (-(by_ : Int)) }) aQ aZ aK bQ bZ bK hrowsaRowsrs (by first | omega | (simp <;> omega) | (dsimp only; omega) | decide) (by first | omega | (simp <;> omega) | (dsimp only; omega) | decide) hrowsbRowsrs (by first | omega | (simp <;> omega) | (dsimp only; omega) | decide) (by first | omega | (simp <;> omega) | (dsimp only; omega) | decide) (by first | omega | (dsimp only; omega)) _ rfl) rfl rfl rfl rfl rfl Foll.refl) ?_
     refine ip 1 0 [(14, iv (ref28_Gain aC aR aU aV aS aT bC bR bU bV bS bT ({ Shf.zero with top := (top : Int), bottom := (bottom : Int), amt := (-(by_ : Int)) })))] (by kernel_rfl) ?_
     refine ie ?_
     refine sr 3 rfl ?_
     refine ip 3 0 [(61, bv (decide (most3 < (ref28_Gain aC aR aU aV aS aT bC bR bU bV bS bT ({ Shf.zero with top := (top : Int), bottom := (bottom : Int), amt := (-(by_ : Int)) })))))] (by kernel_rfl) ?_
     refine ie ?_
     refine J_if rfl (fun h14 => ?_) (fun h14 => ?_)
     ·have h14p : most3 < (ref28_Gain aC aR aU aV aS aT bC bR bU bV bS bT ({ Shf.zero with top := (top : Int), bottom := (bottom : Int), amt := (-(by_ : Int)) })) := by simpa using h14
      replace hR := bt hR h14
      refine J_region 4 rfl ?_
      refine ix rfl (det_own_agg (us := cShf ({ Shf.zero with top := (top : Int), bottom := (bottom : Int), amt := (-(by_ : Int)) })) ty55 rfl rfl 0 rfl rfl rfl) ?_
      refine ip 1 2 [(63, iv (ref28_Gain aC aR aU aV aS aT bC bR bU bV bS bT ({ Shf.zero with top := (top : Int), bottom := (bottom : Int), amt := (-(by_ : Int)) })))] (by kernel_rfl) ?_
      refine it rfl (tri_store (us := cShf ({ Shf.zero with top := (top : Int), bottom := (bottom : Int), amt := (-(by_ : Int)) })) (cs' := cShf ({ Shf.zero with top := (top : Int), bottom := (bottom : Int), amt := (-(by_ : Int)) })) ty55 rfl rfl rfl 2 rfl rfl rfl rfl rfl rfl) fun _ => ?_
      refine ip 1 0 [(7, iv (ref28_Gain aC aR aU aV aS aT bC bR bU bV bS bT ({ Shf.zero with top := (top : Int), bottom := (bottom : Int), amt := (-(by_ : Int)) })))] (by kernel_rfl) ?_
      refine JI_end ?_
      refine nx ?_
      refine J_region 3 rfl ?_
      refine ip 1 2 [(35, iv (by_ : Int))] (by kernel_rfl) ?_
      refine ix rfl (det_add64 rfl rfl rfl rfl (by omega)) ?_
      refine ip 1 0 [(10, iv ((by_ : Int) + 1))] (by kernel_rfl) ?_
      refine JI_end ?_
      exact againL4 (z1 := (fu1 + 1)) (z2 := most2) (z3 := by_) (z4 := best2) fu1 (ref28_Gain aC aR aU aV aS aT bC bR bU bV bS bT ({ Shf.zero with top := (top : Int), bottom := (bottom : Int), amt := (-(by_ : Int)) })) (by_ + 1) ({ Shf.zero with top := (top : Int), bottom := (bottom : Int), amt := (-(by_ : Int)) }) ⟨(by omega), hR⟩ (Nat.lt_succ_self _) ⟨rfl, rfl, rfl, rfl, (by first | rfl | (simp only [List.length_set]; rfl) | (simp; done) | (simp; omega)), rfl, rfl, (by first | rfl | (simp only [List.length_set]; rfl) | (simp; done) | (simp; omega)), trivial⟩ (mk [false, false, true, true, true, true] rfl) Foll.refl
     ·have h14p : ¬ (most3 < (ref28_Gain aC aR aU aV aS aT bC bR bU bV bS bT ({ Shf.zero with top := (top : Int), bottom := (bottom : Int), amt := (-(by_ : Int)) }))) := by simpa using h14
      replace hR := bf hR h14
      refine J_skip ?_
      refine nx ?_
      refine J_region 3 rfl ?_
      refine ip 1 2 [(35, iv (by_ : Int))] (by kernel_rfl) ?_
      refine ix rfl (det_add64 rfl rfl rfl rfl (by omega)) ?_
      refine ip 1 0 [(10, iv ((by_ : Int) + 1))] (by kernel_rfl) ?_
      refine JI_end ?_
      exact againL4 (z1 := (fu1 + 1)) (z2 := most2) (z3 := by_) (z4 := best2) fu1 most3 (by_ + 1) best3 ⟨(by omega), hR⟩ (Nat.lt_succ_self _) ⟨rfl, rfl, rfl, rfl, (by first | rfl | (simp only [List.length_set]; rfl) | (simp; done) | (simp; omega)), rfl, rfl, (by first | rfl | (simp only [List.length_set]; rfl) | (simp; done) | (simp; omega)), trivial⟩ (mk [false, false, true, true, true, true] rfl) Foll.refl
   ·have h10p : ¬ ((by_ : Int) ≤ ((bottom : Int) - (top : Int))) := by simpa using h10
    replace hR := bf hR h10
    refine J_exit ?_
    refine nx ?_
    refine J_region 3 rfl ?_
    refine ip 1 2 [(28, iv (bottom : Int))] (by kernel_rfl) ?_
    refine ix rfl (det_add64 rfl rfl rfl rfl (by omega)) ?_
    refine ip 1 0 [(9, iv ((bottom : Int) + 1))] (by kernel_rfl) ?_
    refine JI_end ?_
    exact againL3 (z1 := most1) (z2 := bottom) (z3 := best1) most2 (bottom + 1) best2 ⟨(by omega), hR⟩ (by (try dsimp only); omega) ⟨rfl, rfl, rfl, rfl, (by first | rfl | (simp only [List.length_set]; rfl) | (simp; done) | (simp; omega)), rfl, (by first | rfl | (simp only [List.length_set]; rfl) | (simp; done) | (simp; omega)), trivial⟩ (mk [true, true, true, true] rfl) Foll.refl
  ·have h8p : ¬ ((bottom : Int) < (aR.length : Int)) := by simpa using h8
   rw [dropn h8p] at hR; replace hR := (ref28_Best_l19.eq_1 ..).symm.trans hR
   refine J_exit ?_
   refine nx ?_
   refine J_region 3 rfl ?_
   refine ip 1 2 [(20, iv (top : Int))] (by kernel_rfl) ?_
   refine ix rfl (det_add64 rfl rfl rfl rfl (by omega)) ?_
   refine ip 1 0 [(8, iv ((top : Int) + 1))] (by kernel_rfl) ?_
   refine JI_end ?_
   exact againL3 (z1 := most) (z2 := top) (z3 := best) most1 (top + 1) best1 ⟨(by omega), hR⟩ (by (try dsimp only); omega) ⟨rfl, rfl, rfl, rfl, (by first | rfl | (simp only [List.length_set]; rfl) | (simp; done) | (simp; omega)), (by first | rfl | (simp only [List.length_set]; rfl) | (simp; done) | (simp; omega)), trivial⟩ (mk [true, true, true, true] rfl) Foll.refl
 ·have h6p : ¬ ((top : Int) < (aR.length : Int)) := by simpa using h6
  rw [dropn h6p] at hR; replace hR := (ref28_Best_l15.eq_1 ..).symm.trans hR
  refine J_exit ?_
  refine nx ?_
  refine sr 4 rfl ?_
  refine ix rfl (det_own_agg (us := cShf best) ty55 rfl rfl 0 rfl rfl rfl) ?_
  refine ip 1 2 [(65, iv most)] (by kernel_rfl) ?_
  refine it rfl (tri_store (us := cShf best) (cs' := cShf best) ty55 rfl rfl rfl 1 rfl rfl rfl rfl rfl rfl) fun _ => ?_
  refine ip 1 0 [(5, iv most)] (by kernel_rfl) ?_
  refine ie ?_
  refine J_ret ?_
  subst hR
  exact ends_ret rfl ⟨hr, hD⟩ (by simp [hD]) (res2 rfl (resV_cell (us := cShf best) ty55 rfl 1 rfl rfl rfl) (resV_tmp rfl)) () (by rfl) (mk [false, false, false, false] rfl) Foll.nil

end Go.Proofs.YtinkdfnpmoljfaaGreatDoor

