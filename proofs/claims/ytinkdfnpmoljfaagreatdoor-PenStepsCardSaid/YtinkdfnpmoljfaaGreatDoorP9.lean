import Derived.Test.YtinkdfnpmoljfaaGreatDoorD2
import Derived.Test.YtinkdfnpmoljfaaGreatDoorFenX
import Derived.Test.YtinkdfnpmoljfaaGreatDoorIto
import Derived.Test.YtinkdfnpmoljfaaGreatDoorProg
import Derived.Test.YtinkdfnpmoljfaaGreatDoorP1
import Derived.Test.YtinkdfnpmoljfaaGreatDoorP2
import Derived.Test.YtinkdfnpmoljfaaGreatDoorP3
import Derived.Test.YtinkdfnpmoljfaaGreatDoorP4
import Derived.Test.YtinkdfnpmoljfaaGreatDoorP5
import Derived.Test.YtinkdfnpmoljfaaGreatDoorP6
import Derived.Test.YtinkdfnpmoljfaaGreatDoorP7
set_option linter.unusedVariables false
set_option linter.unusedSimpArgs false
set_option linter.unnecessarySimpa false
set_option maxRecDepth 100000
namespace Go.Proofs.YtinkdfnpmoljfaaGreatDoor
open Go Go.Fen
theorem slt30 : SlTy Tryz.prog 30 5 1 := ⟨by kernel_rfl, by kernel_rfl⟩
theorem slt272 : SlTy Tryz.prog 272 189 3 := ⟨by kernel_rfl, by kernel_rfl⟩
def ref05_Check_l3 (i : Nat) (ag_ref05_Check_l2 : Nat → Int) : List Int → Nat → Int
 | [], k => ag_ref05_Check_l2 (i + 1)
 | hd_l3 :: tl_l3, k => (bif ((decide (hd_l3 < (-1))) || (decide ((9999 : Int) < hd_l3))) then 150 else ref05_Check_l3 i ag_ref05_Check_l2 tl_l3 (k + 1))
def ref05_Check_l2 (l : List (List Int)) : List (List Int) → Nat → Int
 | [], i => (bif (((decide ((l.length : Int) = 1)) && (decide (((l.getD 0 []).length : Int) = 1))) && (decide (((l.getD 0 []).getD 0 0) = (-1)))) then 150 else 0)
 | hd_l2 :: tl_l2, i => (bif ((decide ((hd_l2.length : Int) < 1)) || (decide ((6 : Int) < (hd_l2.length : Int)))) then 150 else ref05_Check_l3 i (ref05_Check_l2 l tl_l2) hd_l2 0)
def ref05_Check (l : List (List Int)) : Int :=
 (bif (decide ((16 : Int) < (l.length : Int))) then 150 else ref05_Check_l2 l l 0)

theorem ref05_Check_l3_ok (i : Nat) (ag : Nat → Int) (hag : ag (i + 1) ≠ 150 → True) : ∀ (r : List Int) (k : Nat), ref05_Check_l3 i ag r k ≠ 150 → (∀ n ∈ r, -1 ≤ n ∧ n ≤ 9999) ∧ ref05_Check_l3 i ag r k = ag (i + 1)
 | [], k, h => ⟨fun n hn => (by cases hn), rfl⟩
 | x :: r, k, h => by
  simp only [ref05_Check_l3] at h ⊢
  cases hc : (decide (x < (-1))) || (decide ((9999 : Int) < x)) with
  | true => rw [hc, cond_true] at h; exact absurd rfl h
  | false =>
   rw [hc, cond_false] at h
   have ih := ref05_Check_l3_ok i ag hag r (k + 1) h
   simp only [Bool.or_eq_false_iff, decide_eq_false_iff_not] at hc
   refine ⟨fun n hn => ?_, by rw [cond_false]; exact ih.2⟩
   rcases List.mem_cons.1 hn with rfl | hn
   ·omega
   ·exact ih.1 n hn
theorem ref05_Check_l2_ok (l : List (List Int)) : ∀ (s : List (List Int)) (i : Nat), ref05_Check_l2 l s i ≠ 150 → ∀ r ∈ s, 1 ≤ r.length ∧ r.length ≤ 6 ∧ ∀ n ∈ r, -1 ≤ n ∧ n ≤ 9999
 | [], i, h, r, hr => by cases hr
 | x :: s, i, h, r, hr => by
  simp only [ref05_Check_l2] at h
  cases hc : (decide ((x.length : Int) < 1)) || (decide ((6 : Int) < (x.length : Int))) with
  | true => rw [hc, cond_true] at h; exact absurd rfl h
  | false =>
   rw [hc, cond_false] at h
   have h3 := ref05_Check_l3_ok i _ (fun _ => trivial) x 0 h
   rw [h3.2] at h
   simp only [Bool.or_eq_false_iff, decide_eq_false_iff_not] at hc
   rcases List.mem_cons.1 hr with rfl | hr
   ·exact ⟨by omega, by omega, h3.1⟩
   ·exact ref05_Check_l2_ok l s (i + 1) h r hr
theorem ref05_Check_ok {l : List (List Int)} (h : ref05_Check l = 0) : parOk l := by
 unfold ref05_Check at h
 cases hc : decide ((16 : Int) < (l.length : Int)) with
 | true => rw [hc, cond_true] at h; omega
 | false =>
  rw [hc, cond_false] at h
  simp only [decide_eq_false_iff_not] at hc
  exact ⟨by omega, ref05_Check_l2_ok l l 0 (by rw [h]; omega)⟩

theorem ref05_Check_c (l : List (List Int)) (lq : Option Addr) (lrs : List Slc) (lk : Nat) (hrowslrs : RowsOk lrs l) (hll : l.length ≤ 9223372036854775807) (hcl : l.length ≤ lk) (R : Int) (hR : ref05_Check l = R) : ConV Tryz.prog 159 [.slice lq l.length lk] [sl cSlc lq lrs, rowsF cInt lrs l] (iv R) := by
 refine con_of_J (n := 80) Tryz.func159 rfl (by kernel_rfl) rfl rfl [(0, .slice lq l.length lk)] ⟨rfl, trivial⟩ fun X hX hr hD => ?_
 replace hR := (ref05_Check.eq_1 ..).symm.trans hR
 have := hrowslrs.1
 refine sr 1 rfl ?_
 refine ip 1 0 [] (by kernel_rfl) ?_
 refine ie ?_
 refine J_seq ?_
 refine sr 3 rfl ?_
 refine ip 3 0 [(7, bv (decide ((16 : Int) < (l.length : Int))))] (by kernel_rfl) ?_
 refine ie ?_
 refine J_if rfl (fun h1 => ?_) (fun h1 => ?_)
 ·have h1p : (16 : Int) < (l.length : Int) := by simpa using h1
  replace hR := bt hR h1
  refine sr 1 rfl ?_
  refine ip 1 0 [(2, iv 150)] (by kernel_rfl) ?_
  refine ie ?_
  refine J_ret ?_
  subst hR
  exact ends_ret rfl ⟨hr, hD⟩ (by simp [hD]) (res1 rfl (resV_tmp rfl)) () (by rfl) (mk [] rfl) Foll.nil
 ·have h1p : ¬ ((16 : Int) < (l.length : Int)) := by simpa using h1
  replace hR := bf hR h1
  refine J_skip ?_
  refine nx ?_
  refine J_seq ?_
  refine sr 1 rfl ?_
  refine ip 1 0 [(3, iv 0)] (by kernel_rfl) ?_
  refine ie ?_
  refine J_block ?_
  refine JL1 (fun (i : Nat) => i ≤ l.length ∧ ref05_Check_l2 l (l.drop i) i = R) (fun (i : Nat) => [(0, .slice lq l.length lk), (3, iv (i : Int))]) (fun (i : Nat) => []) (fun (i : Nat) => [sl cSlc lq lrs, rowsF cInt lrs l]) (fun (i : Nat) => l.length - i) 0 ⟨(by omega), hR⟩ ⟨rfl, (by first | rfl | (simp only [List.length_set]; rfl) | (simp; done) | (simp; omega)), trivial⟩ (mk [] rfl) Foll.refl ?_
  rintro i ⟨hm2, hR⟩
  refine J_seq ?_
  refine sr 4 rfl ?_
  refine ip 4 0 [(11, bv (decide ((i : Int) < (l.length : Int))))] (by kernel_rfl) ?_
  refine ie ?_
  refine J_if rfl (fun h3 => ?_) (fun h3 => ?_)
  ·have h3p : (i : Int) < (l.length : Int) := by simpa using h3
   rw [dropc [] (show i < l.length by omega)] at hR; replace hR := (ref05_Check_l2.eq_2 ..).symm.trans hR
   refine J_skip ?_
   refine nx ?_
   refine J_seq ?_
   refine J_block ?_
   refine J_seq ?_
   refine sr 16 rfl ?_
   refine ip 2 14 [(14, .slice lq l.length lk), (15, iv (i : Int))] (by kernel_rfl) ?_
   refine JI_base 0 rfl (by omega) fun a4 hq5 => ?_
   refine JI_fact1 (rows_atD (k := i) (d := (⟨none, 0, 0⟩ : Slc)) hrowslrs 1 rfl (by have := hrowslrs.1; omega)) ?_
   have := rows_cap hrowslrs (k := i) (d := (⟨none, 0, 0⟩ : Slc)) (by have := hrowslrs.1; omega)
   refine ix rfl (det_ixq slt163 rfl rfl hq5 rfl i rfl (by omega)) ?_
   refine ip 1 12 [(17, pa (Addr.add a4 (i * 1)))] (by kernel_rfl) ?_
   refine ix rfl (det_conv (det_ld_one (v := .slice ((lrs.getD i (⟨none, 0, 0⟩ : Slc)).q) ((lrs.getD i (⟨none, 0, 0⟩ : Slc)).n) ((lrs.getD i (⟨none, 0, 0⟩ : Slc)).k)) (us := [.slice ((lrs.getD i (⟨none, 0, 0⟩ : Slc)).q) ((lrs.getD i (⟨none, 0, 0⟩ : Slc)).n) ((lrs.getD i (⟨none, 0, 0⟩ : Slc)).k)]) ty168 rfl rfl (at_part0 (at_slq (c := cSlc) (sz := 1) hq5 (fun _ => rfl) 1 rfl (gd (⟨none, 0, 0⟩ : Slc) (by have := hrowslrs.1; omega))) (ws := [.slice ((lrs.getD i (⟨none, 0, 0⟩ : Slc)).q) ((lrs.getD i (⟨none, 0, 0⟩ : Slc)).n) ((lrs.getD i (⟨none, 0, 0⟩ : Slc)).k)]) 1 rfl) rfl) (rows_val hrowslrs (by have := hrowslrs.1; omega))) ?_
   refine ip 3 8 [(21, bv (decide (((l.getD i []).length : Int) < 1)))] (by kernel_rfl) ?_
   refine ior 8 0 21 29 (decide ((6 : Int) < ((l.getD i []).length : Int))) rfl (by kernel_rfl) (fun g6 => ?_) ?_
   ·have g6p : ¬ (((l.getD i []).length : Int) < 1) := by simpa using g6
    refine ip 2 6 [(22, .slice lq l.length lk), (23, iv (i : Int))] (by kernel_rfl) ?_
    refine ix rfl (det_ixq slt163 rfl rfl hq5 rfl i rfl (by omega)) ?_
    refine ip 1 4 [(25, pa (Addr.add a4 (i * 1)))] (by kernel_rfl) ?_
    refine ix rfl (det_conv (det_ld_one (v := .slice ((lrs.getD i (⟨none, 0, 0⟩ : Slc)).q) ((lrs.getD i (⟨none, 0, 0⟩ : Slc)).n) ((lrs.getD i (⟨none, 0, 0⟩ : Slc)).k)) (us := [.slice ((lrs.getD i (⟨none, 0, 0⟩ : Slc)).q) ((lrs.getD i (⟨none, 0, 0⟩ : Slc)).n) ((lrs.getD i (⟨none, 0, 0⟩ : Slc)).k)]) ty168 rfl rfl (at_part0 (at_slq (c := cSlc) (sz := 1) hq5 (fun _ => rfl) 1 rfl (gd (⟨none, 0, 0⟩ : Slc) (by have := hrowslrs.1; omega))) (ws := [.slice ((lrs.getD i (⟨none, 0, 0⟩ : Slc)).q) ((lrs.getD i (⟨none, 0, 0⟩ : Slc)).n) ((lrs.getD i (⟨none, 0, 0⟩ : Slc)).k)]) 1 rfl) rfl) (rows_val hrowslrs (by have := hrowslrs.1; omega))) ?_
    refine ip 3 0 [(29, bv (decide ((6 : Int) < ((l.getD i []).length : Int))))] (by kernel_rfl) ?_
    exact JI_end (armI 7 21 29 g6 Foll.refl (mk [] rfl) rfl rfl rfl rfl rfl)
   refine ie ?_
   refine J_if rfl (fun h7 => ?_) (fun h7 => ?_)
   ·have h7p : (((l.getD i []).length : Int) < 1) ∨ ((6 : Int) < ((l.getD i []).length : Int)) := by simpa using h7
    replace hR := bt hR h7
    refine sr 1 rfl ?_
    refine ip 1 0 [(2, iv 150)] (by kernel_rfl) ?_
    refine ie ?_
    refine J_ret ?_
    subst hR
    exact ends_ret rfl ⟨hr, hD⟩ (by simp [hD]) (res1 rfl (resV_tmp rfl)) () (by rfl) (mk [] rfl) Foll.nil
   ·have h7p : ¬ ((((l.getD i []).length : Int) < 1) ∨ ((6 : Int) < ((l.getD i []).length : Int))) := by simpa using h7
    replace hR := bf hR h7
    refine J_skip ?_
    refine nx ?_
    refine sr 1 rfl ?_
    refine ip 1 0 [(4, iv 0)] (by kernel_rfl) ?_
    refine ie ?_
    refine J_block ?_
    refine JL1 (fun (k : Nat) => k ≤ (l.getD i []).length ∧ ref05_Check_l3 i (ref05_Check_l2 l (l.drop (i + 1))) ((l.getD i []).drop k) k = R) (fun (k : Nat) => [(0, .slice lq l.length lk), (3, iv (i : Int)), (4, iv (k : Int))]) (fun (k : Nat) => []) (fun (k : Nat) => [sl cInt ((lrs.getD i (⟨none, 0, 0⟩ : Slc)).q) (l.getD i []), sl cSlc lq lrs, rowsF cInt lrs l]) (fun (k : Nat) => (l.getD i []).length - k) 0 ⟨(by omega), hR⟩ ⟨rfl, rfl, (by first | rfl | (simp only [List.length_set]; rfl) | (simp; done) | (simp; omega)), trivial⟩ (mk [] rfl) Foll.refl ?_
    rintro k ⟨hm8, hR⟩
    refine J_seq ?_
    refine sr 8 rfl ?_
    refine ip 3 5 [(30, iv (k : Int)), (31, .slice lq l.length lk), (32, iv (i : Int))] (by kernel_rfl) ?_
    refine ix rfl (det_ixq slt163 rfl rfl hq5 rfl i rfl (by omega)) ?_
    refine ip 1 3 [(34, pa (Addr.add a4 (i * 1)))] (by kernel_rfl) ?_
    refine ix rfl (det_conv (det_ld_one (v := .slice ((lrs.getD i (⟨none, 0, 0⟩ : Slc)).q) ((lrs.getD i (⟨none, 0, 0⟩ : Slc)).n) ((lrs.getD i (⟨none, 0, 0⟩ : Slc)).k)) (us := [.slice ((lrs.getD i (⟨none, 0, 0⟩ : Slc)).q) ((lrs.getD i (⟨none, 0, 0⟩ : Slc)).n) ((lrs.getD i (⟨none, 0, 0⟩ : Slc)).k)]) ty168 rfl rfl (at_part0 (at_slq (c := cSlc) (sz := 1) hq5 (fun _ => rfl) 1 rfl (gd (⟨none, 0, 0⟩ : Slc) (by have := hrowslrs.1; omega))) (ws := [.slice ((lrs.getD i (⟨none, 0, 0⟩ : Slc)).q) ((lrs.getD i (⟨none, 0, 0⟩ : Slc)).n) ((lrs.getD i (⟨none, 0, 0⟩ : Slc)).k)]) 1 rfl) rfl) (rows_val hrowslrs (by have := hrowslrs.1; omega))) ?_
    refine ip 2 0 [(37, bv (decide ((k : Int) < ((l.getD i []).length : Int))))] (by kernel_rfl) ?_
    refine ie ?_
    refine J_if rfl (fun h9 => ?_) (fun h9 => ?_)
    ·have h9p : (k : Int) < ((l.getD i []).length : Int) := by simpa using h9
     rw [dropc 0 (show k < (l.getD i []).length by omega)] at hR; replace hR := (ref05_Check_l3.eq_2 ..).symm.trans hR
     refine J_skip ?_
     refine nx ?_
     refine J_seq ?_
     refine J_block ?_
     refine sr 20 rfl ?_
     refine ip 2 18 [(40, .slice lq l.length lk), (41, iv (i : Int))] (by kernel_rfl) ?_
     refine ix rfl (det_ixq slt163 rfl rfl hq5 rfl i rfl (by omega)) ?_
     refine ip 1 16 [(43, pa (Addr.add a4 (i * 1)))] (by kernel_rfl) ?_
     refine ix rfl (det_conv (det_ld_one (v := .slice ((lrs.getD i (⟨none, 0, 0⟩ : Slc)).q) ((lrs.getD i (⟨none, 0, 0⟩ : Slc)).n) ((lrs.getD i (⟨none, 0, 0⟩ : Slc)).k)) (us := [.slice ((lrs.getD i (⟨none, 0, 0⟩ : Slc)).q) ((lrs.getD i (⟨none, 0, 0⟩ : Slc)).n) ((lrs.getD i (⟨none, 0, 0⟩ : Slc)).k)]) ty168 rfl rfl (at_part0 (at_slq (c := cSlc) (sz := 1) hq5 (fun _ => rfl) 1 rfl (gd (⟨none, 0, 0⟩ : Slc) (by have := hrowslrs.1; omega))) (ws := [.slice ((lrs.getD i (⟨none, 0, 0⟩ : Slc)).q) ((lrs.getD i (⟨none, 0, 0⟩ : Slc)).n) ((lrs.getD i (⟨none, 0, 0⟩ : Slc)).k)]) 1 rfl) rfl) (rows_val hrowslrs (by have := hrowslrs.1; omega))) ?_
     refine ip 1 14 [(45, iv (k : Int))] (by kernel_rfl) ?_
     refine JI_base 0 rfl (by omega) fun a10 hq11 => ?_
     refine ix rfl (det_ixq slt168 rfl rfl hq11 rfl k rfl (by omega)) ?_
     refine ix rfl (det_ld_one (v := iv ((l.getD i []).getD k 0)) (us := [iv ((l.getD i []).getD k 0)]) ty3 rfl rfl (at_slq (c := cInt) (sz := 1) hq11 (fun _ => rfl) 0 rfl (gd 0 (by omega))) rfl) ?_
     refine ip 2 10 [(49, bv (decide (((l.getD i []).getD k 0) < (-1))))] (by kernel_rfl) ?_
     refine ior 10 0 49 59 (decide ((9999 : Int) < ((l.getD i []).getD k 0))) rfl (by kernel_rfl) (fun g12 => ?_) ?_
     ·have g12p : ¬ (((l.getD i []).getD k 0) < (-1)) := by simpa using g12
      refine ip 2 8 [(50, .slice lq l.length lk), (51, iv (i : Int))] (by kernel_rfl) ?_
      refine ix rfl (det_ixq slt163 rfl rfl hq5 rfl i rfl (by omega)) ?_
      refine ip 1 6 [(53, pa (Addr.add a4 (i * 1)))] (by kernel_rfl) ?_
      refine ix rfl (det_conv (det_ld_one (v := .slice ((lrs.getD i (⟨none, 0, 0⟩ : Slc)).q) ((lrs.getD i (⟨none, 0, 0⟩ : Slc)).n) ((lrs.getD i (⟨none, 0, 0⟩ : Slc)).k)) (us := [.slice ((lrs.getD i (⟨none, 0, 0⟩ : Slc)).q) ((lrs.getD i (⟨none, 0, 0⟩ : Slc)).n) ((lrs.getD i (⟨none, 0, 0⟩ : Slc)).k)]) ty168 rfl rfl (at_part0 (at_slq (c := cSlc) (sz := 1) hq5 (fun _ => rfl) 1 rfl (gd (⟨none, 0, 0⟩ : Slc) (by have := hrowslrs.1; omega))) (ws := [.slice ((lrs.getD i (⟨none, 0, 0⟩ : Slc)).q) ((lrs.getD i (⟨none, 0, 0⟩ : Slc)).n) ((lrs.getD i (⟨none, 0, 0⟩ : Slc)).k)]) 1 rfl) rfl) (rows_val hrowslrs (by have := hrowslrs.1; omega))) ?_
      refine ip 1 4 [(55, iv (k : Int))] (by kernel_rfl) ?_
      refine ix rfl (det_ixq slt168 rfl rfl hq11 rfl k rfl (by omega)) ?_
      refine ix rfl (det_ld_one (v := iv ((l.getD i []).getD k 0)) (us := [iv ((l.getD i []).getD k 0)]) ty3 rfl rfl (at_slq (c := cInt) (sz := 1) hq11 (fun _ => rfl) 0 rfl (gd 0 (by omega))) rfl) ?_
      refine ip 2 0 [(59, bv (decide ((9999 : Int) < ((l.getD i []).getD k 0))))] (by kernel_rfl) ?_
      exact JI_end (armI 10 49 59 g12 Foll.refl (mk [] rfl) rfl rfl rfl rfl rfl)
     refine ie ?_
     refine J_if rfl (fun h13 => ?_) (fun h13 => ?_)
     ·have h13p : (((l.getD i []).getD k 0) < (-1)) ∨ ((9999 : Int) < ((l.getD i []).getD k 0)) := by simpa using h13
      replace hR := bt hR h13
      refine sr 1 rfl ?_
      refine ip 1 0 [(2, iv 150)] (by kernel_rfl) ?_
      refine ie ?_
      refine J_ret ?_
      subst hR
      exact ends_ret rfl ⟨hr, hD⟩ (by simp [hD]) (res1 rfl (resV_tmp rfl)) () (by rfl) (mk [] rfl) Foll.nil
     ·have h13p : ¬ ((((l.getD i []).getD k 0) < (-1)) ∨ ((9999 : Int) < ((l.getD i []).getD k 0))) := by simpa using h13
      replace hR := bf hR h13
      refine J_skip ?_
      refine nx ?_
      refine J_region 3 rfl ?_
      refine ip 1 2 [(38, iv (k : Int))] (by kernel_rfl) ?_
      refine ix rfl (det_add64 rfl rfl rfl rfl (by omega)) ?_
      refine ip 1 0 [(4, iv ((k : Int) + 1))] (by kernel_rfl) ?_
      refine JI_end ?_
      exact againL1 (z1 := k) (k + 1) ⟨(by omega), hR⟩ (by (try dsimp only); omega) ⟨rfl, rfl, (by first | rfl | (simp only [List.length_set]; rfl) | (simp; done) | (simp; omega)), trivial⟩ (mk [] rfl) Foll.refl
    ·have h9p : ¬ ((k : Int) < ((l.getD i []).length : Int)) := by simpa using h9
     rw [dropn h9p] at hR; replace hR := (ref05_Check_l3.eq_1 ..).symm.trans hR
     refine J_exit ?_
     refine nx ?_
     refine J_region 3 rfl ?_
     refine ip 1 2 [(12, iv (i : Int))] (by kernel_rfl) ?_
     refine ix rfl (det_add64 rfl rfl rfl rfl (by omega)) ?_
     refine ip 1 0 [(3, iv ((i : Int) + 1))] (by kernel_rfl) ?_
     refine JI_end ?_
     exact againL1 (z1 := i) (i + 1) ⟨(by omega), hR⟩ (by (try dsimp only); omega) ⟨rfl, (by first | rfl | (simp only [List.length_set]; rfl) | (simp; done) | (simp; omega)), trivial⟩ (mk [] rfl) (Foll.pick [1, 2] rfl)
  ·have h3p : ¬ ((i : Int) < (l.length : Int)) := by simpa using h3
   rw [dropn h3p] at hR; replace hR := (ref05_Check_l2.eq_1 ..).symm.trans hR
   refine J_exit ?_
   refine nx ?_
   refine J_seq ?_
   refine sr 20 rfl ?_
   refine ip 4 16 [(63, bv (decide ((l.length : Int) = 1)))] (by kernel_rfl) ?_
   refine iand 7 9 63 70 (decide (((l.getD 0 []).length : Int) = 1)) rfl (by kernel_rfl) (fun g14 => ?_) ?_
   ·have g14p : (l.length : Int) = 1 := by simpa using g14
    refine ip 1 6 [(64, .slice lq l.length lk)] (by kernel_rfl) ?_
    refine JI_base 0 rfl (by omega) fun a15 hq16 => ?_
    refine JI_fact1 (rows_atD (k := 0) (d := (⟨none, 0, 0⟩ : Slc)) hrowslrs 1 rfl (by have := hrowslrs.1; omega)) ?_
    have := rows_cap hrowslrs (k := 0) (d := (⟨none, 0, 0⟩ : Slc)) (by have := hrowslrs.1; omega)
    refine ix rfl (det_ixq slt163 rfl rfl hq16 rfl 0 rfl (by omega)) ?_
    refine ip 1 4 [(66, pa (Addr.add a15 (0 * 1)))] (by kernel_rfl) ?_
    refine ix rfl (det_conv (det_ld_one (v := .slice ((lrs.getD 0 (⟨none, 0, 0⟩ : Slc)).q) ((lrs.getD 0 (⟨none, 0, 0⟩ : Slc)).n) ((lrs.getD 0 (⟨none, 0, 0⟩ : Slc)).k)) (us := [.slice ((lrs.getD 0 (⟨none, 0, 0⟩ : Slc)).q) ((lrs.getD 0 (⟨none, 0, 0⟩ : Slc)).n) ((lrs.getD 0 (⟨none, 0, 0⟩ : Slc)).k)]) ty168 rfl rfl (at_part0 (at_slq (c := cSlc) (sz := 1) hq16 (fun _ => rfl) 1 rfl (gd (⟨none, 0, 0⟩ : Slc) (by have := hrowslrs.1; omega))) (ws := [.slice ((lrs.getD 0 (⟨none, 0, 0⟩ : Slc)).q) ((lrs.getD 0 (⟨none, 0, 0⟩ : Slc)).n) ((lrs.getD 0 (⟨none, 0, 0⟩ : Slc)).k)]) 1 rfl) rfl) (rows_val hrowslrs (by have := hrowslrs.1; omega))) ?_
    refine ip 3 0 [(70, bv (decide (((l.getD 0 []).length : Int) = 1)))] (by kernel_rfl) ?_
    exact JI_end (armI 6 63 70 g14 (Foll.pick [1, 2] rfl) (mk [] rfl) rfl rfl rfl rfl rfl)
   refine ip 1 8 [(71, bv ((decide ((l.length : Int) = 1)) && (decide (((l.getD 0 []).length : Int) = 1))))] (by kernel_rfl) ?_
   refine iand 8 0 71 79 (decide (((l.getD 0 []).getD 0 0) = (-1))) rfl (by kernel_rfl) (fun g17 => ?_) ?_
   ·have g17p : ((l.length : Int) = 1) ∧ (((l.getD 0 []).length : Int) = 1) := by simpa using g17
    refine ip 1 7 [(72, .slice lq l.length lk)] (by kernel_rfl) ?_
    refine JI_base 0 rfl (by omega) fun a18 hq19 => ?_
    refine JI_fact1 (rows_atD (k := 0) (d := (⟨none, 0, 0⟩ : Slc)) hrowslrs 1 rfl (by have := hrowslrs.1; omega)) ?_
    have := rows_cap hrowslrs (k := 0) (d := (⟨none, 0, 0⟩ : Slc)) (by have := hrowslrs.1; omega)
    refine ix rfl (det_ixq slt163 rfl rfl hq19 rfl 0 rfl (by omega)) ?_
    refine ip 1 5 [(74, pa (Addr.add a18 (0 * 1)))] (by kernel_rfl) ?_
    refine ix rfl (det_conv (det_ld_one (v := .slice ((lrs.getD 0 (⟨none, 0, 0⟩ : Slc)).q) ((lrs.getD 0 (⟨none, 0, 0⟩ : Slc)).n) ((lrs.getD 0 (⟨none, 0, 0⟩ : Slc)).k)) (us := [.slice ((lrs.getD 0 (⟨none, 0, 0⟩ : Slc)).q) ((lrs.getD 0 (⟨none, 0, 0⟩ : Slc)).n) ((lrs.getD 0 (⟨none, 0, 0⟩ : Slc)).k)]) ty168 rfl rfl (at_part0 (at_slq (c := cSlc) (sz := 1) hq19 (fun _ => rfl) 1 rfl (gd (⟨none, 0, 0⟩ : Slc) (by have := hrowslrs.1; omega))) (ws := [.slice ((lrs.getD 0 (⟨none, 0, 0⟩ : Slc)).q) ((lrs.getD 0 (⟨none, 0, 0⟩ : Slc)).n) ((lrs.getD 0 (⟨none, 0, 0⟩ : Slc)).k)]) 1 rfl) rfl) (rows_val hrowslrs (by have := hrowslrs.1; omega))) ?_
    refine JI_base 0 rfl (by omega) fun a20 hq21 => ?_
    refine ix rfl (det_ixq slt168 rfl rfl hq21 rfl 0 rfl (by omega)) ?_
    refine ix rfl (det_ld_one (v := iv ((l.getD 0 []).getD 0 0)) (us := [iv ((l.getD 0 []).getD 0 0)]) ty3 rfl rfl (at_slq (c := cInt) (sz := 1) hq21 (fun _ => rfl) 0 rfl (gd 0 (by omega))) rfl) ?_
    refine ip 2 0 [(79, bv (decide (((l.getD 0 []).getD 0 0) = (-1))))] (by kernel_rfl) ?_
    exact JI_end (armI 8 71 79 g17 (Foll.pick [1, 2] rfl) (mk [] rfl) rfl rfl rfl rfl rfl)
   refine ie ?_
   refine J_if rfl (fun h22 => ?_) (fun h22 => ?_)
   ·have h22p : (((l.length : Int) = 1) ∧ (((l.getD 0 []).length : Int) = 1)) ∧ (((l.getD 0 []).getD 0 0) = (-1)) := by simpa using h22
    replace hR := bt hR h22
    refine sr 1 rfl ?_
    refine ip 1 0 [(2, iv 150)] (by kernel_rfl) ?_
    refine ie ?_
    refine J_ret ?_
    subst hR
    exact ends_ret rfl ⟨hr, hD⟩ (by simp [hD]) (res1 rfl (resV_tmp rfl)) () (by rfl) (mk [] rfl) Foll.nil
   ·have h22p : ¬ ((((l.length : Int) = 1) ∧ (((l.getD 0 []).length : Int) = 1)) ∧ (((l.getD 0 []).getD 0 0) = (-1))) := by simpa using h22
    replace hR := bf hR h22
    refine J_skip ?_
    refine nx ?_
    refine sr 1 rfl ?_
    refine ip 1 0 [(2, iv 0)] (by kernel_rfl) ?_
    refine ie ?_
    refine J_ret ?_
    subst hR
    exact ends_ret rfl ⟨hr, hD⟩ (by simp [hD]) (res1 rfl (resV_tmp rfl)) () (by rfl) (mk [] rfl) Foll.nil

def ref05_Digits : Nat → Int → List UInt8
 | 0, _ => []
 | fu + 1, n => (bif (decide (n < 10)) then ([(by8 (IntKind.u8.wrap (IntKind.i64.wrap ((48 : Int) + n))))] : List UInt8) else ((ref05_Digits fu (n / 10)) ++ (ref05_Digits fu (n % 10))))

theorem ref05_Digits_len : ∀ (fu : Nat) (n : Int), (ref05_Digits fu n).length ≤ n.toNat + 1
 | 0, n => by simp [ref05_Digits]
 | fu + 1, n => by
  simp only [ref05_Digits]
  cases h : decide (n < 10) with
  | true => simp
  | false =>
   have hn : ¬ n < 10 := of_decide_eq_false h
   have h1 := ref05_Digits_len fu (n / 10)
   have h2 := ref05_Digits_len fu (n % 10)
   simp only [cond_false, List.length_append]
   omega

theorem ref05_Digits_c : ∀ (fu : Nat) (n : Int) (hn : n ≤ 9223372036854775807) (hmu : n.toNat < fu) (R : List UInt8) (hR : ref05_Digits fu n = R), ConV Tryz.prog 153 [iv n] [] (sv R) := by
 intro fu
 induction fu with
 | zero => intros; omega
 | succ fu ih =>
  intro n hn hmu R hR
  refine con_of_J (n := 17) Tryz.func153 rfl (by kernel_rfl) rfl rfl [(0, iv n)] ⟨rfl, trivial⟩ fun X hX hr hD => ?_
  replace hR := (ref05_Digits.eq_2 ..).symm.trans hR
  refine sr 1 rfl ?_
  refine ip 1 0 [] (by kernel_rfl) ?_
  refine ie ?_
  refine J_seq ?_
  refine sr 2 rfl ?_
  refine ip 2 0 [(4, bv (decide (n < 10)))] (by kernel_rfl) ?_
  refine ie ?_
  refine J_if rfl (fun h1 => ?_) (fun h1 => ?_)
  ·have h1p : n < 10 := by simpa using h1
   replace hR := bt hR h1
   refine sr 6 rfl ?_
   refine ip 1 5 [(5, iv n)] (by kernel_rfl) ?_
   refine ix rfl (DetR.pure rfl) ?_
   refine ix rfl (det_conv (v := .int .u8 (IntKind.u8.wrap (IntKind.i64.wrap ((48 : Int) + n)))) (DetR.pure rfl) (u8_wrap)) ?_
   refine it rfl (tri_buildSl (c := cU8) (xs := ([(by8 (IntKind.u8.wrap (IntKind.i64.wrap ((48 : Int) + n))))] : List UInt8)) slt30 rfl rfl rfl (by kernel_rfl)) fun b2 => ?_
   have : ([(by8 (IntKind.u8.wrap (IntKind.i64.wrap ((48 : Int) + n))))] : List UInt8).length = 1 := rfl
   refine ix rfl (det_b2s Tryz.underlying9 Tryz.underlying30 rfl rfl (at_of 0 rfl) rfl (by kernel_rfl)) ?_
   have : ([(by8 (IntKind.u8.wrap (IntKind.i64.wrap ((48 : Int) + n))))] : List UInt8).length = 1 := rfl
   refine ip 1 0 [(2, sv ([(by8 (IntKind.u8.wrap (IntKind.i64.wrap ((48 : Int) + n))))] : List UInt8))] (by kernel_rfl) ?_
   refine ie ?_
   refine J_ret ?_
   subst hR
   exact ends_ret rfl ⟨hr, hD⟩ (by simp [hD]) (res1 rfl (resV_tmp rfl)) () (by rfl) (mk [] rfl) Foll.nil
  ·have h1p : ¬ (n < 10) := by simpa using h1
   replace hR := bf hR h1
   refine J_skip ?_
   refine nx ?_
   refine sr 8 rfl ?_
   refine ip 1 7 [(10, iv n)] (by kernel_rfl) ?_
   refine ix rfl (det_quon (c := (n / 10)) rfl rfl rfl (by decide) (by first | exact ⟨⟨by omega, by show _ ≤ (9223372036854775807 : Int); omega⟩, rfl⟩ | exact ⟨by omega, rfl⟩)) ?_
   refine ixc rfl (det_call (ih (n / 10) (by first | omega | (simp <;> omega)) (by omega) _ rfl) rfl rfl rfl rfl rfl Foll.nil) ?_
   have := ref05_Digits_len fu (n / 10)
   refine ip 1 4 [(13, iv n)] (by kernel_rfl) ?_
   refine ix rfl (det_remn (c := (n % 10)) rfl rfl rfl (by decide) (by first | exact ⟨⟨by omega, by show _ ≤ (9223372036854775807 : Int); omega⟩, rfl⟩ | exact ⟨by omega, rfl⟩)) ?_
   refine ixc rfl (det_call (ih (n % 10) (by first | omega | (simp <;> omega)) (by omega) _ rfl) rfl rfl rfl rfl rfl Foll.nil) ?_
   have := ref05_Digits_len fu (n % 10)
   refine ix rfl (det_stadd rfl rfl rfl (by first | omega | (simp <;> omega))) ?_
   have : ((ref05_Digits fu (n / 10)) ++ (ref05_Digits fu (n % 10))).length = (ref05_Digits fu (n / 10)).length + (ref05_Digits fu (n % 10)).length := List.length_append
   refine ip 1 0 [(2, sv ((ref05_Digits fu (n / 10)) ++ (ref05_Digits fu (n % 10))))] (by kernel_rfl) ?_
   refine ie ?_
   refine J_ret ?_
   subst hR
   exact ends_ret rfl ⟨hr, hD⟩ (by simp [hD]) (res1 rfl (resV_tmp rfl)) () (by rfl) (mk [] rfl) Foll.nil

def ref05_Print_j11 (l : List (List Int)) (i : Nat) (k : Nat) (ag_ref05_Print_l3 : List UInt8 → Nat → (List UInt8 × Int)) (s3 : List UInt8) : List UInt8 × Int :=
 (bif (decide ((0 : Int) ≤ ((l.getD i []).getD k 0))) then ag_ref05_Print_l3 (s3 ++ (ref05_Digits (((l.getD i []).getD k 0).toNat + 1) ((l.getD i []).getD k 0))) (k + 1) else ag_ref05_Print_l3 s3 (k + 1))
def ref05_Print_l3 (l : List (List Int)) (i : Nat) (ag_ref05_Print_l2 : List UInt8 → Nat → (List UInt8 × Int)) : Nat → List UInt8 → Nat → (List UInt8 × Int)
 | 0, _, _ => ([], 0)
 | fu1 + 1, s2, k => (bif (decide ((k : Int) < ((l.getD i []).length : Int))) then (bif (decide ((0 : Int) < (k : Int))) then ref05_Print_j11 l i k (ref05_Print_l3 l i ag_ref05_Print_l2 fu1) (s2 ++ ([58] : List UInt8)) else ref05_Print_j11 l i k (ref05_Print_l3 l i ag_ref05_Print_l2 fu1) s2) else ag_ref05_Print_l2 s2 (i + 1))
def ref05_Print_j8 (l : List (List Int)) (i : Nat) (ag_ref05_Print_l2 : List UInt8 → Nat → (List UInt8 × Int)) (s1 : List UInt8) : List UInt8 × Int :=
 ref05_Print_l3 l i ag_ref05_Print_l2 (((l.getD i []).length - 0) + 1) s1 0
def ref05_Print_l2 (l : List (List Int)) : List (List Int) → List UInt8 → Nat → (List UInt8 × Int)
 | [], s, i => (s, 0)
 | hd_l2 :: tl_l2, s, i => (bif (decide ((0 : Int) < (i : Int))) then ref05_Print_j8 l i (ref05_Print_l2 l tl_l2) (s ++ ([59] : List UInt8)) else ref05_Print_j8 l i (ref05_Print_l2 l tl_l2) s)
def ref05_Print (l : List (List Int)) : List UInt8 × Int :=
 (bif (!decide ((ref05_Check l) = 0)) then (([] : List UInt8), 150) else ref05_Print_l2 l l ([] : List UInt8) 0)

theorem ref05_Print_l3_len (l : List (List Int)) (h : parOk l) (i : Nat) (ag : List UInt8 → Nat → List UInt8 × Int) (B : Nat) (hag : ∀ s t, (ag s t).1.length ≤ s.length + B) : ∀ (fu : Nat) (s : List UInt8) (k : Nat), k ≤ 6 → (ref05_Print_l3 l i ag fu s k).1.length ≤ s.length + 10002 * (6 - k) + B
 | 0, s, k, hk => by simp [ref05_Print_l3]
 | fu + 1, s, k, hk => by
  have ih := ref05_Print_l3_len l h i ag B hag fu
  have hb := h.at i k
  have hd := ref05_Digits_len (((l.getD i []).getD k 0).toNat + 1) ((l.getD i []).getD k 0)
  have h6 : (l.getD i []).length ≤ 6 := by
   by_cases hi : i < l.length
   ·have hm : l.getD i [] ∈ l := by rw [gdE hi]; exact List.getElem_mem hi
    exact (h.2 _ hm).2.1
   ·rw [gdN hi]; simp
  rw [ref05_Print_l3]
  unfold ref05_Print_j11
  by_cases hc : (k : Int) < ((l.getD i []).length : Int)
  ·rw [decide_eq_true hc, cond_true]
   have hk6 : k < 6 := by omega
   have e : 10002 * (6 - k) = 10002 * (6 - (k + 1)) + 10002 := by omega
   simp only [Bool.cond_eq_ite]
   repeat' split
   all_goals refine Nat.le_trans (ih _ _ (by omega)) ?_
   all_goals try simp only [List.length_append, List.length_cons, List.length_nil]
   all_goals omega
  ·rw [decide_eq_false hc, cond_false]
   exact Nat.le_trans (hag _ _) (by omega)
theorem ref05_Print_l2_len (l : List (List Int)) (h : parOk l) : ∀ (x : List (List Int)) (s : List UInt8) (i : Nat), (ref05_Print_l2 l x s i).1.length ≤ s.length + 60100 * x.length
 | [], s, i => by simp [ref05_Print_l2]
 | r :: x, s, i => by
  have h3 := fun s' => ref05_Print_l3_len l h i (ref05_Print_l2 l x) (60100 * x.length) (fun s t => ref05_Print_l2_len l h x s t) (((l.getD i []).length - 0) + 1) s' 0 (by omega)
  simp only [ref05_Print_l2, ref05_Print_j8, List.length_cons, Bool.cond_eq_ite]
  split
  all_goals refine Nat.le_trans (h3 _) ?_
  all_goals try simp only [List.length_append, List.length_cons, List.length_nil]
  all_goals omega
theorem ref05_Print_len (l : List (List Int)) : (ref05_Print l).1.length ≤ 961600 := by
 unfold ref05_Print
 by_cases h : ref05_Check l = 0
 ·have hp := ref05_Check_ok h
  have := ref05_Print_l2_len l hp l [] 0
  have h1 := hp.1
  rw [h]; simp only [decide_true, Bool.not_true, cond_false]
  rw [List.length_nil] at this; omega
 ·simp [h]

theorem ref05_Print_c (l : List (List Int)) (lq : Option Addr) (lrs : List Slc) (lk : Nat) (hrowslrs : RowsOk lrs l) (hll : l.length ≤ 9223372036854775807) (hcl : l.length ≤ lk) (R : List UInt8 × Int) (hR : ref05_Print l = R) : ConV Tryz.prog 117 [.slice lq l.length lk] [sl cSlc lq lrs, rowsF cInt lrs l] (.tuple #[sv R.1, iv R.2]) := by
 refine con_of_J (n := 55) Tryz.func117 rfl (by kernel_rfl) rfl rfl [(0, .slice lq l.length lk)] ⟨rfl, trivial⟩ fun X hX hr hD => ?_
 replace hR := (ref05_Print.eq_1 ..).symm.trans hR
 have := hrowslrs.1
 refine sr 2 rfl ?_
 refine ip 2 0 [] (by kernel_rfl) ?_
 refine ie ?_
 refine J_seq ?_
 refine sr 3 rfl ?_
 refine ip 1 2 [(7, .slice lq l.length lk)] (by kernel_rfl) ?_
 refine ixc rfl (det_call (ref05_Check_c l lq lrs lk hrowslrs (by first | omega | (simp <;> omega) | (dsimp only; omega) | decide) (by first | omega | (simp <;> omega) | (dsimp only; omega) | decide) _ rfl) rfl rfl rfl rfl rfl Foll.refl) ?_
 refine ip 1 0 [(9, bv (!decide ((ref05_Check l) = 0)))] (by kernel_rfl) ?_
 refine ie ?_
 refine J_if rfl (fun h1 => ?_) (fun h1 => ?_)
 ·have h1p : ¬ (ref05_Check l) = 0 := by simpa using h1
  replace hR := bt hR h1
  refine sr 2 rfl ?_
  refine ip 2 0 [(2, sv ([] : List UInt8)), (3, iv 150)] (by kernel_rfl) ?_
  refine ie ?_
  refine J_ret ?_
  subst hR
  exact ends_ret rfl ⟨hr, hD⟩ (by simp [hD]) (res2 rfl (resV_tmp rfl) (resV_tmp rfl)) () (by rfl) (mk [] rfl) Foll.nil
 ·have h1p : ¬ (¬ (ref05_Check l) = 0) := by simpa using h1
  replace hR := bf hR h1
  have hpo := ref05_Check_ok (Decidable.of_not_not (by assumption))
  have hpl := hpo.1
  refine J_skip ?_
  refine nx ?_
  refine sr 1 rfl ?_
  refine ip 1 0 [(4, sv ([] : List UInt8))] (by kernel_rfl) ?_
  refine ie ?_
  refine J_seq ?_
  refine sr 1 rfl ?_
  refine ip 1 0 [(5, iv 0)] (by kernel_rfl) ?_
  refine ie ?_
  refine J_block ?_
  refine JL2 (fun (s : List UInt8) (i : Nat) => i ≤ l.length ∧ ref05_Print_l2 l (l.drop i) s i = R ∧ s.length ≤ 60100 * i) (fun (s : List UInt8) (i : Nat) => [(0, .slice lq l.length lk), (4, sv s), (5, iv (i : Int))]) (fun (s : List UInt8) (i : Nat) => []) (fun (s : List UInt8) (i : Nat) => [sl cSlc lq lrs, rowsF cInt lrs l]) (fun (s : List UInt8) (i : Nat) => l.length - i) ([] : List UInt8) 0 ⟨(by omega), hR, (by simp)⟩ ⟨rfl, (by first | rfl | (simp only [List.length_set]; rfl) | (simp; done) | (simp; omega)), (by first | rfl | (simp only [List.length_set]; rfl) | (simp; done) | (simp; omega)), trivial⟩ (mk [] rfl) Foll.refl ?_
  rintro s i ⟨hm2, hR, hs⟩
  have h6 := (hpo.row i)
  refine J_seq ?_
  refine sr 4 rfl ?_
  refine ip 4 0 [(13, bv (decide ((i : Int) < (l.length : Int))))] (by kernel_rfl) ?_
  refine ie ?_
  refine J_if rfl (fun h3 => ?_) (fun h3 => ?_)
  ·have h3p : (i : Int) < (l.length : Int) := by simpa using h3
   rw [dropc [] (show i < l.length by omega)] at hR; replace hR := (ref05_Print_l2.eq_2 ..).symm.trans hR
   refine J_skip ?_
   refine nx ?_
   refine J_seq ?_
   refine J_block ?_
   refine JS1 (fun (s1 : List UInt8) => ref05_Print_j8 l i (ref05_Print_l2 l (l.drop (i + 1))) s1 = R ∧ s1.length ≤ 60100 * i + 1) (fun (s1 : List UInt8) => [(0, .slice lq l.length lk), (4, sv s1), (5, iv (i : Int))]) (fun (s1 : List UInt8) => []) (fun (s1 : List UInt8) => [sl cSlc lq lrs, rowsF cInt lrs l]) ?_ ?_
   ·refine sr 2 rfl ?_
    refine ip 2 0 [(17, bv (decide ((0 : Int) < (i : Int))))] (by kernel_rfl) ?_
    refine ie ?_
    refine J_if rfl (fun h4 => ?_) (fun h4 => ?_)
    ·have h4p : (0 : Int) < (i : Int) := by simpa using h4
     replace hR := bt hR h4
     refine J_region 3 rfl ?_
     refine ip 1 2 [(18, sv s)] (by kernel_rfl) ?_
     refine ix rfl (det_stadd rfl rfl rfl (by first | omega | (simp <;> omega))) ?_
     refine ip 1 0 [(4, sv (s ++ ([59] : List UInt8)))] (by kernel_rfl) ?_
     refine JI_end ?_
     exact meet1 (s ++ ([59] : List UInt8)) ⟨hR, (by first | omega | (simp <;> omega))⟩ ⟨rfl, (by first | rfl | (simp only [List.length_set]; rfl) | (simp; done) | (simp; omega)), rfl, trivial⟩ (mk [] rfl) Foll.refl
    ·have h4p : ¬ ((0 : Int) < (i : Int)) := by simpa using h4
     replace hR := bf hR h4
     refine J_skip ?_
     exact meet1 s ⟨hR, (by first | omega | (simp <;> omega))⟩ ⟨rfl, (by first | rfl | (simp only [List.length_set]; rfl) | (simp; done) | (simp; omega)), rfl, trivial⟩ (mk [] rfl) Foll.refl
   ·intro s1
    rintro ⟨hR, hj8⟩
    replace hR := (ref05_Print_j8.eq_1 ..).symm.trans hR
    refine sr 1 rfl ?_
    refine ip 1 0 [(6, iv 0)] (by kernel_rfl) ?_
    refine ie ?_
    refine J_block ?_
    refine JL3 (fun (fu : Nat) (s2 : List UInt8) (k : Nat) => ((l.getD i []).length - k) < fu ∧ ref05_Print_l3 l i (ref05_Print_l2 l (l.drop (i + 1))) fu s2 k = R ∧ s2.length ≤ 60100 * i + 1 + 10003 * k ∧ k ≤ (l.getD i []).length) (fun (fu : Nat) (s2 : List UInt8) (k : Nat) => [(0, .slice lq l.length lk), (4, sv s2), (5, iv (i : Int)), (6, iv (k : Int))]) (fun (fu : Nat) (s2 : List UInt8) (k : Nat) => []) (fun (fu : Nat) (s2 : List UInt8) (k : Nat) => [sl cSlc lq lrs, rowsF cInt lrs l]) (fun (fu : Nat) (s2 : List UInt8) (k : Nat) => fu) (((l.getD i []).length - 0) + 1) s1 0 ⟨(Nat.lt_succ_self _), hR, (by first | omega | (simp <;> omega)), (by omega)⟩ ⟨rfl, (by first | rfl | (simp only [List.length_set]; rfl) | (simp; done) | (simp; omega)), rfl, (by first | rfl | (simp only [List.length_set]; rfl) | (simp; done) | (simp; omega)), trivial⟩ (mk [] rfl) Foll.refl ?_
    rintro fu s2 k ⟨hm5, hR, hs2, hk6⟩
    obtain ⟨fu1, rfl⟩ : ∃ m, fu = m + 1 := ⟨fu - 1, by omega⟩
    replace hR := (ref05_Print_l3.eq_2 ..).symm.trans hR
    have hq := hpo.at i k
    refine J_seq ?_
    refine sr 8 rfl ?_
    refine ip 3 5 [(20, iv (k : Int)), (21, .slice lq l.length lk), (22, iv (i : Int))] (by kernel_rfl) ?_
    refine JI_base 0 rfl (by omega) fun a6 hq7 => ?_
    refine JI_fact1 (rows_atD (k := i) (d := (⟨none, 0, 0⟩ : Slc)) hrowslrs 1 rfl (by have := hrowslrs.1; omega)) ?_
    have := rows_cap hrowslrs (k := i) (d := (⟨none, 0, 0⟩ : Slc)) (by have := hrowslrs.1; omega)
    refine ix rfl (det_ixq slt163 rfl rfl hq7 rfl i rfl (by omega)) ?_
    refine ip 1 3 [(24, pa (Addr.add a6 (i * 1)))] (by kernel_rfl) ?_
    refine ix rfl (det_conv (det_ld_one (v := .slice ((lrs.getD i (⟨none, 0, 0⟩ : Slc)).q) ((lrs.getD i (⟨none, 0, 0⟩ : Slc)).n) ((lrs.getD i (⟨none, 0, 0⟩ : Slc)).k)) (us := [.slice ((lrs.getD i (⟨none, 0, 0⟩ : Slc)).q) ((lrs.getD i (⟨none, 0, 0⟩ : Slc)).n) ((lrs.getD i (⟨none, 0, 0⟩ : Slc)).k)]) ty168 rfl rfl (at_part0 (at_slq (c := cSlc) (sz := 1) hq7 (fun _ => rfl) 1 rfl (gd (⟨none, 0, 0⟩ : Slc) (by have := hrowslrs.1; omega))) (ws := [.slice ((lrs.getD i (⟨none, 0, 0⟩ : Slc)).q) ((lrs.getD i (⟨none, 0, 0⟩ : Slc)).n) ((lrs.getD i (⟨none, 0, 0⟩ : Slc)).k)]) 1 rfl) rfl) (rows_val hrowslrs (by have := hrowslrs.1; omega))) ?_
    refine ip 2 0 [(27, bv (decide ((k : Int) < ((l.getD i []).length : Int))))] (by kernel_rfl) ?_
    refine ie ?_
    refine J_if rfl (fun h8 => ?_) (fun h8 => ?_)
    ·have h8p : (k : Int) < ((l.getD i []).length : Int) := by simpa using h8
     replace hR := bt hR h8
     refine J_skip ?_
     refine nx ?_
     refine J_seq ?_
     refine J_block ?_
     refine JS1 (fun (s3 : List UInt8) => ref05_Print_j11 l i k (ref05_Print_l3 l i (ref05_Print_l2 l (l.drop (i + 1))) fu1) s3 = R ∧ s3.length ≤ 60100 * i + 2 + 10003 * k) (fun (s3 : List UInt8) => [(0, .slice lq l.length lk), (4, sv s3), (5, iv (i : Int)), (6, iv (k : Int))]) (fun (s3 : List UInt8) => []) (fun (s3 : List UInt8) => [sl cInt ((lrs.getD i (⟨none, 0, 0⟩ : Slc)).q) (l.getD i []), sl cSlc lq lrs, rowsF cInt lrs l]) ?_ ?_
     ·refine sr 2 rfl ?_
      refine ip 2 0 [(31, bv (decide ((0 : Int) < (k : Int))))] (by kernel_rfl) ?_
      refine ie ?_
      refine J_if rfl (fun h9 => ?_) (fun h9 => ?_)
      ·have h9p : (0 : Int) < (k : Int) := by simpa using h9
       replace hR := bt hR h9
       refine J_region 3 rfl ?_
       refine ip 1 2 [(32, sv s2)] (by kernel_rfl) ?_
       refine ix rfl (det_stadd rfl rfl rfl (by first | omega | (simp <;> omega))) ?_
       refine ip 1 0 [(4, sv (s2 ++ ([58] : List UInt8)))] (by kernel_rfl) ?_
       refine JI_end ?_
       exact meet1 (s2 ++ ([58] : List UInt8)) ⟨hR, (by first | omega | (simp <;> omega))⟩ ⟨rfl, (by first | rfl | (simp only [List.length_set]; rfl) | (simp; done) | (simp; omega)), rfl, rfl, trivial⟩ (mk [] rfl) Foll.refl
      ·have h9p : ¬ ((0 : Int) < (k : Int)) := by simpa using h9
       replace hR := bf hR h9
       refine J_skip ?_
       exact meet1 s2 ⟨hR, (by first | omega | (simp <;> omega))⟩ ⟨rfl, (by first | rfl | (simp only [List.length_set]; rfl) | (simp; done) | (simp; omega)), rfl, rfl, trivial⟩ (mk [] rfl) Foll.refl
     ·intro s3
      rintro ⟨hR, hj11⟩
      replace hR := (ref05_Print_j11.eq_1 ..).symm.trans hR
      refine sr 9 rfl ?_
      refine ip 2 7 [(34, .slice lq l.length lk), (35, iv (i : Int))] (by kernel_rfl) ?_
      refine ix rfl (det_ixq slt163 rfl rfl hq7 rfl i rfl (by omega)) ?_
      refine ip 1 5 [(37, pa (Addr.add a6 (i * 1)))] (by kernel_rfl) ?_
      refine ix rfl (det_conv (det_ld_one (v := .slice ((lrs.getD i (⟨none, 0, 0⟩ : Slc)).q) ((lrs.getD i (⟨none, 0, 0⟩ : Slc)).n) ((lrs.getD i (⟨none, 0, 0⟩ : Slc)).k)) (us := [.slice ((lrs.getD i (⟨none, 0, 0⟩ : Slc)).q) ((lrs.getD i (⟨none, 0, 0⟩ : Slc)).n) ((lrs.getD i (⟨none, 0, 0⟩ : Slc)).k)]) ty168 rfl rfl (at_part0 (at_slq (c := cSlc) (sz := 1) hq7 (fun _ => rfl) 1 rfl (gd (⟨none, 0, 0⟩ : Slc) (by have := hrowslrs.1; omega))) (ws := [.slice ((lrs.getD i (⟨none, 0, 0⟩ : Slc)).q) ((lrs.getD i (⟨none, 0, 0⟩ : Slc)).n) ((lrs.getD i (⟨none, 0, 0⟩ : Slc)).k)]) 1 rfl) rfl) (rows_val hrowslrs (by have := hrowslrs.1; omega))) ?_
      refine ip 1 3 [(39, iv (k : Int))] (by kernel_rfl) ?_
      refine JI_base 0 rfl (by omega) fun a10 hq11 => ?_
      refine ix rfl (det_ixq slt168 rfl rfl hq11 rfl k rfl (by omega)) ?_
      refine ix rfl (det_ld_one (v := iv ((l.getD i []).getD k 0)) (us := [iv ((l.getD i []).getD k 0)]) ty3 rfl rfl (at_slq (c := cInt) (sz := 1) hq11 (fun _ => rfl) 0 rfl (gd 0 (by omega))) rfl) ?_
      refine ip 1 0 [(42, bv (decide ((0 : Int) ≤ ((l.getD i []).getD k 0))))] (by kernel_rfl) ?_
      refine ie ?_
      refine J_if rfl (fun h12 => ?_) (fun h12 => ?_)
      ·have h12p : (0 : Int) ≤ ((l.getD i []).getD k 0) := by simpa using h12
       replace hR := bt hR h12
       refine J_region 12 rfl ?_
       refine ip 3 9 [(43, sv s3), (44, .slice lq l.length lk), (45, iv (i : Int))] (by kernel_rfl) ?_
       refine ix rfl (det_ixq slt163 rfl rfl hq7 rfl i rfl (by omega)) ?_
       refine ip 1 7 [(47, pa (Addr.add a6 (i * 1)))] (by kernel_rfl) ?_
       refine ix rfl (det_conv (det_ld_one (v := .slice ((lrs.getD i (⟨none, 0, 0⟩ : Slc)).q) ((lrs.getD i (⟨none, 0, 0⟩ : Slc)).n) ((lrs.getD i (⟨none, 0, 0⟩ : Slc)).k)) (us := [.slice ((lrs.getD i (⟨none, 0, 0⟩ : Slc)).q) ((lrs.getD i (⟨none, 0, 0⟩ : Slc)).n) ((lrs.getD i (⟨none, 0, 0⟩ : Slc)).k)]) ty168 rfl rfl (at_part0 (at_slq (c := cSlc) (sz := 1) hq7 (fun _ => rfl) 1 rfl (gd (⟨none, 0, 0⟩ : Slc) (by have := hrowslrs.1; omega))) (ws := [.slice ((lrs.getD i (⟨none, 0, 0⟩ : Slc)).q) ((lrs.getD i (⟨none, 0, 0⟩ : Slc)).n) ((lrs.getD i (⟨none, 0, 0⟩ : Slc)).k)]) 1 rfl) rfl) (rows_val hrowslrs (by have := hrowslrs.1; omega))) ?_
       refine ip 1 5 [(49, iv (k : Int))] (by kernel_rfl) ?_
       refine ix rfl (det_ixq slt168 rfl rfl hq11 rfl k rfl (by omega)) ?_
       refine ix rfl (det_ld_one (v := iv ((l.getD i []).getD k 0)) (us := [iv ((l.getD i []).getD k 0)]) ty3 rfl rfl (at_slq (c := cInt) (sz := 1) hq11 (fun _ => rfl) 0 rfl (gd 0 (by omega))) rfl) ?_
       refine ixc rfl (det_call (ref05_Digits_c (((l.getD i []).getD k 0).toNat + 1) ((l.getD i []).getD k 0) (by first | omega | (simp <;> omega)) (Nat.lt_succ_self _) _ rfl) rfl rfl rfl rfl rfl Foll.nil) ?_
       have := ref05_Digits_len (((l.getD i []).getD k 0).toNat + 1) ((l.getD i []).getD k 0)
       refine ix rfl (det_stadd rfl rfl rfl (by first | omega | (simp <;> omega))) ?_
       have : (s3 ++ (ref05_Digits (((l.getD i []).getD k 0).toNat + 1) ((l.getD i []).getD k 0))).length = s3.length + (ref05_Digits (((l.getD i []).getD k 0).toNat + 1) ((l.getD i []).getD k 0)).length := List.length_append
       refine ip 1 0 [(4, sv (s3 ++ (ref05_Digits (((l.getD i []).getD k 0).toNat + 1) ((l.getD i []).getD k 0))))] (by kernel_rfl) ?_
       refine JI_end ?_
       refine nx ?_
       refine J_region 3 rfl ?_
       refine ip 1 2 [(28, iv (k : Int))] (by kernel_rfl) ?_
       refine ix rfl (det_add64 rfl rfl rfl rfl (by omega)) ?_
       refine ip 1 0 [(6, iv ((k : Int) + 1))] (by kernel_rfl) ?_
       refine JI_end ?_
       exact againL3 (z1 := (fu1 + 1)) (z2 := s2) (z3 := k) fu1 (s3 ++ (ref05_Digits (((l.getD i []).getD k 0).toNat + 1) ((l.getD i []).getD k 0))) (k + 1) ⟨(by omega), hR, (by first | omega | (simp <;> omega)), (by omega)⟩ (Nat.lt_succ_self _) ⟨rfl, (by first | rfl | (simp only [List.length_set]; rfl) | (simp; done) | (simp; omega)), rfl, (by first | rfl | (simp only [List.length_set]; rfl) | (simp; done) | (simp; omega)), trivial⟩ (mk [] rfl) (Foll.pick [1, 2] rfl)
      ·have h12p : ¬ ((0 : Int) ≤ ((l.getD i []).getD k 0)) := by simpa using h12
       replace hR := bf hR h12
       refine J_skip ?_
       refine nx ?_
       refine J_region 3 rfl ?_
       refine ip 1 2 [(28, iv (k : Int))] (by kernel_rfl) ?_
       refine ix rfl (det_add64 rfl rfl rfl rfl (by omega)) ?_
       refine ip 1 0 [(6, iv ((k : Int) + 1))] (by kernel_rfl) ?_
       refine JI_end ?_
       exact againL3 (z1 := (fu1 + 1)) (z2 := s2) (z3 := k) fu1 s3 (k + 1) ⟨(by omega), hR, (by first | omega | (simp <;> omega)), (by omega)⟩ (Nat.lt_succ_self _) ⟨rfl, (by first | rfl | (simp only [List.length_set]; rfl) | (simp; done) | (simp; omega)), rfl, (by first | rfl | (simp only [List.length_set]; rfl) | (simp; done) | (simp; omega)), trivial⟩ (mk [] rfl) (Foll.pick [1, 2] rfl)
    ·have h8p : ¬ ((k : Int) < ((l.getD i []).length : Int)) := by simpa using h8
     replace hR := bf hR h8
     refine J_exit ?_
     refine nx ?_
     refine J_region 3 rfl ?_
     refine ip 1 2 [(14, iv (i : Int))] (by kernel_rfl) ?_
     refine ix rfl (det_add64 rfl rfl rfl rfl (by omega)) ?_
     refine ip 1 0 [(5, iv ((i : Int) + 1))] (by kernel_rfl) ?_
     refine JI_end ?_
     exact againL2 (z1 := s) (z2 := i) s2 (i + 1) ⟨(by omega), hR, (by first | omega | (simp <;> omega))⟩ (by (try dsimp only); omega) ⟨rfl, (by first | rfl | (simp only [List.length_set]; rfl) | (simp; done) | (simp; omega)), (by first | rfl | (simp only [List.length_set]; rfl) | (simp; done) | (simp; omega)), trivial⟩ (mk [] rfl) (Foll.pick [1, 2] rfl)
  ·have h3p : ¬ ((i : Int) < (l.length : Int)) := by simpa using h3
   rw [dropn h3p] at hR; replace hR := (ref05_Print_l2.eq_1 ..).symm.trans hR
   refine J_exit ?_
   refine nx ?_
   refine sr 3 rfl ?_
   refine ip 3 0 [(2, sv s), (3, iv 0)] (by kernel_rfl) ?_
   refine ie ?_
   refine J_ret ?_
   subst hR
   exact ends_ret rfl ⟨hr, hD⟩ (by simp [hD]) (res2 rfl (resV_tmp rfl) (resV_tmp rfl)) () (by rfl) (mk [] rfl) Foll.nil

def ref04_attribute_l0 (m : Int) : Nat → Nat → Bool
 | 0, _ => false
 | fu1 + 1, k => (bif (decide ((k : Int) < 8)) then (bif (decide (m = (([1, 2, 4, 8, 16, 32, 64, 128] : List Int).getD k 0))) then true else ref04_attribute_l0 m fu1 (k + 1)) else false)
def ref04_attribute (m : Int) : Bool :=
 ref04_attribute_l0 m ((8 - 0) + 1) 0

theorem ref04_attribute_c (m : Int) (R : Bool) (hR : ref04_attribute m = R) : ConV Tryz.prog 150 [iv m] [] (bv R) := by
 refine con_of_J (n := 13) Tryz.func150 rfl (by kernel_rfl) rfl rfl [(0, iv m)] ⟨rfl, trivial⟩ fun X hX hr hD => ?_
 replace hR := (ref04_attribute.eq_1 ..).symm.trans hR
 refine sr 1 rfl ?_
 refine ip 1 0 [] (by kernel_rfl) ?_
 refine ie ?_
 refine J_seq ?_
 refine sr 1 rfl ?_
 refine ip 1 0 [(3, iv 0)] (by kernel_rfl) ?_
 refine ie ?_
 refine J_block ?_
 refine JL2 (fun (fu : Nat) (k : Nat) => (8 - k) < fu ∧ ref04_attribute_l0 m fu k = R) (fun (fu : Nat) (k : Nat) => [(0, iv m), (3, iv (k : Int))]) (fun (fu : Nat) (k : Nat) => []) (fun (fu : Nat) (k : Nat) => []) (fun (fu : Nat) (k : Nat) => fu) ((8 - 0) + 1) 0 ⟨(Nat.lt_succ_self _), hR⟩ ⟨rfl, (by first | rfl | (simp only [List.length_set]; rfl) | (simp; done) | (simp; omega)), trivial⟩ (mk [] rfl) Foll.nil ?_
 rintro fu k ⟨hm1, hR⟩
 obtain ⟨fu1, rfl⟩ : ∃ m, fu = m + 1 := ⟨fu - 1, by omega⟩
 replace hR := (ref04_attribute_l0.eq_2 ..).symm.trans hR
 refine J_seq ?_
 refine sr 2 rfl ?_
 refine ip 2 0 [(5, bv (decide ((k : Int) < 8)))] (by kernel_rfl) ?_
 refine ie ?_
 refine J_if rfl (fun h2 => ?_) (fun h2 => ?_)
 ·have h2p : (k : Int) < 8 := by simpa using h2
  replace hR := bt hR h2
  refine J_skip ?_
  refine nx ?_
  refine J_seq ?_
  refine J_block ?_
  refine sr 5 rfl ?_
  refine ip 1 4 [(8, iv m)] (by kernel_rfl) ?_
  refine ix rfl (det_build (cs := [iv 1, iv 2, iv 4, iv 8, iv 16, iv 32, iv 64, iv 128]) rfl rfl (by kernel_rfl)) ?_
  refine ip 1 2 [(10, iv (k : Int))] (by kernel_rfl) ?_
  refine ix rfl (det_indexk (v := iv (([1, 2, 4, 8, 16, 32, 64, 128] : List Int).getD k 0)) (c := cInt) (xs := ([1, 2, 4, 8, 16, 32, 64, 128] : List Int)) (d := 0) Tryz.underlying263 ty3 (fun _ => rfl) rfl rfl rfl rfl k rfl rfl (by omega) rfl rfl) ?_
  refine ip 1 0 [(12, bv (decide (m = (([1, 2, 4, 8, 16, 32, 64, 128] : List Int).getD k 0))))] (by kernel_rfl) ?_
  refine ie ?_
  refine J_if rfl (fun h3 => ?_) (fun h3 => ?_)
  ·have h3p : m = (([1, 2, 4, 8, 16, 32, 64, 128] : List Int).getD k 0) := by simpa using h3
   replace hR := bt hR h3
   refine sr 1 rfl ?_
   refine ip 1 0 [(2, bv true)] (by kernel_rfl) ?_
   refine ie ?_
   refine J_ret ?_
   subst hR
   exact ends_ret rfl ⟨hr, hD⟩ (by simp [hD]) (res1 rfl (resV_tmp rfl)) () (by rfl) (mk [] rfl) Foll.nil
  ·have h3p : ¬ (m = (([1, 2, 4, 8, 16, 32, 64, 128] : List Int).getD k 0)) := by simpa using h3
   replace hR := bf hR h3
   refine J_skip ?_
   refine nx ?_
   refine J_region 3 rfl ?_
   refine ip 1 2 [(6, iv (k : Int))] (by kernel_rfl) ?_
   refine ix rfl (det_add64 rfl rfl rfl rfl (by omega)) ?_
   refine ip 1 0 [(3, iv ((k : Int) + 1))] (by kernel_rfl) ?_
   refine JI_end ?_
   exact againL2 (z1 := (fu1 + 1)) (z2 := k) fu1 (k + 1) ⟨(by omega), hR⟩ (Nat.lt_succ_self _) ⟨rfl, (by first | rfl | (simp only [List.length_set]; rfl) | (simp; done) | (simp; omega)), trivial⟩ (mk [] rfl) Foll.nil
 ·have h2p : ¬ ((k : Int) < 8) := by simpa using h2
  replace hR := bf hR h2
  refine J_exit ?_
  refine nx ?_
  refine sr 1 rfl ?_
  refine ip 1 0 [(2, bv false)] (by kernel_rfl) ?_
  refine ie ?_
  refine J_ret ?_
  subst hR
  exact ends_ret rfl ⟨hr, hD⟩ (by simp [hD]) (res1 rfl (resV_tmp rfl)) () (by rfl) (mk [] rfl) Foll.nil

def ref04_CheckPen_j1 (a : Act) (is : Bool) : Int :=
 (bif (((!decide (a.kind = 39)) || (!(decide (a.text = ([] : List UInt8))))) || (!is)) then 141 else 0)
def ref04_CheckPen_j2 (a : Act) (t72 : Bool) : Int :=
 (bif t72 then ref04_CheckPen_j1 a ((decide (a.m = 0)) && (decide ((ref03_Check a.color) = 0))) else ref04_CheckPen_j1 a false)
def ref04_CheckPen (a : Act) : Int :=
 (bif (decide (a.n = 0)) then ref04_CheckPen_j1 a ((decide (a.m = 0)) && (decide (a.color = Col.zero))) else (bif (decide (a.n = 1)) then ref04_CheckPen_j1 a ((ref04_attribute a.m) && (decide (a.color = Col.zero))) else (bif (decide (a.n = 2)) then ref04_CheckPen_j1 a (((decide (a.m = 3)) || (((ref04_attribute a.m) && (!decide (a.m = 1))) && (!decide (a.m = 2)))) && (decide (a.color = Col.zero))) else (bif (decide (a.n = 3)) then ref04_CheckPen_j1 a (((decide ((0 : Int) ≤ a.m)) && (decide (a.m ≤ 5))) && (decide (a.color = Col.zero))) else (bif (decide (a.n = 4)) then ref04_CheckPen_j2 a (decide (a.n = 4)) else (bif (decide (a.n = 5)) then ref04_CheckPen_j2 a (decide (a.n = 5)) else ref04_CheckPen_j2 a (decide (a.n = 6))))))))

theorem ref04_CheckPen_c (a : Act) (R : Int) (hR : ref04_CheckPen a = R) : ConV Tryz.prog 113 [ag (cAct a)] [] (iv R) := by
 refine con_of_J (n := 97) Tryz.func113 rfl (by kernel_rfl) rfl rfl [(0, ag (cAct a))] ⟨rfl, trivial⟩ fun X hX hr hD => ?_
 replace hR := (ref04_CheckPen.eq_1 ..).symm.trans hR
 refine sr 2 rfl ?_
 refine it rfl (tri_box (cs := cAct a) rfl rfl rfl) fun b1 => ?_
 refine ip 1 0 [] (by kernel_rfl) ?_
 refine ie ?_
 refine sr 3 rfl ?_
 refine ix rfl (det_build (cs := cCol Col.zero) rfl rfl (by kernel_rfl)) ?_
 refine it rfl (tri_alloc (cs := cCol Col.zero) zero24 rfl) fun b2 => ?_
 refine it rfl (tri_store (us := cCol Col.zero) (cs' := cCol Col.zero) ty24 rfl rfl rfl 0 rfl rfl rfl rfl rfl rfl) fun _ => ?_
 refine ie ?_
 refine sr 1 rfl ?_
 refine ip 1 0 [(4, bv false)] (by kernel_rfl) ?_
 refine ie ?_
 refine JS1 (fun (is : Bool) => ref04_CheckPen_j1 a is = R) (fun (is : Bool) => [(1, pt b1 0), (4, bv is)]) (fun (is : Bool) => [bx b2 (cCol Col.zero) 24, bx b1 (cAct a) 26]) (fun (is : Bool) => []) ?_ ?_
 ·refine sr 2 rfl ?_
  refine ip 1 1 [(6, pt b1 1)] (by kernel_rfl) ?_
  refine ix rfl (det_own_one (v := iv a.n) ty3 rfl rfl 1 rfl rfl) ?_
  refine ie ?_
  refine J_block ?_
  refine sr 2 rfl ?_
  refine ip 2 0 [(8, bv (decide (a.n = 0)))] (by kernel_rfl) ?_
  refine ie ?_
  refine J_if rfl (fun h3 => ?_) (fun h3 => ?_)
  ·have h3p : a.n = 0 := by simpa using h3
   replace hR := bt hR h3
   refine J_region 10 rfl ?_
   refine ip 1 9 [(10, pt b1 2)] (by kernel_rfl) ?_
   refine ix rfl (det_own_one (v := iv a.m) ty3 rfl rfl 1 rfl rfl) ?_
   refine ip 2 6 [(13, bv (decide (a.m = 0)))] (by kernel_rfl) ?_
   refine iand 5 1 13 18 (decide (a.color = Col.zero)) rfl (by kernel_rfl) (fun g4 => ?_) ?_
   ·have g4p : a.m = 0 := by simpa using g4
    refine ip 1 4 [(14, pt b1 3)] (by kernel_rfl) ?_
    refine ix rfl (det_own_agg (us := cCol a.color) ty24 rfl rfl 1 rfl rfl rfl) ?_
    refine ix rfl (det_own_agg (us := cCol Col.zero) ty24 rfl rfl 0 rfl rfl rfl) ?_
    refine ix rfl (det_eqs (a := a.color) (b := Col.zero) eqt24 rfl rfl rfl) ?_
    refine ip 1 0 [(18, bv (decide (a.color = Col.zero)))] (by kernel_rfl) ?_
    exact JI_end (armI 6 13 18 g4 Foll.nil (mk [true, true] rfl) rfl rfl rfl rfl rfl)
   refine ip 1 0 [(4, bv ((decide (a.m = 0)) && (decide (a.color = Col.zero))))] (by kernel_rfl) ?_
   refine JI_end ?_
   exact meet1 ((decide (a.m = 0)) && (decide (a.color = Col.zero))) hR ⟨rfl, (by first | rfl | (simp only [List.length_set]; rfl) | (simp; done) | (simp; omega)), trivial⟩ (mk [true, true] rfl) Foll.nil
  ·have h3p : ¬ (a.n = 0) := by simpa using h3
   replace hR := bf hR h3
   refine sr 2 rfl ?_
   refine ip 2 0 [(19, bv (decide (a.n = 1)))] (by kernel_rfl) ?_
   refine ie ?_
   refine J_if rfl (fun h5 => ?_) (fun h5 => ?_)
   ·have h5p : a.n = 1 := by simpa using h5
    replace hR := bt hR h5
    refine J_region 10 rfl ?_
    refine ip 1 9 [(21, pt b1 2)] (by kernel_rfl) ?_
    refine ix rfl (det_own_one (v := iv a.m) ty3 rfl rfl 1 rfl rfl) ?_
    refine ixc rfl (det_call (ref04_attribute_c a.m _ rfl) rfl rfl rfl rfl rfl Foll.nil) ?_
    refine ip 1 6 [(24, bv (ref04_attribute a.m))] (by kernel_rfl) ?_
    refine iand 5 1 24 29 (decide (a.color = Col.zero)) rfl (by kernel_rfl) (fun g6 => ?_) ?_
    ·refine ip 1 4 [(25, pt b1 3)] (by kernel_rfl) ?_
     refine ix rfl (det_own_agg (us := cCol a.color) ty24 rfl rfl 1 rfl rfl rfl) ?_
     refine ix rfl (det_own_agg (us := cCol Col.zero) ty24 rfl rfl 0 rfl rfl rfl) ?_
     refine ix rfl (det_eqs (a := a.color) (b := Col.zero) eqt24 rfl rfl rfl) ?_
     refine ip 1 0 [(29, bv (decide (a.color = Col.zero)))] (by kernel_rfl) ?_
     exact JI_end (armI 6 24 29 g6 Foll.nil (mk [true, true] rfl) rfl rfl rfl rfl rfl)
    refine ip 1 0 [(4, bv ((ref04_attribute a.m) && (decide (a.color = Col.zero))))] (by kernel_rfl) ?_
    refine JI_end ?_
    exact meet1 ((ref04_attribute a.m) && (decide (a.color = Col.zero))) hR ⟨rfl, (by first | rfl | (simp only [List.length_set]; rfl) | (simp; done) | (simp; omega)), trivial⟩ (mk [true, true] rfl) Foll.nil
   ·have h5p : ¬ (a.n = 1) := by simpa using h5
    replace hR := bf hR h5
    refine sr 2 rfl ?_
    refine ip 2 0 [(30, bv (decide (a.n = 2)))] (by kernel_rfl) ?_
    refine ie ?_
    refine J_if rfl (fun h7 => ?_) (fun h7 => ?_)
    ·have h7p : a.n = 2 := by simpa using h7
     replace hR := bt hR h7
     refine J_region 25 rfl ?_
     refine ip 1 24 [(32, pt b1 2)] (by kernel_rfl) ?_
     refine ix rfl (det_own_one (v := iv a.m) ty3 rfl rfl 1 rfl rfl) ?_
     refine ip 2 21 [(35, bv (decide (a.m = 3)))] (by kernel_rfl) ?_
     refine ior 14 7 35 49 (((ref04_attribute a.m) && (!decide (a.m = 1))) && (!decide (a.m = 2))) rfl (by kernel_rfl) (fun g8 => ?_) ?_
     ·have g8p : ¬ (a.m = 3) := by simpa using g8
      refine ip 1 13 [(36, pt b1 2)] (by kernel_rfl) ?_
      refine ix rfl (det_own_one (v := iv a.m) ty3 rfl rfl 1 rfl rfl) ?_
      refine ixc rfl (det_call (ref04_attribute_c a.m _ rfl) rfl rfl rfl rfl rfl Foll.nil) ?_
      refine ip 1 10 [(39, bv (ref04_attribute a.m))] (by kernel_rfl) ?_
      refine iand 4 6 39 43 (!decide (a.m = 1)) rfl (by kernel_rfl) (fun g9 => ?_) ?_
      ·refine ip 1 3 [(40, pt b1 2)] (by kernel_rfl) ?_
       refine ix rfl (det_own_one (v := iv a.m) ty3 rfl rfl 1 rfl rfl) ?_
       refine ip 2 0 [(43, bv (!decide (a.m = 1)))] (by kernel_rfl) ?_
       exact JI_end (armI 4 39 43 g9 Foll.nil (mk [true, true] rfl) rfl rfl rfl rfl rfl)
      refine ip 1 5 [(44, bv ((ref04_attribute a.m) && (!decide (a.m = 1))))] (by kernel_rfl) ?_
      refine iand 4 1 44 48 (!decide (a.m = 2)) rfl (by kernel_rfl) (fun g10 => ?_) ?_
      ·have g10p := g10; try simp at g10p
       refine ip 1 3 [(45, pt b1 2)] (by kernel_rfl) ?_
       refine ix rfl (det_own_one (v := iv a.m) ty3 rfl rfl 1 rfl rfl) ?_
       refine ip 2 0 [(48, bv (!decide (a.m = 2)))] (by kernel_rfl) ?_
       exact JI_end (armI 4 44 48 g10 Foll.nil (mk [true, true] rfl) rfl rfl rfl rfl rfl)
      refine ip 1 0 [(49, bv (((ref04_attribute a.m) && (!decide (a.m = 1))) && (!decide (a.m = 2))))] (by kernel_rfl) ?_
      exact JI_end (armI 9 35 49 g8 Foll.nil (mk [true, true] rfl) rfl rfl rfl rfl rfl)
     refine ip 1 6 [(50, bv ((decide (a.m = 3)) || (((ref04_attribute a.m) && (!decide (a.m = 1))) && (!decide (a.m = 2)))))] (by kernel_rfl) ?_
     refine iand 5 1 50 55 (decide (a.color = Col.zero)) rfl (by kernel_rfl) (fun g11 => ?_) ?_
     ·have g11p := g11; try simp at g11p
      refine ip 1 4 [(51, pt b1 3)] (by kernel_rfl) ?_
      refine ix rfl (det_own_agg (us := cCol a.color) ty24 rfl rfl 1 rfl rfl rfl) ?_
      refine ix rfl (det_own_agg (us := cCol Col.zero) ty24 rfl rfl 0 rfl rfl rfl) ?_
      refine ix rfl (det_eqs (a := a.color) (b := Col.zero) eqt24 rfl rfl rfl) ?_
      refine ip 1 0 [(55, bv (decide (a.color = Col.zero)))] (by kernel_rfl) ?_
      exact JI_end (armI 6 50 55 g11 Foll.nil (mk [true, true] rfl) rfl rfl rfl rfl rfl)
     refine ip 1 0 [(4, bv (((decide (a.m = 3)) || (((ref04_attribute a.m) && (!decide (a.m = 1))) && (!decide (a.m = 2)))) && (decide (a.color = Col.zero))))] (by kernel_rfl) ?_
     refine JI_end ?_
     exact meet1 (((decide (a.m = 3)) || (((ref04_attribute a.m) && (!decide (a.m = 1))) && (!decide (a.m = 2)))) && (decide (a.color = Col.zero))) hR ⟨rfl, (by first | rfl | (simp only [List.length_set]; rfl) | (simp; done) | (simp; omega)), trivial⟩ (mk [true, true] rfl) Foll.nil
    ·have h7p : ¬ (a.n = 2) := by simpa using h7
     replace hR := bf hR h7
     refine sr 2 rfl ?_
     refine ip 2 0 [(56, bv (decide (a.n = 3)))] (by kernel_rfl) ?_
     refine ie ?_
     refine J_if rfl (fun h12 => ?_) (fun h12 => ?_)
     ·have h12p : a.n = 3 := by simpa using h12
      replace hR := bt hR h12
      refine J_region 15 rfl ?_
      refine ip 1 14 [(58, pt b1 2)] (by kernel_rfl) ?_
      refine ix rfl (det_own_one (v := iv a.m) ty3 rfl rfl 1 rfl rfl) ?_
      refine ip 2 11 [(61, bv (decide ((0 : Int) ≤ a.m)))] (by kernel_rfl) ?_
      refine iand 4 7 61 65 (decide (a.m ≤ 5)) rfl (by kernel_rfl) (fun g13 => ?_) ?_
      ·have g13p : (0 : Int) ≤ a.m := by simpa using g13
       refine ip 1 3 [(62, pt b1 2)] (by kernel_rfl) ?_
       refine ix rfl (det_own_one (v := iv a.m) ty3 rfl rfl 1 rfl rfl) ?_
       refine ip 2 0 [(65, bv (decide (a.m ≤ 5)))] (by kernel_rfl) ?_
       exact JI_end (armI 4 61 65 g13 Foll.nil (mk [true, true] rfl) rfl rfl rfl rfl rfl)
      refine ip 1 6 [(66, bv ((decide ((0 : Int) ≤ a.m)) && (decide (a.m ≤ 5))))] (by kernel_rfl) ?_
      refine iand 5 1 66 71 (decide (a.color = Col.zero)) rfl (by kernel_rfl) (fun g14 => ?_) ?_
      ·have g14p : ((0 : Int) ≤ a.m) ∧ (a.m ≤ 5) := by simpa using g14
       refine ip 1 4 [(67, pt b1 3)] (by kernel_rfl) ?_
       refine ix rfl (det_own_agg (us := cCol a.color) ty24 rfl rfl 1 rfl rfl rfl) ?_
       refine ix rfl (det_own_agg (us := cCol Col.zero) ty24 rfl rfl 0 rfl rfl rfl) ?_
       refine ix rfl (det_eqs (a := a.color) (b := Col.zero) eqt24 rfl rfl rfl) ?_
       refine ip 1 0 [(71, bv (decide (a.color = Col.zero)))] (by kernel_rfl) ?_
       exact JI_end (armI 6 66 71 g14 Foll.nil (mk [true, true] rfl) rfl rfl rfl rfl rfl)
      refine ip 1 0 [(4, bv (((decide ((0 : Int) ≤ a.m)) && (decide (a.m ≤ 5))) && (decide (a.color = Col.zero))))] (by kernel_rfl) ?_
      refine JI_end ?_
      exact meet1 (((decide ((0 : Int) ≤ a.m)) && (decide (a.m ≤ 5))) && (decide (a.color = Col.zero))) hR ⟨rfl, (by first | rfl | (simp only [List.length_set]; rfl) | (simp; done) | (simp; omega)), trivial⟩ (mk [true, true] rfl) Foll.nil
     ·have h12p : ¬ (a.n = 3) := by simpa using h12
      replace hR := bf hR h12
      refine JS1 (fun (t72 : Bool) => ref04_CheckPen_j2 a t72 = R) (fun (t72 : Bool) => [(1, pt b1 0), (4, bv false), (72, bv t72)]) (fun (t72 : Bool) => [bx b2 (cCol Col.zero) 24, bx b1 (cAct a) 26]) (fun (t72 : Bool) => []) ?_ ?_
      ·refine sr 2 rfl ?_
       refine ip 2 0 [(72, bv (decide (a.n = 4)))] (by kernel_rfl) ?_
       refine ie ?_
       refine J_if rfl (fun h15 => ?_) (fun h15 => ?_)
       ·have h15p : a.n = 4 := by simpa using h15
        replace hR := bt hR h15
        refine J_skip ?_
        exact meet1 (decide (a.n = 4)) hR ⟨rfl, rfl, (by first | rfl | (simp only [List.length_set]; rfl) | (simp; done) | (simp; omega)), trivial⟩ (mk [true, true] rfl) Foll.nil
       ·have h15p : ¬ (a.n = 4) := by simpa using h15
        replace hR := bf hR h15
        refine sr 2 rfl ?_
        refine ip 2 0 [(72, bv (decide (a.n = 5)))] (by kernel_rfl) ?_
        refine ie ?_
        refine J_if rfl (fun h16 => ?_) (fun h16 => ?_)
        ·have h16p : a.n = 5 := by simpa using h16
         replace hR := bt hR h16
         refine J_skip ?_
         exact meet1 (decide (a.n = 5)) hR ⟨rfl, rfl, (by first | rfl | (simp only [List.length_set]; rfl) | (simp; done) | (simp; omega)), trivial⟩ (mk [true, true] rfl) Foll.nil
        ·have h16p : ¬ (a.n = 5) := by simpa using h16
         replace hR := bf hR h16
         refine J_region 2 rfl ?_
         refine ip 2 0 [(72, bv (decide (a.n = 6)))] (by kernel_rfl) ?_
         refine JI_end ?_
         exact meet1 (decide (a.n = 6)) hR ⟨rfl, rfl, (by first | rfl | (simp only [List.length_set]; rfl) | (simp; done) | (simp; omega)), trivial⟩ (mk [true, true] rfl) Foll.nil
      ·intro t72
       rintro hR
       replace hR := (ref04_CheckPen_j2.eq_1 ..).symm.trans hR
       refine J_if rfl (fun h17 => ?_) (fun h17 => ?_)
       ·replace hR := bt hR h17
        refine J_region 10 rfl ?_
        refine ip 1 9 [(76, pt b1 2)] (by kernel_rfl) ?_
        refine ix rfl (det_own_one (v := iv a.m) ty3 rfl rfl 1 rfl rfl) ?_
        refine ip 2 6 [(79, bv (decide (a.m = 0)))] (by kernel_rfl) ?_
        refine iand 5 1 79 84 (decide ((ref03_Check a.color) = 0)) rfl (by kernel_rfl) (fun g18 => ?_) ?_
        ·have g18p : a.m = 0 := by simpa using g18
         refine ip 1 4 [(80, pt b1 3)] (by kernel_rfl) ?_
         refine ix rfl (det_own_agg (us := cCol a.color) ty24 rfl rfl 1 rfl rfl rfl) ?_
         refine ixc rfl (det_call (ref03_Check_c a.color _ rfl) rfl rfl rfl rfl rfl Foll.nil) ?_
         refine ip 2 0 [(84, bv (decide ((ref03_Check a.color) = 0)))] (by kernel_rfl) ?_
         exact JI_end (armI 5 79 84 g18 Foll.nil (mk [true, true] rfl) rfl rfl rfl rfl rfl)
        refine ip 1 0 [(4, bv ((decide (a.m = 0)) && (decide ((ref03_Check a.color) = 0))))] (by kernel_rfl) ?_
        refine JI_end ?_
        exact meet1 ((decide (a.m = 0)) && (decide ((ref03_Check a.color) = 0))) hR ⟨rfl, (by first | rfl | (simp only [List.length_set]; rfl) | (simp; done) | (simp; omega)), trivial⟩ (mk [true, true] rfl) Foll.nil
       ·replace hR := bf hR h17
        refine J_skip ?_
        exact meet1 false hR ⟨rfl, (by first | rfl | (simp only [List.length_set]; rfl) | (simp; done) | (simp; omega)), trivial⟩ (mk [true, true] rfl) Foll.nil
 ·intro is
  rintro hR
  replace hR := (ref04_CheckPen_j1.eq_1 ..).symm.trans hR
  refine J_seq ?_
  refine sr 12 rfl ?_
  refine ip 1 11 [(85, pt b1 0)] (by kernel_rfl) ?_
  refine ix rfl (det_own_one (v := iv a.kind) ty3 rfl rfl 1 rfl rfl) ?_
  refine ip 2 8 [(88, bv (!decide (a.kind = 39)))] (by kernel_rfl) ?_
  refine ior 4 4 88 92 (!(decide (a.text = ([] : List UInt8)))) rfl (by kernel_rfl) (fun g19 => ?_) ?_
  ·have g19p : ¬ (¬ a.kind = 39) := by simpa using g19
   refine ip 1 3 [(89, pt b1 5)] (by kernel_rfl) ?_
   refine ix rfl (det_own_one (v := sv a.text) ty9 rfl rfl 1 rfl rfl) ?_
   refine ix rfl (det_stne rfl rfl rfl) ?_
   refine ip 1 0 [(92, bv (!(decide (a.text = ([] : List UInt8)))))] (by kernel_rfl) ?_
   exact JI_end (armI 5 88 92 g19 Foll.nil (mk [true, true] rfl) rfl rfl rfl rfl rfl)
  refine ip 1 3 [(93, bv ((!decide (a.kind = 39)) || (!(decide (a.text = ([] : List UInt8))))))] (by kernel_rfl) ?_
  refine ior 3 0 93 96 (!is) rfl (by kernel_rfl) (fun g20 => ?_) ?_
  ·have g20p : ¬ ((¬ a.kind = 39) ∨ (¬ a.text = ([] : List UInt8))) := by simpa using g20
   refine ip 3 0 [(96, bv (!is))] (by kernel_rfl) ?_
   exact JI_end (armI 2 93 96 g20 Foll.nil (mk [true, true] rfl) rfl rfl rfl rfl rfl)
  refine ie ?_
  refine J_if rfl (fun h21 => ?_) (fun h21 => ?_)
  ·have h21p := h21; try simp at h21p
   replace hR := bt hR h21
   refine sr 1 rfl ?_
   refine ip 1 0 [(2, iv 141)] (by kernel_rfl) ?_
   refine ie ?_
   refine J_ret ?_
   subst hR
   exact ends_ret rfl ⟨hr, hD⟩ (by simp [hD]) (res1 rfl (resV_tmp rfl)) () (by rfl) (mk [false, false] rfl) Foll.nil
  ·have h21p := h21; try simp at h21p
   replace hR := bf hR h21
   refine J_skip ?_
   refine nx ?_
   refine sr 1 rfl ?_
   refine ip 1 0 [(2, iv 0)] (by kernel_rfl) ?_
   refine ie ?_
   refine J_ret ?_
   subst hR
   exact ends_ret rfl ⟨hr, hD⟩ (by simp [hD]) (res1 rfl (resV_tmp rfl)) () (by rfl) (mk [false, false] rfl) Foll.nil

def ref09_attrs : List Ar3 :=
 ([{ Ar3.zero with a := 1, b := 1, c := 22 }, { Ar3.zero with a := 2, b := 2, c := 22 }, { Ar3.zero with a := 3, b := 4, c := 23 }, { Ar3.zero with a := 5, b := 8, c := 25 }, { Ar3.zero with a := 7, b := 16, c := 27 }, { Ar3.zero with a := 8, b := 32, c := 28 }, { Ar3.zero with a := 9, b := 64, c := 29 }, { Ar3.zero with a := 53, b := 128, c := 55 }] : List Ar3)

theorem ref09_attrs_c (R : List Ar3) (hR : ref09_attrs = R) : Con Tryz.prog 211 [] [] [] ({t : Option Addr × Nat // R.length ≤ t.2 ∧ R.length ≤ 9223372036854775807}) (fun x => .slice x.1.1 R.length x.1.2) (fun x => []) (fun x => [sl cAr3 x.1.1 R]) := by
 refine con_of_J (n := 10) Tryz.func211 rfl (by kernel_rfl) rfl rfl [] trivial fun X hX hr hD => ?_
 replace hR := (ref09_attrs.eq_1 ..).symm.trans hR
 refine sr 1 rfl ?_
 refine ip 1 0 [] (by kernel_rfl) ?_
 refine ie ?_
 refine sr 10 rfl ?_
 refine ix rfl (det_build (cs := cAr3 ({ Ar3.zero with a := 1, b := 1, c := 22 })) rfl rfl (by kernel_rfl)) ?_
 refine ix rfl (det_build (cs := cAr3 ({ Ar3.zero with a := 2, b := 2, c := 22 })) rfl rfl (by kernel_rfl)) ?_
 refine ix rfl (det_build (cs := cAr3 ({ Ar3.zero with a := 3, b := 4, c := 23 })) rfl rfl (by kernel_rfl)) ?_
 refine ix rfl (det_build (cs := cAr3 ({ Ar3.zero with a := 5, b := 8, c := 25 })) rfl rfl (by kernel_rfl)) ?_
 refine ix rfl (det_build (cs := cAr3 ({ Ar3.zero with a := 7, b := 16, c := 27 })) rfl rfl (by kernel_rfl)) ?_
 refine ix rfl (det_build (cs := cAr3 ({ Ar3.zero with a := 8, b := 32, c := 28 })) rfl rfl (by kernel_rfl)) ?_
 refine ix rfl (det_build (cs := cAr3 ({ Ar3.zero with a := 9, b := 64, c := 29 })) rfl rfl (by kernel_rfl)) ?_
 refine ix rfl (det_build (cs := cAr3 ({ Ar3.zero with a := 53, b := 128, c := 55 })) rfl rfl (by kernel_rfl)) ?_
 refine it rfl (tri_buildSl (c := cAr3) (xs := ([{ Ar3.zero with a := 1, b := 1, c := 22 }, { Ar3.zero with a := 2, b := 2, c := 22 }, { Ar3.zero with a := 3, b := 4, c := 23 }, { Ar3.zero with a := 5, b := 8, c := 25 }, { Ar3.zero with a := 7, b := 16, c := 27 }, { Ar3.zero with a := 8, b := 32, c := 28 }, { Ar3.zero with a := 9, b := 64, c := 29 }, { Ar3.zero with a := 53, b := 128, c := 55 }] : List Ar3)) slt272 rfl rfl rfl (by kernel_rfl)) fun b1 => ?_
 have : ([{ Ar3.zero with a := 1, b := 1, c := 22 }, { Ar3.zero with a := 2, b := 2, c := 22 }, { Ar3.zero with a := 3, b := 4, c := 23 }, { Ar3.zero with a := 5, b := 8, c := 25 }, { Ar3.zero with a := 7, b := 16, c := 27 }, { Ar3.zero with a := 8, b := 32, c := 28 }, { Ar3.zero with a := 9, b := 64, c := 29 }, { Ar3.zero with a := 53, b := 128, c := 55 }] : List Ar3).length = 8 := rfl
 refine ip 1 0 [(0, .slice (some ⟨b1, 0, none⟩) 8 8)] (by kernel_rfl) ?_
 refine ie ?_
 refine J_ret ?_
 subst hR
 exact ends_ret rfl ⟨hr, hD⟩ (by simp [hD]) (res1 rfl (resV_tmp rfl)) ⟨(some ⟨b1, 0, none⟩, 8), (by first | omega | (simp <;> omega) | (dsimp only; omega) | decide), (by first | omega | (simp <;> omega) | (dsimp only; omega) | decide)⟩ (by rfl) (mk [] rfl) (Foll.con1 (at_of 0 rfl) Foll.nil)

def ref09_Param_l0 (a : Act) : List Ar3 → Nat → List Int
 | [], i => (bif (decide (a.n = 0)) then ([0] : List Int) else (bif ((decide (a.n = 3)) && (decide (a.m = 1))) then ([4] : List Int) else (bif ((decide (a.n = 3)) && (decide (a.m = 0))) then ([24] : List Int) else (bif (decide (a.n = 3)) then ([4, a.m] : List Int) else (bif (decide (a.color.kind = 0)) then ([(IntKind.i64.wrap ((IntKind.i64.wrap ((38 : Int) + (IntKind.i64.wrap ((10 : Int) * (IntKind.i64.wrap (a.n - (4 : Int))))))) + (1 : Int)))] : List Int) else (bif (decide (a.color.kind = 2)) then ([(IntKind.i64.wrap ((38 : Int) + (IntKind.i64.wrap ((10 : Int) * (IntKind.i64.wrap (a.n - (4 : Int))))))), 2, (-1), (IntKind.i64.wrap (Int.tdiv a.color.n 65536)), (Int.tmod (IntKind.i64.wrap (Int.tdiv a.color.n 256)) 256), (Int.tmod a.color.n 256)] : List Int) else (bif ((!decide (a.n = 6)) && (decide (a.color.n < 8))) then ([(IntKind.i64.wrap ((IntKind.i64.wrap ((IntKind.i64.wrap ((38 : Int) + (IntKind.i64.wrap ((10 : Int) * (IntKind.i64.wrap (a.n - (4 : Int))))))) - (8 : Int))) + a.color.n))] : List Int) else (bif ((!decide (a.n = 6)) && (decide (a.color.n < 16))) then ([(IntKind.i64.wrap ((IntKind.i64.wrap ((IntKind.i64.wrap ((38 : Int) + (IntKind.i64.wrap ((10 : Int) * (IntKind.i64.wrap (a.n - (4 : Int))))))) + (44 : Int))) + a.color.n))] : List Int) else ([(IntKind.i64.wrap ((38 : Int) + (IntKind.i64.wrap ((10 : Int) * (IntKind.i64.wrap (a.n - (4 : Int))))))), 5, a.color.n] : List Int)))))))))
 | hd_l0 :: tl_l0, i => (bif ((decide (a.n = 1)) && (decide (a.m = hd_l0.b))) then ([hd_l0.a] : List Int) else (bif ((decide (a.n = 2)) && ((decide (a.m = hd_l0.b)) || ((decide (a.m = 3)) && (decide ((i : Int) = 0))))) then ([hd_l0.c] : List Int) else ref09_Param_l0 a tl_l0 (i + 1)))
def ref09_Param (a : Act) : List Int :=
 (bindV ref09_attrs fun (y0 : List Ar3) => ref09_Param_l0 a y0 0)

theorem ref09_Param_c (a : Act) (R : List Int) (hR : ref09_Param a = R) : Con Tryz.prog 158 [ag (cAct a)] [] [] ({t : Option Addr × Nat // R.length ≤ t.2 ∧ R.length ≤ 9223372036854775807}) (fun x => ag [.slice x.1.1 R.length x.1.2]) (fun x => []) (fun x => [sl cInt x.1.1 R]) := by
 refine con_of_J (n := 168) Tryz.func158 rfl (by kernel_rfl) rfl rfl [(0, ag (cAct a))] ⟨rfl, trivial⟩ fun X hX hr hD => ?_
 replace hR := (ref09_Param.eq_1 ..).symm.trans hR
 refine sr 2 rfl ?_
 refine it rfl (tri_box (cs := cAct a) rfl rfl rfl) fun b1 => ?_
 refine it rfl (tri_alloc (cs := [.slice none 0 0]) zero217 rfl) fun b2 => ?_
 refine ie ?_
 refine sr 2 rfl ?_
 have hQ := bindVx hR; clear hR; obtain ⟨y0, hy0, hR⟩ := hQ
 refine it rfl (tri_callN (L2 := [bx b2 [.slice none 0 0] 217, bx b1 (cAct a) 26]) (ref09_attrs_c y0 hy0) rfl rfl rfl rfl rfl Foll.nil (List.Perm.refl _) (fun ⟨⟨q3, k4⟩, hp5⟩ => [bx b2 [.slice none 0 0] 217, bx b1 (cAct a) 26]) (fun _ => rfl)) fun ⟨⟨q3, k4⟩, hp5⟩ => ?_
 obtain ⟨hc6, hl7⟩ := hp5
 refine ip 1 0 [(3, .slice q3 y0.length k4)] (by kernel_rfl) ?_
 refine ie ?_
 refine J_seq ?_
 refine sr 1 rfl ?_
 refine ip 1 0 [(4, iv 0)] (by kernel_rfl) ?_
 refine ie ?_
 refine J_block ?_
 refine JL1 (fun (i : Nat) => i ≤ y0.length ∧ ref09_Param_l0 a (y0.drop i) i = R) (fun (i : Nat) => [(1, pt b1 0), (2, pt b2 0), (3, .slice q3 y0.length k4), (4, iv (i : Int))]) (fun (i : Nat) => [bx b2 [.slice none 0 0] 217, bx b1 (cAct a) 26]) (fun (i : Nat) => [sl cAr3 q3 y0]) (fun (i : Nat) => y0.length - i) 0 ⟨(by omega), hR⟩ ⟨rfl, rfl, rfl, (by first | rfl | (simp only [List.length_set]; rfl) | (simp; done) | (simp; omega)), trivial⟩ (mk [true, true] rfl) Foll.refl ?_
 rintro i ⟨hm8, hR⟩
 refine J_seq ?_
 refine sr 4 rfl ?_
 refine ip 4 0 [(11, bv (decide ((i : Int) < (y0.length : Int))))] (by kernel_rfl) ?_
 refine ie ?_
 refine J_if rfl (fun h9 => ?_) (fun h9 => ?_)
 ·have h9p : (i : Int) < (y0.length : Int) := by simpa using h9
  rw [dropc Ar3.zero (show i < y0.length by omega)] at hR; replace hR := (ref09_Param_l0.eq_2 ..).symm.trans hR
  refine J_skip ?_
  refine nx ?_
  refine J_seq ?_
  refine J_block ?_
  refine J_seq ?_
  refine sd 13 rfl (by kernel_rfl) rfl ?_
  refine dp 1 12 [(14, pt b1 1)] (by kernel_rfl) ?_
  refine dd rfl (det_own_one (v := iv a.n) ty3 rfl rfl 1 rfl rfl) ?_
  refine dp 2 9 [(17, bv (decide (a.n = 1)))] (by kernel_rfl) ?_
  refine dand 9 0 17 26 (decide (a.m = (y0.getD i Ar3.zero).b)) rfl (by kernel_rfl) (fun g10 => ?_) ?_
  ·have g10p : a.n = 1 := by simpa using g10
   refine dp 1 8 [(18, pt b1 2)] (by kernel_rfl) ?_
   refine dd rfl (det_own_one (v := iv a.m) ty3 rfl rfl 1 rfl rfl) ?_
   refine dp 2 5 [(20, .slice q3 y0.length k4), (21, iv (i : Int))] (by kernel_rfl) ?_
   refine JD_base 0 rfl (by omega) fun a11 hq12 => ?_
   refine dd rfl (det_ixq slt272 rfl rfl hq12 rfl i rfl (by omega)) ?_
   refine dd rfl (det_ix_arr Tryz.underlying189 ty3 rfl rfl rfl 1 rfl (by decide)) ?_
   refine dd rfl (det_ld_one (v := iv ((y0.getD i Ar3.zero).b)) (us := [iv ((y0.getD i Ar3.zero).b)]) ty3 rfl rfl (at_part (at_slq (c := cAr3) (sz := 3) hq12 (fun _ => rfl) 0 rfl (gd Ar3.zero (by omega))) (ws := [iv ((y0.getD i Ar3.zero).b)]) 1 1 rfl) rfl) ?_
   refine dp 2 0 [(26, bv (decide (a.m = (y0.getD i Ar3.zero).b)))] (by kernel_rfl) ?_
   exact JD_end (armD 9 17 26 g10 rfl rfl rfl rfl rfl)
  refine de ?_
  refine J_if rfl (fun h13 => ?_) (fun h13 => ?_)
  ·have h13p : (a.n = 1) ∧ (a.m = (y0.getD i Ar3.zero).b) := by simpa using h13
   replace hR := bt hR h13
   refine sr 8 rfl ?_
   refine ip 2 6 [(27, .slice q3 y0.length k4), (28, iv (i : Int))] (by kernel_rfl) ?_
   refine JI_base 0 rfl (by omega) fun a14 hq15 => ?_
   refine ix rfl (det_ixq slt272 rfl rfl hq15 rfl i rfl (by omega)) ?_
   refine ix rfl (det_ix_arr Tryz.underlying189 ty3 rfl rfl rfl 0 rfl (by decide)) ?_
   refine ix rfl (det_ld_one (v := iv ((y0.getD i Ar3.zero).a)) (us := [iv ((y0.getD i Ar3.zero).a)]) ty3 rfl rfl (at_part (at_slq (c := cAr3) (sz := 3) hq15 (fun _ => rfl) 0 rfl (gd Ar3.zero (by omega))) (ws := [iv ((y0.getD i Ar3.zero).a)]) 0 1 rfl) rfl) ?_
   refine it rfl (tri_buildSl (c := cInt) (xs := ([(y0.getD i Ar3.zero).a] : List Int)) slt168 rfl rfl rfl (by kernel_rfl)) fun b16 => ?_
   have : ([(y0.getD i Ar3.zero).a] : List Int).length = 1 := rfl
   refine ix rfl (det_build (cs := [.slice (some ⟨b16, 0, none⟩) 1 1]) rfl rfl (by kernel_rfl)) ?_
   refine it rfl (tri_store (us := [.slice (some ⟨b16, 0, none⟩) 1 1]) (cs' := [.slice (some ⟨b16, 0, none⟩) 1 1]) ty217 rfl rfl rfl 0 rfl rfl rfl rfl rfl rfl) fun _ => ?_
   refine ie ?_
   refine J_ret ?_
   subst hR
   exact ends_ret rfl ⟨hr, hD⟩ (by simp [hD]) (res1 rfl (resV_cell (us := [.slice (some ⟨b16, 0, none⟩) 1 1]) ty217 rfl 0 rfl rfl rfl)) ⟨(some ⟨b16, 0, none⟩, 1), (by first | omega | (simp <;> omega) | (dsimp only; omega) | decide), (by first | omega | (simp <;> omega) | (dsimp only; omega) | decide)⟩ (by rfl) (mk [false, false] rfl) (Foll.con1 (at_of 0 rfl) Foll.nil)
  ·have h13p : ¬ ((a.n = 1) ∧ (a.m = (y0.getD i Ar3.zero).b)) := by simpa using h13
   replace hR := bf hR h13
   refine J_skip ?_
   refine nx ?_
   refine sd 22 rfl (by kernel_rfl) rfl ?_
   refine dp 1 21 [(34, pt b1 1)] (by kernel_rfl) ?_
   refine dd rfl (det_own_one (v := iv a.n) ty3 rfl rfl 1 rfl rfl) ?_
   refine dp 2 18 [(37, bv (decide (a.n = 2)))] (by kernel_rfl) ?_
   refine dand 18 0 37 55 ((decide (a.m = (y0.getD i Ar3.zero).b)) || ((decide (a.m = 3)) && (decide ((i : Int) = 0)))) rfl (by kernel_rfl) (fun g17 => ?_) ?_
   ·have g17p : a.n = 2 := by simpa using g17
    refine dp 1 17 [(38, pt b1 2)] (by kernel_rfl) ?_
    refine dd rfl (det_own_one (v := iv a.m) ty3 rfl rfl 1 rfl rfl) ?_
    refine dp 2 14 [(40, .slice q3 y0.length k4), (41, iv (i : Int))] (by kernel_rfl) ?_
    refine JD_base 0 rfl (by omega) fun a18 hq19 => ?_
    refine dd rfl (det_ixq slt272 rfl rfl hq19 rfl i rfl (by omega)) ?_
    refine dd rfl (det_ix_arr Tryz.underlying189 ty3 rfl rfl rfl 1 rfl (by decide)) ?_
    refine dd rfl (det_ld_one (v := iv ((y0.getD i Ar3.zero).b)) (us := [iv ((y0.getD i Ar3.zero).b)]) ty3 rfl rfl (at_part (at_slq (c := cAr3) (sz := 3) hq19 (fun _ => rfl) 0 rfl (gd Ar3.zero (by omega))) (ws := [iv ((y0.getD i Ar3.zero).b)]) 1 1 rfl) rfl) ?_
    refine dp 2 9 [(46, bv (decide (a.m = (y0.getD i Ar3.zero).b)))] (by kernel_rfl) ?_
    refine dor 8 1 46 54 ((decide (a.m = 3)) && (decide ((i : Int) = 0))) rfl (by kernel_rfl) (fun g20 => ?_) ?_
    ·have g20p : ¬ (a.m = (y0.getD i Ar3.zero).b) := by simpa using g20
     refine dp 1 7 [(47, pt b1 2)] (by kernel_rfl) ?_
     refine dd rfl (det_own_one (v := iv a.m) ty3 rfl rfl 1 rfl rfl) ?_
     refine dp 2 4 [(50, bv (decide (a.m = 3)))] (by kernel_rfl) ?_
     refine dand 3 1 50 53 (decide ((i : Int) = 0)) rfl (by kernel_rfl) (fun g21 => ?_) ?_
     ·have g21p : a.m = 3 := by simpa using g21
      refine dp 3 0 [(53, bv (decide ((i : Int) = 0)))] (by kernel_rfl) ?_
      exact JD_end (armD 2 50 53 g21 rfl rfl rfl rfl rfl)
     refine dp 1 0 [(54, bv ((decide (a.m = 3)) && (decide ((i : Int) = 0))))] (by kernel_rfl) ?_
     exact JD_end (armD 6 46 54 g20 rfl rfl rfl rfl rfl)
    refine dp 1 0 [(55, bv ((decide (a.m = (y0.getD i Ar3.zero).b)) || ((decide (a.m = 3)) && (decide ((i : Int) = 0)))))] (by kernel_rfl) ?_
    exact JD_end (armD 11 37 55 g17 rfl rfl rfl rfl rfl)
   refine de ?_
   refine J_if rfl (fun h22 => ?_) (fun h22 => ?_)
   ·have h22p : (a.n = 2) ∧ ((a.m = (y0.getD i Ar3.zero).b) ∨ ((a.m = 3) ∧ ((i : Int) = 0))) := by simpa using h22
    replace hR := bt hR h22
    refine sr 8 rfl ?_
    refine ip 2 6 [(56, .slice q3 y0.length k4), (57, iv (i : Int))] (by kernel_rfl) ?_
    refine JI_base 0 rfl (by omega) fun a23 hq24 => ?_
    refine ix rfl (det_ixq slt272 rfl rfl hq24 rfl i rfl (by omega)) ?_
    refine ix rfl (det_ix_arr Tryz.underlying189 ty3 rfl rfl rfl 2 rfl (by decide)) ?_
    refine ix rfl (det_ld_one (v := iv ((y0.getD i Ar3.zero).c)) (us := [iv ((y0.getD i Ar3.zero).c)]) ty3 rfl rfl (at_part (at_slq (c := cAr3) (sz := 3) hq24 (fun _ => rfl) 0 rfl (gd Ar3.zero (by omega))) (ws := [iv ((y0.getD i Ar3.zero).c)]) 2 1 rfl) rfl) ?_
    refine it rfl (tri_buildSl (c := cInt) (xs := ([(y0.getD i Ar3.zero).c] : List Int)) slt168 rfl rfl rfl (by kernel_rfl)) fun b25 => ?_
    have : ([(y0.getD i Ar3.zero).c] : List Int).length = 1 := rfl
    refine ix rfl (det_build (cs := [.slice (some ⟨b25, 0, none⟩) 1 1]) rfl rfl (by kernel_rfl)) ?_
    refine it rfl (tri_store (us := [.slice (some ⟨b25, 0, none⟩) 1 1]) (cs' := [.slice (some ⟨b25, 0, none⟩) 1 1]) ty217 rfl rfl rfl 0 rfl rfl rfl rfl rfl rfl) fun _ => ?_
    refine ie ?_
    refine J_ret ?_
    subst hR
    exact ends_ret rfl ⟨hr, hD⟩ (by simp [hD]) (res1 rfl (resV_cell (us := [.slice (some ⟨b25, 0, none⟩) 1 1]) ty217 rfl 0 rfl rfl rfl)) ⟨(some ⟨b25, 0, none⟩, 1), (by first | omega | (simp <;> omega) | (dsimp only; omega) | decide), (by first | omega | (simp <;> omega) | (dsimp only; omega) | decide)⟩ (by rfl) (mk [false, false] rfl) (Foll.con1 (at_of 0 rfl) Foll.nil)
   ·have h22p : ¬ ((a.n = 2) ∧ ((a.m = (y0.getD i Ar3.zero).b) ∨ ((a.m = 3) ∧ ((i : Int) = 0)))) := by simpa using h22
    replace hR := bf hR h22
    refine J_skip ?_
    refine nx ?_
    refine J_region 3 rfl ?_
    refine ip 1 2 [(12, iv (i : Int))] (by kernel_rfl) ?_
    refine ix rfl (det_add64 rfl rfl rfl rfl (by omega)) ?_
    refine ip 1 0 [(4, iv ((i : Int) + 1))] (by kernel_rfl) ?_
    refine JI_end ?_
    exact againL1 (z1 := i) (i + 1) ⟨(by omega), hR⟩ (by (try dsimp only); omega) ⟨rfl, rfl, rfl, (by first | rfl | (simp only [List.length_set]; rfl) | (simp; done) | (simp; omega)), trivial⟩ (mk [true, true] rfl) Foll.refl
 ·have h9p : ¬ ((i : Int) < (y0.length : Int)) := by simpa using h9
  rw [dropn h9p] at hR; replace hR := (ref09_Param_l0.eq_1 ..).symm.trans hR
  refine J_exit ?_
  refine nx ?_
  refine sr 4 rfl ?_
  refine ip 1 3 [(63, pt b1 3)] (by kernel_rfl) ?_
  refine ix rfl (det_own_agg (us := cCol a.color) ty24 rfl rfl 1 rfl rfl rfl) ?_
  refine it rfl (tri_alloc (cs := cCol Col.zero) zero24 rfl) fun b26 => ?_
  refine it rfl (tri_store (us := cCol a.color) (cs' := cCol a.color) ty24 rfl rfl rfl 0 rfl rfl rfl rfl rfl rfl) fun _ => ?_
  refine ie ?_
  refine sr 6 rfl ?_
  refine ip 1 5 [(65, pt b1 1)] (by kernel_rfl) ?_
  refine ix rfl (det_own_one (v := iv a.n) ty3 rfl rfl 2 rfl rfl) ?_
  refine ix rfl (DetR.pure rfl) ?_
  refine ix rfl (DetR.pure rfl) ?_
  refine ix rfl (DetR.pure rfl) ?_
  refine ip 1 0 [(6, iv (IntKind.i64.wrap ((38 : Int) + (IntKind.i64.wrap ((10 : Int) * (IntKind.i64.wrap (a.n - (4 : Int))))))))] (by kernel_rfl) ?_
  refine ie ?_
  refine J_seq ?_
  refine J_block ?_
  refine sr 4 rfl ?_
  refine ip 1 3 [(71, pt b1 1)] (by kernel_rfl) ?_
  refine ix rfl (det_own_one (v := iv a.n) ty3 rfl rfl 2 rfl rfl) ?_
  refine ip 2 0 [(70, bv (decide (a.n = 0)))] (by kernel_rfl) ?_
  refine ie ?_
  refine J_if rfl (fun h27 => ?_) (fun h27 => ?_)
  ·have h27p : a.n = 0 := by simpa using h27
   replace hR := bt hR h27
   refine sr 3 rfl ?_
   refine it rfl (tri_buildSl (c := cInt) (xs := ([0] : List Int)) slt168 rfl rfl rfl (by kernel_rfl)) fun b28 => ?_
   have : ([0] : List Int).length = 1 := rfl
   refine ix rfl (det_build (cs := [.slice (some ⟨b28, 0, none⟩) 1 1]) rfl rfl (by kernel_rfl)) ?_
   refine it rfl (tri_store (us := [.slice (some ⟨b28, 0, none⟩) 1 1]) (cs' := [.slice (some ⟨b28, 0, none⟩) 1 1]) ty217 rfl rfl rfl 1 rfl rfl rfl rfl rfl rfl) fun _ => ?_
   refine ie ?_
   refine J_ret ?_
   subst hR
   exact ends_ret rfl ⟨hr, hD⟩ (by simp [hD]) (res1 rfl (resV_cell (us := [.slice (some ⟨b28, 0, none⟩) 1 1]) ty217 rfl 1 rfl rfl rfl)) ⟨(some ⟨b28, 0, none⟩, 1), (by first | omega | (simp <;> omega) | (dsimp only; omega) | decide), (by first | omega | (simp <;> omega) | (dsimp only; omega) | decide)⟩ (by rfl) (mk [false, false, false] rfl) (Foll.con1 (at_of 0 rfl) Foll.nil)
  ·have h27p : ¬ (a.n = 0) := by simpa using h27
   replace hR := bf hR h27
   refine sr 9 rfl ?_
   refine ip 1 8 [(77, pt b1 1)] (by kernel_rfl) ?_
   refine ix rfl (det_own_one (v := iv a.n) ty3 rfl rfl 2 rfl rfl) ?_
   refine ip 2 5 [(80, bv (decide (a.n = 3)))] (by kernel_rfl) ?_
   refine iand 4 1 80 84 (decide (a.m = 1)) rfl (by kernel_rfl) (fun g29 => ?_) ?_
   ·have g29p : a.n = 3 := by simpa using g29
    refine ip 1 3 [(81, pt b1 2)] (by kernel_rfl) ?_
    refine ix rfl (det_own_one (v := iv a.m) ty3 rfl rfl 2 rfl rfl) ?_
    refine ip 2 0 [(84, bv (decide (a.m = 1)))] (by kernel_rfl) ?_
    exact JI_end (armI 4 80 84 g29 Foll.refl (mk [true, true, true] rfl) rfl rfl rfl rfl rfl)
   refine ip 1 0 [(76, bv ((decide (a.n = 3)) && (decide (a.m = 1))))] (by kernel_rfl) ?_
   refine ie ?_
   refine J_if rfl (fun h30 => ?_) (fun h30 => ?_)
   ·have h30p : (a.n = 3) ∧ (a.m = 1) := by simpa using h30
    replace hR := bt hR h30
    refine sr 3 rfl ?_
    refine it rfl (tri_buildSl (c := cInt) (xs := ([4] : List Int)) slt168 rfl rfl rfl (by kernel_rfl)) fun b31 => ?_
    have : ([4] : List Int).length = 1 := rfl
    refine ix rfl (det_build (cs := [.slice (some ⟨b31, 0, none⟩) 1 1]) rfl rfl (by kernel_rfl)) ?_
    refine it rfl (tri_store (us := [.slice (some ⟨b31, 0, none⟩) 1 1]) (cs' := [.slice (some ⟨b31, 0, none⟩) 1 1]) ty217 rfl rfl rfl 1 rfl rfl rfl rfl rfl rfl) fun _ => ?_
    refine ie ?_
    refine J_ret ?_
    subst hR
    exact ends_ret rfl ⟨hr, hD⟩ (by simp [hD]) (res1 rfl (resV_cell (us := [.slice (some ⟨b31, 0, none⟩) 1 1]) ty217 rfl 1 rfl rfl rfl)) ⟨(some ⟨b31, 0, none⟩, 1), (by first | omega | (simp <;> omega) | (dsimp only; omega) | decide), (by first | omega | (simp <;> omega) | (dsimp only; omega) | decide)⟩ (by rfl) (mk [false, false, false] rfl) (Foll.con1 (at_of 0 rfl) Foll.nil)
   ·have h30p : ¬ ((a.n = 3) ∧ (a.m = 1)) := by simpa using h30
    replace hR := bf hR h30
    refine sr 9 rfl ?_
    refine ip 1 8 [(88, pt b1 1)] (by kernel_rfl) ?_
    refine ix rfl (det_own_one (v := iv a.n) ty3 rfl rfl 2 rfl rfl) ?_
    refine ip 2 5 [(91, bv (decide (a.n = 3)))] (by kernel_rfl) ?_
    refine iand 4 1 91 95 (decide (a.m = 0)) rfl (by kernel_rfl) (fun g32 => ?_) ?_
    ·have g32p : a.n = 3 := by simpa using g32
     refine ip 1 3 [(92, pt b1 2)] (by kernel_rfl) ?_
     refine ix rfl (det_own_one (v := iv a.m) ty3 rfl rfl 2 rfl rfl) ?_
     refine ip 2 0 [(95, bv (decide (a.m = 0)))] (by kernel_rfl) ?_
     exact JI_end (armI 4 91 95 g32 Foll.refl (mk [true, true, true] rfl) rfl rfl rfl rfl rfl)
    refine ip 1 0 [(87, bv ((decide (a.n = 3)) && (decide (a.m = 0))))] (by kernel_rfl) ?_
    refine ie ?_
    refine J_if rfl (fun h33 => ?_) (fun h33 => ?_)
    ·have h33p : (a.n = 3) ∧ (a.m = 0) := by simpa using h33
     replace hR := bt hR h33
     refine sr 3 rfl ?_
     refine it rfl (tri_buildSl (c := cInt) (xs := ([24] : List Int)) slt168 rfl rfl rfl (by kernel_rfl)) fun b34 => ?_
     have : ([24] : List Int).length = 1 := rfl
     refine ix rfl (det_build (cs := [.slice (some ⟨b34, 0, none⟩) 1 1]) rfl rfl (by kernel_rfl)) ?_
     refine it rfl (tri_store (us := [.slice (some ⟨b34, 0, none⟩) 1 1]) (cs' := [.slice (some ⟨b34, 0, none⟩) 1 1]) ty217 rfl rfl rfl 1 rfl rfl rfl rfl rfl rfl) fun _ => ?_
     refine ie ?_
     refine J_ret ?_
     subst hR
     exact ends_ret rfl ⟨hr, hD⟩ (by simp [hD]) (res1 rfl (resV_cell (us := [.slice (some ⟨b34, 0, none⟩) 1 1]) ty217 rfl 1 rfl rfl rfl)) ⟨(some ⟨b34, 0, none⟩, 1), (by first | omega | (simp <;> omega) | (dsimp only; omega) | decide), (by first | omega | (simp <;> omega) | (dsimp only; omega) | decide)⟩ (by rfl) (mk [false, false, false] rfl) (Foll.con1 (at_of 0 rfl) Foll.nil)
    ·have h33p : ¬ ((a.n = 3) ∧ (a.m = 0)) := by simpa using h33
     replace hR := bf hR h33
     refine sr 4 rfl ?_
     refine ip 1 3 [(99, pt b1 1)] (by kernel_rfl) ?_
     refine ix rfl (det_own_one (v := iv a.n) ty3 rfl rfl 2 rfl rfl) ?_
     refine ip 2 0 [(98, bv (decide (a.n = 3)))] (by kernel_rfl) ?_
     refine ie ?_
     refine J_if rfl (fun h35 => ?_) (fun h35 => ?_)
     ·have h35p : a.n = 3 := by simpa using h35
      replace hR := bt hR h35
      refine sr 5 rfl ?_
      refine ip 1 4 [(102, pt b1 2)] (by kernel_rfl) ?_
      refine ix rfl (det_own_one (v := iv a.m) ty3 rfl rfl 2 rfl rfl) ?_
      refine it rfl (tri_buildSl (c := cInt) (xs := ([4, a.m] : List Int)) slt168 rfl rfl rfl (by kernel_rfl)) fun b36 => ?_
      have : ([4, a.m] : List Int).length = 2 := rfl
      refine ix rfl (det_build (cs := [.slice (some ⟨b36, 0, none⟩) 2 2]) rfl rfl (by kernel_rfl)) ?_
      refine it rfl (tri_store (us := [.slice (some ⟨b36, 0, none⟩) 2 2]) (cs' := [.slice (some ⟨b36, 0, none⟩) 2 2]) ty217 rfl rfl rfl 1 rfl rfl rfl rfl rfl rfl) fun _ => ?_
      refine ie ?_
      refine J_ret ?_
      subst hR
      exact ends_ret rfl ⟨hr, hD⟩ (by simp [hD]) (res1 rfl (resV_cell (us := [.slice (some ⟨b36, 0, none⟩) 2 2]) ty217 rfl 1 rfl rfl rfl)) ⟨(some ⟨b36, 0, none⟩, 2), (by first | omega | (simp <;> omega) | (dsimp only; omega) | decide), (by first | omega | (simp <;> omega) | (dsimp only; omega) | decide)⟩ (by rfl) (mk [false, false, false] rfl) (Foll.con1 (at_of 0 rfl) Foll.nil)
     ·have h35p : ¬ (a.n = 3) := by simpa using h35
      replace hR := bf hR h35
      refine sr 4 rfl ?_
      refine ip 1 3 [(107, pt b26 0)] (by kernel_rfl) ?_
      refine ix rfl (det_own_one (v := iv a.color.kind) ty3 rfl rfl 0 rfl rfl) ?_
      refine ip 2 0 [(106, bv (decide (a.color.kind = 0)))] (by kernel_rfl) ?_
      refine ie ?_
      refine J_if rfl (fun h37 => ?_) (fun h37 => ?_)
      ·have h37p : a.color.kind = 0 := by simpa using h37
       replace hR := bt hR h37
       refine sr 5 rfl ?_
       refine ip 1 4 [(110, iv (IntKind.i64.wrap ((38 : Int) + (IntKind.i64.wrap ((10 : Int) * (IntKind.i64.wrap (a.n - (4 : Int))))))))] (by kernel_rfl) ?_
       refine ix rfl (DetR.pure rfl) ?_
       refine it rfl (tri_buildSl (c := cInt) (xs := ([(IntKind.i64.wrap ((IntKind.i64.wrap ((38 : Int) + (IntKind.i64.wrap ((10 : Int) * (IntKind.i64.wrap (a.n - (4 : Int))))))) + (1 : Int)))] : List Int)) slt168 rfl rfl rfl (by kernel_rfl)) fun b38 => ?_
       have : ([(IntKind.i64.wrap ((IntKind.i64.wrap ((38 : Int) + (IntKind.i64.wrap ((10 : Int) * (IntKind.i64.wrap (a.n - (4 : Int))))))) + (1 : Int)))] : List Int).length = 1 := rfl
       refine ix rfl (det_build (cs := [.slice (some ⟨b38, 0, none⟩) 1 1]) rfl rfl (by kernel_rfl)) ?_
       refine it rfl (tri_store (us := [.slice (some ⟨b38, 0, none⟩) 1 1]) (cs' := [.slice (some ⟨b38, 0, none⟩) 1 1]) ty217 rfl rfl rfl 1 rfl rfl rfl rfl rfl rfl) fun _ => ?_
       refine ie ?_
       refine J_ret ?_
       subst hR
       exact ends_ret rfl ⟨hr, hD⟩ (by simp [hD]) (res1 rfl (resV_cell (us := [.slice (some ⟨b38, 0, none⟩) 1 1]) ty217 rfl 1 rfl rfl rfl)) ⟨(some ⟨b38, 0, none⟩, 1), (by first | omega | (simp <;> omega) | (dsimp only; omega) | decide), (by first | omega | (simp <;> omega) | (dsimp only; omega) | decide)⟩ (by rfl) (mk [false, false, false] rfl) (Foll.con1 (at_of 0 rfl) Foll.nil)
      ·have h37p : ¬ (a.color.kind = 0) := by simpa using h37
       replace hR := bf hR h37
       refine sr 4 rfl ?_
       refine ip 1 3 [(115, pt b26 0)] (by kernel_rfl) ?_
       refine ix rfl (det_own_one (v := iv a.color.kind) ty3 rfl rfl 0 rfl rfl) ?_
       refine ip 2 0 [(114, bv (decide (a.color.kind = 2)))] (by kernel_rfl) ?_
       refine ie ?_
       refine J_if rfl (fun h39 => ?_) (fun h39 => ?_)
       ·have h39p : a.color.kind = 2 := by simpa using h39
        replace hR := bt hR h39
        refine sr 14 rfl ?_
        refine ip 2 12 [(118, iv (IntKind.i64.wrap ((38 : Int) + (IntKind.i64.wrap ((10 : Int) * (IntKind.i64.wrap (a.n - (4 : Int)))))))), (119, pt b26 1)] (by kernel_rfl) ?_
        refine ix rfl (det_own_one (v := iv a.color.n) ty3 rfl rfl 0 rfl rfl) ?_
        refine ix rfl (det_quow rfl rfl rfl (by decide)) ?_
        refine ip 1 9 [(122, pt b26 1)] (by kernel_rfl) ?_
        refine ix rfl (det_own_one (v := iv a.color.n) ty3 rfl rfl 0 rfl rfl) ?_
        refine ix rfl (det_quow rfl rfl rfl (by decide)) ?_
        refine ix rfl (det_rem rfl rfl rfl (by decide) rfl) ?_
        refine ip 1 5 [(126, pt b26 1)] (by kernel_rfl) ?_
        refine ix rfl (det_own_one (v := iv a.color.n) ty3 rfl rfl 0 rfl rfl) ?_
        refine ix rfl (det_rem rfl rfl rfl (by decide) rfl) ?_
        refine it rfl (tri_buildSl (c := cInt) (xs := ([(IntKind.i64.wrap ((38 : Int) + (IntKind.i64.wrap ((10 : Int) * (IntKind.i64.wrap (a.n - (4 : Int))))))), 2, (-1), (IntKind.i64.wrap (Int.tdiv a.color.n 65536)), (Int.tmod (IntKind.i64.wrap (Int.tdiv a.color.n 256)) 256), (Int.tmod a.color.n 256)] : List Int)) slt168 rfl rfl rfl (by kernel_rfl)) fun b40 => ?_
        have : ([(IntKind.i64.wrap ((38 : Int) + (IntKind.i64.wrap ((10 : Int) * (IntKind.i64.wrap (a.n - (4 : Int))))))), 2, (-1), (IntKind.i64.wrap (Int.tdiv a.color.n 65536)), (Int.tmod (IntKind.i64.wrap (Int.tdiv a.color.n 256)) 256), (Int.tmod a.color.n 256)] : List Int).length = 6 := rfl
        refine ix rfl (det_build (cs := [.slice (some ⟨b40, 0, none⟩) 6 6]) rfl rfl (by kernel_rfl)) ?_
        refine it rfl (tri_store (us := [.slice (some ⟨b40, 0, none⟩) 6 6]) (cs' := [.slice (some ⟨b40, 0, none⟩) 6 6]) ty217 rfl rfl rfl 1 rfl rfl rfl rfl rfl rfl) fun _ => ?_
        refine ie ?_
        refine J_ret ?_
        subst hR
        exact ends_ret rfl ⟨hr, hD⟩ (by simp [hD]) (res1 rfl (resV_cell (us := [.slice (some ⟨b40, 0, none⟩) 6 6]) ty217 rfl 1 rfl rfl rfl)) ⟨(some ⟨b40, 0, none⟩, 6), (by first | omega | (simp <;> omega) | (dsimp only; omega) | decide), (by first | omega | (simp <;> omega) | (dsimp only; omega) | decide)⟩ (by rfl) (mk [false, false, false] rfl) (Foll.con1 (at_of 0 rfl) Foll.nil)
       ·have h39p : ¬ (a.color.kind = 2) := by simpa using h39
        replace hR := bf hR h39
        refine sr 9 rfl ?_
        refine ip 1 8 [(132, pt b1 1)] (by kernel_rfl) ?_
        refine ix rfl (det_own_one (v := iv a.n) ty3 rfl rfl 2 rfl rfl) ?_
        refine ip 2 5 [(135, bv (!decide (a.n = 6)))] (by kernel_rfl) ?_
        refine iand 4 1 135 139 (decide (a.color.n < 8)) rfl (by kernel_rfl) (fun g41 => ?_) ?_
        ·have g41p : ¬ a.n = 6 := by simpa using g41
         refine ip 1 3 [(136, pt b26 1)] (by kernel_rfl) ?_
         refine ix rfl (det_own_one (v := iv a.color.n) ty3 rfl rfl 0 rfl rfl) ?_
         refine ip 2 0 [(139, bv (decide (a.color.n < 8)))] (by kernel_rfl) ?_
         exact JI_end (armI 4 135 139 g41 Foll.refl (mk [true, true, true] rfl) rfl rfl rfl rfl rfl)
        refine ip 1 0 [(131, bv ((!decide (a.n = 6)) && (decide (a.color.n < 8))))] (by kernel_rfl) ?_
        refine ie ?_
        refine J_if rfl (fun h42 => ?_) (fun h42 => ?_)
        ·have h42p : (¬ a.n = 6) ∧ (a.color.n < 8) := by simpa using h42
         replace hR := bt hR h42
         refine sr 8 rfl ?_
         refine ip 1 7 [(140, iv (IntKind.i64.wrap ((38 : Int) + (IntKind.i64.wrap ((10 : Int) * (IntKind.i64.wrap (a.n - (4 : Int))))))))] (by kernel_rfl) ?_
         refine ix rfl (DetR.pure rfl) ?_
         refine ip 1 5 [(142, pt b26 1)] (by kernel_rfl) ?_
         refine ix rfl (det_own_one (v := iv a.color.n) ty3 rfl rfl 0 rfl rfl) ?_
         refine ix rfl (DetR.pure rfl) ?_
         refine it rfl (tri_buildSl (c := cInt) (xs := ([(IntKind.i64.wrap ((IntKind.i64.wrap ((IntKind.i64.wrap ((38 : Int) + (IntKind.i64.wrap ((10 : Int) * (IntKind.i64.wrap (a.n - (4 : Int))))))) - (8 : Int))) + a.color.n))] : List Int)) slt168 rfl rfl rfl (by kernel_rfl)) fun b43 => ?_
         have : ([(IntKind.i64.wrap ((IntKind.i64.wrap ((IntKind.i64.wrap ((38 : Int) + (IntKind.i64.wrap ((10 : Int) * (IntKind.i64.wrap (a.n - (4 : Int))))))) - (8 : Int))) + a.color.n))] : List Int).length = 1 := rfl
         refine ix rfl (det_build (cs := [.slice (some ⟨b43, 0, none⟩) 1 1]) rfl rfl (by kernel_rfl)) ?_
         refine it rfl (tri_store (us := [.slice (some ⟨b43, 0, none⟩) 1 1]) (cs' := [.slice (some ⟨b43, 0, none⟩) 1 1]) ty217 rfl rfl rfl 1 rfl rfl rfl rfl rfl rfl) fun _ => ?_
         refine ie ?_
         refine J_ret ?_
         subst hR
         exact ends_ret rfl ⟨hr, hD⟩ (by simp [hD]) (res1 rfl (resV_cell (us := [.slice (some ⟨b43, 0, none⟩) 1 1]) ty217 rfl 1 rfl rfl rfl)) ⟨(some ⟨b43, 0, none⟩, 1), (by first | omega | (simp <;> omega) | (dsimp only; omega) | decide), (by first | omega | (simp <;> omega) | (dsimp only; omega) | decide)⟩ (by rfl) (mk [false, false, false] rfl) (Foll.con1 (at_of 0 rfl) Foll.nil)
        ·have h42p : ¬ ((¬ a.n = 6) ∧ (a.color.n < 8)) := by simpa using h42
         replace hR := bf hR h42
         refine sr 9 rfl ?_
         refine ip 1 8 [(148, pt b1 1)] (by kernel_rfl) ?_
         refine ix rfl (det_own_one (v := iv a.n) ty3 rfl rfl 2 rfl rfl) ?_
         refine ip 2 5 [(151, bv (!decide (a.n = 6)))] (by kernel_rfl) ?_
         refine iand 4 1 151 155 (decide (a.color.n < 16)) rfl (by kernel_rfl) (fun g44 => ?_) ?_
         ·have g44p : ¬ a.n = 6 := by simpa using g44
          refine ip 1 3 [(152, pt b26 1)] (by kernel_rfl) ?_
          refine ix rfl (det_own_one (v := iv a.color.n) ty3 rfl rfl 0 rfl rfl) ?_
          refine ip 2 0 [(155, bv (decide (a.color.n < 16)))] (by kernel_rfl) ?_
          exact JI_end (armI 4 151 155 g44 Foll.refl (mk [true, true, true] rfl) rfl rfl rfl rfl rfl)
         refine ip 1 0 [(147, bv ((!decide (a.n = 6)) && (decide (a.color.n < 16))))] (by kernel_rfl) ?_
         refine ie ?_
         refine J_if rfl (fun h45 => ?_) (fun h45 => ?_)
         ·have h45p : (¬ a.n = 6) ∧ (a.color.n < 16) := by simpa using h45
          replace hR := bt hR h45
          refine sr 8 rfl ?_
          refine ip 1 7 [(156, iv (IntKind.i64.wrap ((38 : Int) + (IntKind.i64.wrap ((10 : Int) * (IntKind.i64.wrap (a.n - (4 : Int))))))))] (by kernel_rfl) ?_
          refine ix rfl (DetR.pure rfl) ?_
          refine ip 1 5 [(158, pt b26 1)] (by kernel_rfl) ?_
          refine ix rfl (det_own_one (v := iv a.color.n) ty3 rfl rfl 0 rfl rfl) ?_
          refine ix rfl (DetR.pure rfl) ?_
          refine it rfl (tri_buildSl (c := cInt) (xs := ([(IntKind.i64.wrap ((IntKind.i64.wrap ((IntKind.i64.wrap ((38 : Int) + (IntKind.i64.wrap ((10 : Int) * (IntKind.i64.wrap (a.n - (4 : Int))))))) + (44 : Int))) + a.color.n))] : List Int)) slt168 rfl rfl rfl (by kernel_rfl)) fun b46 => ?_
          have : ([(IntKind.i64.wrap ((IntKind.i64.wrap ((IntKind.i64.wrap ((38 : Int) + (IntKind.i64.wrap ((10 : Int) * (IntKind.i64.wrap (a.n - (4 : Int))))))) + (44 : Int))) + a.color.n))] : List Int).length = 1 := rfl
          refine ix rfl (det_build (cs := [.slice (some ⟨b46, 0, none⟩) 1 1]) rfl rfl (by kernel_rfl)) ?_
          refine it rfl (tri_store (us := [.slice (some ⟨b46, 0, none⟩) 1 1]) (cs' := [.slice (some ⟨b46, 0, none⟩) 1 1]) ty217 rfl rfl rfl 1 rfl rfl rfl rfl rfl rfl) fun _ => ?_
          refine ie ?_
          refine J_ret ?_
          subst hR
          exact ends_ret rfl ⟨hr, hD⟩ (by simp [hD]) (res1 rfl (resV_cell (us := [.slice (some ⟨b46, 0, none⟩) 1 1]) ty217 rfl 1 rfl rfl rfl)) ⟨(some ⟨b46, 0, none⟩, 1), (by first | omega | (simp <;> omega) | (dsimp only; omega) | decide), (by first | omega | (simp <;> omega) | (dsimp only; omega) | decide)⟩ (by rfl) (mk [false, false, false] rfl) (Foll.con1 (at_of 0 rfl) Foll.nil)
         ·have h45p : ¬ ((¬ a.n = 6) ∧ (a.color.n < 16)) := by simpa using h45
          replace hR := bf hR h45
          refine J_skip ?_
          refine nx ?_
          refine sr 6 rfl ?_
          refine ip 2 4 [(163, iv (IntKind.i64.wrap ((38 : Int) + (IntKind.i64.wrap ((10 : Int) * (IntKind.i64.wrap (a.n - (4 : Int)))))))), (164, pt b26 1)] (by kernel_rfl) ?_
          refine ix rfl (det_own_one (v := iv a.color.n) ty3 rfl rfl 0 rfl rfl) ?_
          refine it rfl (tri_buildSl (c := cInt) (xs := ([(IntKind.i64.wrap ((38 : Int) + (IntKind.i64.wrap ((10 : Int) * (IntKind.i64.wrap (a.n - (4 : Int))))))), 5, a.color.n] : List Int)) slt168 rfl rfl rfl (by kernel_rfl)) fun b47 => ?_
          have : ([(IntKind.i64.wrap ((38 : Int) + (IntKind.i64.wrap ((10 : Int) * (IntKind.i64.wrap (a.n - (4 : Int))))))), 5, a.color.n] : List Int).length = 3 := rfl
          refine ix rfl (det_build (cs := [.slice (some ⟨b47, 0, none⟩) 3 3]) rfl rfl (by kernel_rfl)) ?_
          refine it rfl (tri_store (us := [.slice (some ⟨b47, 0, none⟩) 3 3]) (cs' := [.slice (some ⟨b47, 0, none⟩) 3 3]) ty217 rfl rfl rfl 1 rfl rfl rfl rfl rfl rfl) fun _ => ?_
          refine ie ?_
          refine J_ret ?_
          subst hR
          exact ends_ret rfl ⟨hr, hD⟩ (by simp [hD]) (res1 rfl (resV_cell (us := [.slice (some ⟨b47, 0, none⟩) 3 3]) ty217 rfl 1 rfl rfl rfl)) ⟨(some ⟨b47, 0, none⟩, 3), (by first | omega | (simp <;> omega) | (dsimp only; omega) | decide), (by first | omega | (simp <;> omega) | (dsimp only; omega) | decide)⟩ (by rfl) (mk [false, false, false] rfl) (Foll.con1 (at_of 0 rfl) Foll.nil)

def ref09_Params_l0 (l : List Act) : List Act → List (List Int) → Nat → (List (List Int) × Int)
 | [], out, i => (bif (decide ((16 : Int) < (l.length : Int))) then (([] : List (List Int)), 3) else (out, 0))
 | hd_l0 :: tl_l0, out, i => (bif (!decide ((ref04_CheckPen hd_l0) = 0)) then (([] : List (List Int)), 141) else (bindV (ref09_Param hd_l0) fun (y1 : List Int) => ref09_Params_l0 l tl_l0 (out ++ ([y1] : List (List Int))) (i + 1)))
def ref09_Params (l : List Act) : List (List Int) × Int :=
 ref09_Params_l0 l l ([] : List (List Int)) 0

theorem ref09_Params_c (l : List Act) (lq : Option Addr) (lk : Nat) (hll : l.length ≤ 9223372036854775807) (hcl : l.length ≤ lk) (hlen : l.length ≤ 2000) (R : List (List Int) × Int) (hR : ref09_Params l = R) : Con Tryz.prog 116 [.slice lq l.length lk] [] [sl cAct lq l] ({t : VR × List Slc // VOk 1 R.1.length t.1 ∧ RowsOk t.2 R.1}) (fun x => .tuple #[.slice (va x.1.1.q) R.1.length x.1.1.k, iv R.2]) (fun x => ((vo cSlc 217 x.1.1 x.1.2) ++ ([]))) (fun x => [rowsF cInt x.1.2 R.1]) := by
 refine con_of_J (n := 30) Tryz.func116 rfl (by kernel_rfl) rfl rfl [(0, .slice lq l.length lk)] ⟨rfl, trivial⟩ fun X hX hr hD => ?_
 replace hR := (ref09_Params.eq_1 ..).symm.trans hR
 refine sr 2 rfl ?_
 refine ip 2 0 [] (by kernel_rfl) ?_
 refine ie ?_
 refine sr 1 rfl ?_
 refine ip 1 0 [(4, .slice none 0 0)] (by kernel_rfl) ?_
 refine ie ?_
 refine J_seq ?_
 refine sr 1 rfl ?_
 refine ip 1 0 [(5, iv 0)] (by kernel_rfl) ?_
 refine ie ?_
 refine J_block ?_
 refine JL4 (fun (out : List (List Int)) (outr : VR) (outrs : List Slc) (i : Nat) => i ≤ l.length ∧ ref09_Params_l0 l (l.drop i) out i = R ∧ VOk 1 out.length outr ∧ RowsOk outrs out ∧ out.length ≤ i) (fun (out : List (List Int)) (outr : VR) (outrs : List Slc) (i : Nat) => [(0, .slice lq l.length lk), (4, .slice (va outr.q) out.length outr.k), (5, iv (i : Int))]) (fun (out : List (List Int)) (outr : VR) (outrs : List Slc) (i : Nat) => ((vo cSlc 217 outr outrs) ++ ([]))) (fun (out : List (List Int)) (outr : VR) (outrs : List Slc) (i : Nat) => [sl cAct lq l, rowsF cInt outrs out]) (fun (out : List (List Int)) (outr : VR) (outrs : List Slc) (i : Nat) => l.length - i) ([] : List (List Int)) VR.nil ([] : List Slc) 0 ⟨(by omega), hR, VOk.nil, RowsOk.none, (by simp)⟩ ⟨rfl, (by first | rfl | (simp only [List.length_set]; rfl) | (simp; done) | (simp; omega)), (by first | rfl | (simp only [List.length_set]; rfl) | (simp; done) | (simp; omega)), trivial⟩ (mc [vo cSlc 217 VR.nil ([] : List Slc)] [true] rfl (by first | rfl | (simp only [List.length_set] <;> rfl))) (Foll.con1 (at_of 0 rfl) (Foll.con1 rows_none Foll.nil)) ?_
 rintro out outr outrs i ⟨hm1, hR, hokoutr, hrowsoutrs, ho⟩
 have := VOk.le hokoutr
 have := hrowsoutrs.1
 refine J_seq ?_
 refine sr 4 rfl ?_
 refine ip 4 0 [(9, bv (decide ((i : Int) < (l.length : Int))))] (by kernel_rfl) ?_
 refine ie ?_
 refine J_if rfl (fun h2 => ?_) (fun h2 => ?_)
 ·have h2p : (i : Int) < (l.length : Int) := by simpa using h2
  rw [dropc Act.zero (show i < l.length by omega)] at hR; replace hR := (ref09_Params_l0.eq_2 ..).symm.trans hR
  refine J_skip ?_
  refine nx ?_
  refine J_seq ?_
  refine J_block ?_
  refine J_seq ?_
  refine sr 6 rfl ?_
  refine ip 2 4 [(12, .slice lq l.length lk), (13, iv (i : Int))] (by kernel_rfl) ?_
  refine JI_base 0 rfl (by omega) fun a3 hq4 => ?_
  refine ix rfl (det_ixq slt27 rfl rfl hq4 rfl i rfl (by omega)) ?_
  refine ix rfl (det_ld_agg (us := cAct (l.getD i Act.zero)) ty26 rfl rfl (at_slq (c := cAct) (sz := 6) hq4 (fun _ => rfl) 0 rfl (gd Act.zero (by omega))) rfl) ?_
  refine ixc rfl (det_call (ref04_CheckPen_c (l.getD i Act.zero) _ rfl) rfl rfl rfl rfl rfl Foll.nil) ?_
  refine ip 1 0 [(17, bv (!decide ((ref04_CheckPen (l.getD i Act.zero)) = 0)))] (by kernel_rfl) ?_
  refine ie ?_
  refine J_if rfl (fun h5 => ?_) (fun h5 => ?_)
  ·have h5p : ¬ (ref04_CheckPen (l.getD i Act.zero)) = 0 := by simpa using h5
   replace hR := bt hR h5
   refine sr 2 rfl ?_
   refine ip 2 0 [(2, .slice none 0 0), (3, iv 141)] (by kernel_rfl) ?_
   refine ie ?_
   refine J_ret ?_
   subst hR
   exact ends_ret rfl ⟨hr, hD⟩ (by simp [hD]) (res2 rfl (resV_tmp rfl) (resV_tmp rfl)) ⟨(VR.nil, ([] : List Slc)), ⟨VOk.nil, RowsOk.none⟩⟩ (by rfl) (mc [vo cSlc 217 outr outrs, vo cSlc 217 VR.nil ([] : List Slc)] [false, true] rfl (by first | rfl | (simp only [List.length_set] <;> rfl))) (Foll.con1 rows_none Foll.nil)
  ·have h5p : ¬ (¬ (ref04_CheckPen (l.getD i Act.zero)) = 0) := by simpa using h5
   replace hR := bf hR h5
   refine J_skip ?_
   refine nx ?_
   refine J_region 9 rfl ?_
   refine ip 3 6 [(18, .slice (va outr.q) out.length outr.k), (19, .slice lq l.length lk), (20, iv (i : Int))] (by kernel_rfl) ?_
   refine ix rfl (det_ixq slt27 rfl rfl hq4 rfl i rfl (by omega)) ?_
   refine ix rfl (det_ld_agg (us := cAct (l.getD i Act.zero)) ty26 rfl rfl (at_slq (c := cAct) (sz := 6) hq4 (fun _ => rfl) 0 rfl (gd Act.zero (by omega))) rfl) ?_
   have hQ := bindVx hR; clear hR; obtain ⟨y1, hy1, hR⟩ := hQ
   refine it rfl (tri_callN (L2 := ((vo cSlc 217 outr outrs) ++ ([]))) (ref09_Param_c (l.getD i Act.zero) y1 hy1) rfl rfl rfl rfl rfl Foll.nil (List.Perm.refl _) (fun ⟨⟨q6, k7⟩, hp8⟩ => ((vo cSlc 217 outr outrs) ++ ([]))) (fun _ => by first | rfl | simp only [List.append_nil, List.cons_append, List.nil_append, List.append_assoc])) fun ⟨⟨q6, k7⟩, hp8⟩ => ?_
   obtain ⟨hc9, hl10⟩ := hp8
   refine it rfl (tri_buildSl (c := cSlc) (xs := ([⟨q6, y1.length, k7⟩] : List Slc)) slt163 rfl rfl rfl (by kernel_rfl)) fun b11 => ?_
   have hrows12 : RowsOk ([⟨q6, y1.length, k7⟩] : List Slc) ([y1] : List (List Int)) := (RowsOk.cons ⟨rfl, (by first | omega | (simp <;> omega) | (dsimp only; omega) | decide), (by first | omega | (simp <;> omega) | (dsimp only; omega) | decide)⟩ RowsOk.none)
   refine JI_fact1 (q := rowsF cInt ([⟨q6, y1.length, k7⟩] : List Slc) ([y1] : List (List Int))) (rows_cons (at_of 1 rfl) rows_none) ?_
   have : ([⟨q6, y1.length, k7⟩] : List Slc).length = 1 := rfl
   have hw15 : RowsOk (outrs ++ ([⟨q6, y1.length, k7⟩] : List Slc)) (out ++ ([y1] : List (List Int))) := RowsOk.append hrowsoutrs hrows12
   refine it rfl (tri_app_rows (r := outr) (rs := outrs) (xss := out) (pre := []) (post := []) apt163 rfl rfl rfl rfl rfl rfl rfl rfl rfl (at_of 1 rfl) (at_of 4 rfl) (at_of 0 rfl) hrowsoutrs hrows12 hokoutr (by first | omega | (simp <;> omega)) (by first | omega | (simp <;> omega))) fun ⟨r13, hr14⟩ => ?_
   have := VOk.le hr14
   have := VOk.cap hr14
   refine ip 1 0 [(4, .slice (va r13.q) ((out ++ ([y1] : List (List Int))).length) r13.k)] (by kernel_rfl) ?_
   refine JI_end ?_
   refine nx ?_
   refine J_region 3 rfl ?_
   refine ip 1 2 [(10, iv (i : Int))] (by kernel_rfl) ?_
   refine ix rfl (det_add64 rfl rfl rfl rfl (by omega)) ?_
   refine ip 1 0 [(5, iv ((i : Int) + 1))] (by kernel_rfl) ?_
   refine JI_end ?_
   exact againL4 (z1 := out) (z2 := outr) (z3 := outrs) (z4 := i) (out ++ ([y1] : List (List Int))) r13 (outrs ++ ([⟨q6, y1.length, k7⟩] : List Slc)) (i + 1) ⟨(by omega), hR, hr14, hw15, (by first | omega | (simp <;> omega))⟩ (by (try dsimp only); omega) ⟨rfl, (by first | rfl | (simp only [List.length_set]; rfl) | (simp; done) | (simp; omega)), (by first | rfl | (simp only [List.length_set]; rfl) | (simp; done) | (simp; omega)), trivial⟩ (mc [vo cSlc 217 r13 (outrs ++ ([⟨q6, y1.length, k7⟩] : List Slc))] [true] rfl (by first | rfl | (simp only [List.length_set] <;> rfl))) (Foll.pick [4, 0] rfl)
 ·have h2p : ¬ ((i : Int) < (l.length : Int)) := by simpa using h2
  rw [dropn h2p] at hR; replace hR := (ref09_Params_l0.eq_1 ..).symm.trans hR
  refine J_exit ?_
  refine nx ?_
  refine J_seq ?_
  refine sr 3 rfl ?_
  refine ip 3 0 [(28, bv (decide ((16 : Int) < (l.length : Int))))] (by kernel_rfl) ?_
  refine ie ?_
  refine J_if rfl (fun h16 => ?_) (fun h16 => ?_)
  ·have h16p : (16 : Int) < (l.length : Int) := by simpa using h16
   replace hR := bt hR h16
   refine sr 2 rfl ?_
   refine ip 2 0 [(2, .slice none 0 0), (3, iv 3)] (by kernel_rfl) ?_
   refine ie ?_
   refine J_ret ?_
   subst hR
   exact ends_ret rfl ⟨hr, hD⟩ (by simp [hD]) (res2 rfl (resV_tmp rfl) (resV_tmp rfl)) ⟨(VR.nil, ([] : List Slc)), ⟨VOk.nil, RowsOk.none⟩⟩ (by rfl) (mc [vo cSlc 217 outr outrs, vo cSlc 217 VR.nil ([] : List Slc)] [false, true] rfl (by first | rfl | (simp only [List.length_set] <;> rfl))) (Foll.con1 rows_none Foll.nil)
  ·have h16p : ¬ ((16 : Int) < (l.length : Int)) := by simpa using h16
   replace hR := bf hR h16
   refine J_skip ?_
   refine nx ?_
   refine sr 3 rfl ?_
   refine ip 3 0 [(2, .slice (va outr.q) out.length outr.k), (3, iv 0)] (by kernel_rfl) ?_
   refine ie ?_
   refine J_ret ?_
   subst hR
   exact ends_ret rfl ⟨hr, hD⟩ (by simp [hD]) (res2 rfl (resV_tmp rfl) (resV_tmp rfl)) ⟨(outr, outrs), ⟨hokoutr, hrowsoutrs⟩⟩ (by rfl) (mc [vo cSlc 217 outr outrs] [true] rfl (by first | rfl | (simp only [List.length_set] <;> rfl))) (Foll.con1 (at_of 1 rfl) Foll.nil)

end Go.Proofs.YtinkdfnpmoljfaaGreatDoor

