import Derived.Test.YtinkdfnpmoljfaaGreatDoorD2
import Derived.Test.YtinkdfnpmoljfaaGreatDoorFenX
import Derived.Test.YtinkdfnpmoljfaaGreatDoorProg
import Derived.Test.YtinkdfnpmoljfaaGreatDoorT4a
import Derived.Test.YtinkdfnpmoljfaaGreatDoorT4b
import Derived.Test.YtinkdfnpmoljfaaGreatDoorT5
import Derived.Test.YtinkdfnpmoljfaaGreatDoorT6
import Derived.Test.YtinkdfnpmoljfaaGreatDoorT7
import Derived.Test.YtinkdfnpmoljfaaGreatDoorT8
set_option linter.unusedVariables false
set_option linter.unusedSimpArgs false
set_option linter.unnecessarySimpa false
set_option maxRecDepth 100000
namespace Go.Proofs.YtinkdfnpmoljfaaGreatDoor
open Go Go.Fen
theorem ty103 : Ty Tryz.prog 103 5 true := ⟨by kernel_rfl⟩
theorem zero5 : Zero Tryz.prog 5 [.int .u8 0] := ⟨by kernel_rfl⟩
theorem zero103 : Zero Tryz.prog 103 [iv 0, iv 0, iv 0, iv 0, iv 0] := ⟨by kernel_rfl⟩
def ref01_span : Int × Int × Int :=
 (0, 0, 0)

theorem ref01_span_le : 0 ≤ (ref01_span).2.2 ∧ (ref01_span).2.2 ≤ 4 := by unfold ref01_span; decide

theorem ref01_span_c (R : Int × Int × Int) (hR : ref01_span = R) : ConV Tryz.prog 239 [.slice none 0 0] [] (.tuple #[iv R.1, iv R.2.1, iv R.2.2]) := by
 refine con_of_J (n := 67) Tryz.func239 rfl (by kernel_rfl) rfl rfl [(0, .slice none 0 0)] ⟨rfl, trivial⟩ fun X hX hr hD => ?_
 replace hR := (ref01_span.eq_1 ..).symm.trans hR
 refine sr 3 rfl ?_
 refine ip 3 0 [] (by kernel_rfl) ?_
 refine ie ?_
 refine J_seq ?_
 refine sr 3 rfl ?_
 refine ip 3 0 [(12, bv true)] (by kernel_rfl) ?_
 refine ie ?_
 refine J_yes rfl ?_
 refine sr 3 rfl ?_
 refine ip 3 0 [(2, iv 0), (3, iv 0), (4, iv 0)] (by kernel_rfl) ?_
 refine ie ?_
 refine J_ret ?_
 subst hR
 exact ends_ret rfl ⟨hr, hD⟩ (by simp [hD]) (res3 rfl (resV_tmp rfl) (resV_tmp rfl) (resV_tmp rfl)) () (by rfl) (mk [] rfl) Foll.nil

def ref01_goes : Bool × Bool :=
 (bindV ref01_span fun (y0 : Int × Int × Int) => (bif (decide (y0.2.2 = 0)) then (false, false) else (((decide ((if (([0, 0, 128, 2048, 65536] : List Int).getD ((y0.2.2).toNat) 0) > y0.1 then (([0, 0, 128, 2048, 65536] : List Int).getD ((y0.2.2).toNat) 0) else y0.1) ≤ (if (([0, 127, 2047, 65535, 1114111] : List Int).getD ((y0.2.2).toNat) 0) < y0.2.1 then (([0, 127, 2047, 65535, 1114111] : List Int).getD ((y0.2.2).toNat) 0) else y0.2.1))) && (!((decide ((55296 : Int) ≤ (if (([0, 0, 128, 2048, 65536] : List Int).getD ((y0.2.2).toNat) 0) > y0.1 then (([0, 0, 128, 2048, 65536] : List Int).getD ((y0.2.2).toNat) 0) else y0.1))) && (decide ((if (([0, 127, 2047, 65535, 1114111] : List Int).getD ((y0.2.2).toNat) 0) < y0.2.1 then (([0, 127, 2047, 65535, 1114111] : List Int).getD ((y0.2.2).toNat) 0) else y0.2.1) ≤ 57343))))), (((decide ((if (([0, 0, 128, 2048, 65536] : List Int).getD ((y0.2.2).toNat) 0) > y0.1 then (([0, 0, 128, 2048, 65536] : List Int).getD ((y0.2.2).toNat) 0) else y0.1) ≤ (if (([0, 127, 2047, 65535, 1114111] : List Int).getD ((y0.2.2).toNat) 0) < y0.2.1 then (([0, 127, 2047, 65535, 1114111] : List Int).getD ((y0.2.2).toNat) 0) else y0.2.1))) && (!((decide ((55296 : Int) ≤ (if (([0, 0, 128, 2048, 65536] : List Int).getD ((y0.2.2).toNat) 0) > y0.1 then (([0, 0, 128, 2048, 65536] : List Int).getD ((y0.2.2).toNat) 0) else y0.1))) && (decide ((if (([0, 127, 2047, 65535, 1114111] : List Int).getD ((y0.2.2).toNat) 0) < y0.2.1 then (([0, 127, 2047, 65535, 1114111] : List Int).getD ((y0.2.2).toNat) 0) else y0.2.1) ≤ 57343))))) && (decide ((0 : Int) = y0.2.2))))))

theorem ref01_goes_c (R : Bool × Bool) (hR : ref01_goes = R) : ConV Tryz.prog 238 [.slice none 0 0] [] (.tuple #[bv R.1, bv R.2]) := by
 refine con_of_J (n := 50) Tryz.func238 rfl (by kernel_rfl) rfl rfl [(0, .slice none 0 0)] ⟨rfl, trivial⟩ fun X hX hr hD => ?_
 replace hR := (ref01_goes.eq_1 ..).symm.trans hR
 refine sr 2 rfl ?_
 refine ip 2 0 [] (by kernel_rfl) ?_
 refine ie ?_
 refine sr 9 rfl ?_
 refine ip 1 8 [(11, .slice none 0 0)] (by kernel_rfl) ?_
 have hQ := bindVx hR; clear hR; obtain ⟨y0, hy0, hR⟩ := hQ
 refine ixc rfl (det_call (ref01_span_c y0 hy0) rfl rfl rfl rfl rfl Foll.nil) ?_
 have := ref01_span_le ; try rw [hy0] at this
 refine ip 7 0 [(4, iv y0.1), (5, iv y0.2.1), (6, iv y0.2.2)] (by kernel_rfl) ?_
 refine ie ?_
 refine J_seq ?_
 refine sr 2 rfl ?_
 refine ip 2 0 [(17, bv (decide (y0.2.2 = 0)))] (by kernel_rfl) ?_
 refine ie ?_
 refine J_if rfl (fun h1 => ?_) (fun h1 => ?_)
 ·have h1p : y0.2.2 = 0 := by simpa using h1
  replace hR := bt hR h1
  refine sr 2 rfl ?_
  refine ip 2 0 [(2, bv false), (3, bv false)] (by kernel_rfl) ?_
  refine ie ?_
  refine J_ret ?_
  subst hR
  exact ends_ret rfl ⟨hr, hD⟩ (by simp [hD]) (res2 rfl (resV_tmp rfl) (resV_tmp rfl)) () (by rfl) (mk [] rfl) Foll.nil
 ·have h1p : ¬ (y0.2.2 = 0) := by simpa using h1
  replace hR := bf hR h1
  refine J_skip ?_
  refine nx ?_
  refine sr 3 rfl ?_
  refine ix rfl (det_build (cs := [iv 0, iv 0, iv 128, iv 2048, iv 65536]) rfl rfl (by kernel_rfl)) ?_
  refine it rfl (tri_alloc (cs := [iv 0, iv 0, iv 0, iv 0, iv 0]) zero103 rfl) fun b2 => ?_
  refine it rfl (tri_store (us := [iv 0, iv 0, iv 128, iv 2048, iv 65536]) (cs' := [iv 0, iv 0, iv 128, iv 2048, iv 65536]) ty103 rfl rfl rfl 0 rfl rfl rfl rfl rfl rfl) fun _ => ?_
  refine ie ?_
  refine sr 3 rfl ?_
  refine ix rfl (det_build (cs := [iv 0, iv 127, iv 2047, iv 65535, iv 1114111]) rfl rfl (by kernel_rfl)) ?_
  refine it rfl (tri_alloc (cs := [iv 0, iv 0, iv 0, iv 0, iv 0]) zero103 rfl) fun b3 => ?_
  refine it rfl (tri_store (us := [iv 0, iv 127, iv 2047, iv 65535, iv 1114111]) (cs' := [iv 0, iv 127, iv 2047, iv 65535, iv 1114111]) ty103 rfl rfl rfl 0 rfl rfl rfl rfl rfl rfl) fun _ => ?_
  refine ie ?_
  refine sd 12 rfl (by kernel_rfl) rfl ?_
  refine dp 2 10 [(20, iv y0.1), (21, iv y0.2.2)] (by kernel_rfl) ?_
  refine dd rfl (det_ix_ownk Tryz.underlying103 ty3 rfl rfl rfl ((y0.2.2).toNat) (by omega) (by omega)) ?_
  refine dd rfl (det_vec_one (u := iv (([0, 0, 128, 2048, 65536] : List Int).getD ((y0.2.2).toNat) 0)) (c := cInt) (xs := ([0, 0, 128, 2048, 65536] : List Int)) (j := []) (sz := 1) ty3 (fun _ => rfl) rfl rfl 1 rfl ((y0.2.2).toNat) 0 rfl (gd 0 (by simp only [List.length_cons, List.length_nil]; omega)) rfl) ?_
  refine dp 3 5 [(24, iv (if (([0, 0, 128, 2048, 65536] : List Int).getD ((y0.2.2).toNat) 0) > y0.1 then (([0, 0, 128, 2048, 65536] : List Int).getD ((y0.2.2).toNat) 0) else y0.1)), (25, iv y0.2.1), (26, iv y0.2.2)] (by kernel_rfl) ?_
  have := mm_max y0.1 (([0, 0, 128, 2048, 65536] : List Int).getD ((y0.2.2).toNat) 0)
  refine dd rfl (det_ix_ownk Tryz.underlying103 ty3 rfl rfl rfl ((y0.2.2).toNat) (by omega) (by omega)) ?_
  refine dd rfl (det_vec_one (u := iv (([0, 127, 2047, 65535, 1114111] : List Int).getD ((y0.2.2).toNat) 0)) (c := cInt) (xs := ([0, 127, 2047, 65535, 1114111] : List Int)) (j := []) (sz := 1) ty3 (fun _ => rfl) rfl rfl 0 rfl ((y0.2.2).toNat) 0 rfl (gd 0 (by simp only [List.length_cons, List.length_nil]; omega)) rfl) ?_
  refine dp 3 0 [(4, iv (if (([0, 0, 128, 2048, 65536] : List Int).getD ((y0.2.2).toNat) 0) > y0.1 then (([0, 0, 128, 2048, 65536] : List Int).getD ((y0.2.2).toNat) 0) else y0.1)), (5, iv (if (([0, 127, 2047, 65535, 1114111] : List Int).getD ((y0.2.2).toNat) 0) < y0.2.1 then (([0, 127, 2047, 65535, 1114111] : List Int).getD ((y0.2.2).toNat) 0) else y0.2.1))] (by kernel_rfl) ?_
  have := mm_max y0.1 (([0, 0, 128, 2048, 65536] : List Int).getD ((y0.2.2).toNat) 0)
  have := mm_min y0.2.1 (([0, 127, 2047, 65535, 1114111] : List Int).getD ((y0.2.2).toNat) 0)
  refine de ?_
  refine sr 13 rfl ?_
  refine ip 4 9 [(33, bv (decide ((if (([0, 0, 128, 2048, 65536] : List Int).getD ((y0.2.2).toNat) 0) > y0.1 then (([0, 0, 128, 2048, 65536] : List Int).getD ((y0.2.2).toNat) 0) else y0.1) ≤ (if (([0, 127, 2047, 65535, 1114111] : List Int).getD ((y0.2.2).toNat) 0) < y0.2.1 then (([0, 127, 2047, 65535, 1114111] : List Int).getD ((y0.2.2).toNat) 0) else y0.2.1))))] (by kernel_rfl) ?_
  refine iand 8 1 33 41 (!((decide ((55296 : Int) ≤ (if (([0, 0, 128, 2048, 65536] : List Int).getD ((y0.2.2).toNat) 0) > y0.1 then (([0, 0, 128, 2048, 65536] : List Int).getD ((y0.2.2).toNat) 0) else y0.1))) && (decide ((if (([0, 127, 2047, 65535, 1114111] : List Int).getD ((y0.2.2).toNat) 0) < y0.2.1 then (([0, 127, 2047, 65535, 1114111] : List Int).getD ((y0.2.2).toNat) 0) else y0.2.1) ≤ 57343)))) rfl (by kernel_rfl) (fun g4 => ?_) ?_
  ·have g4p : (if (([0, 0, 128, 2048, 65536] : List Int).getD ((y0.2.2).toNat) 0) > y0.1 then (([0, 0, 128, 2048, 65536] : List Int).getD ((y0.2.2).toNat) 0) else y0.1) ≤ (if (([0, 127, 2047, 65535, 1114111] : List Int).getD ((y0.2.2).toNat) 0) < y0.2.1 then (([0, 127, 2047, 65535, 1114111] : List Int).getD ((y0.2.2).toNat) 0) else y0.2.1) := by first | exact of_decide_eq_true g4 | simpa only [Bool.and_eq_true, Bool.not_eq_true', Bool.and_eq_false_imp, decide_eq_true_eq, decide_eq_false_iff_not, not_and] using g4 | simpa using g4
   refine ip 3 5 [(36, bv (decide ((55296 : Int) ≤ (if (([0, 0, 128, 2048, 65536] : List Int).getD ((y0.2.2).toNat) 0) > y0.1 then (([0, 0, 128, 2048, 65536] : List Int).getD ((y0.2.2).toNat) 0) else y0.1))))] (by kernel_rfl) ?_
   refine iand 3 2 36 39 (decide ((if (([0, 127, 2047, 65535, 1114111] : List Int).getD ((y0.2.2).toNat) 0) < y0.2.1 then (([0, 127, 2047, 65535, 1114111] : List Int).getD ((y0.2.2).toNat) 0) else y0.2.1) ≤ 57343)) rfl (by kernel_rfl) (fun g5 => ?_) ?_
   ·have g5p : (55296 : Int) ≤ (if (([0, 0, 128, 2048, 65536] : List Int).getD ((y0.2.2).toNat) 0) > y0.1 then (([0, 0, 128, 2048, 65536] : List Int).getD ((y0.2.2).toNat) 0) else y0.1) := by first | exact of_decide_eq_true g5 | simpa only [Bool.and_eq_true, Bool.not_eq_true', Bool.and_eq_false_imp, decide_eq_true_eq, decide_eq_false_iff_not, not_and] using g5 | simpa using g5
    refine ip 3 0 [(39, bv (decide ((if (([0, 127, 2047, 65535, 1114111] : List Int).getD ((y0.2.2).toNat) 0) < y0.2.1 then (([0, 127, 2047, 65535, 1114111] : List Int).getD ((y0.2.2).toNat) 0) else y0.2.1) ≤ 57343)))] (by kernel_rfl) ?_
    exact JI_end (armI 2 36 39 g5 Foll.nil (mk [true, true] rfl) rfl rfl rfl rfl rfl)
   refine ip 2 0 [(41, bv (!((decide ((55296 : Int) ≤ (if (([0, 0, 128, 2048, 65536] : List Int).getD ((y0.2.2).toNat) 0) > y0.1 then (([0, 0, 128, 2048, 65536] : List Int).getD ((y0.2.2).toNat) 0) else y0.1))) && (decide ((if (([0, 127, 2047, 65535, 1114111] : List Int).getD ((y0.2.2).toNat) 0) < y0.2.1 then (([0, 127, 2047, 65535, 1114111] : List Int).getD ((y0.2.2).toNat) 0) else y0.2.1) ≤ 57343)))))] (by kernel_rfl) ?_
   exact JI_end (armI 4 33 41 g4 Foll.nil (mk [true, true] rfl) rfl rfl rfl rfl rfl)
  refine ip 1 0 [(9, bv ((decide ((if (([0, 0, 128, 2048, 65536] : List Int).getD ((y0.2.2).toNat) 0) > y0.1 then (([0, 0, 128, 2048, 65536] : List Int).getD ((y0.2.2).toNat) 0) else y0.1) ≤ (if (([0, 127, 2047, 65535, 1114111] : List Int).getD ((y0.2.2).toNat) 0) < y0.2.1 then (([0, 127, 2047, 65535, 1114111] : List Int).getD ((y0.2.2).toNat) 0) else y0.2.1))) && (!((decide ((55296 : Int) ≤ (if (([0, 0, 128, 2048, 65536] : List Int).getD ((y0.2.2).toNat) 0) > y0.1 then (([0, 0, 128, 2048, 65536] : List Int).getD ((y0.2.2).toNat) 0) else y0.1))) && (decide ((if (([0, 127, 2047, 65535, 1114111] : List Int).getD ((y0.2.2).toNat) 0) < y0.2.1 then (([0, 127, 2047, 65535, 1114111] : List Int).getD ((y0.2.2).toNat) 0) else y0.2.1) ≤ 57343))))))] (by kernel_rfl) ?_
  refine ie ?_
  refine sr 10 rfl ?_
  refine ip 3 7 [(42, bv ((decide ((if (([0, 0, 128, 2048, 65536] : List Int).getD ((y0.2.2).toNat) 0) > y0.1 then (([0, 0, 128, 2048, 65536] : List Int).getD ((y0.2.2).toNat) 0) else y0.1) ≤ (if (([0, 127, 2047, 65535, 1114111] : List Int).getD ((y0.2.2).toNat) 0) < y0.2.1 then (([0, 127, 2047, 65535, 1114111] : List Int).getD ((y0.2.2).toNat) 0) else y0.2.1))) && (!((decide ((55296 : Int) ≤ (if (([0, 0, 128, 2048, 65536] : List Int).getD ((y0.2.2).toNat) 0) > y0.1 then (([0, 0, 128, 2048, 65536] : List Int).getD ((y0.2.2).toNat) 0) else y0.1))) && (decide ((if (([0, 127, 2047, 65535, 1114111] : List Int).getD ((y0.2.2).toNat) 0) < y0.2.1 then (([0, 127, 2047, 65535, 1114111] : List Int).getD ((y0.2.2).toNat) 0) else y0.2.1) ≤ 57343)))))), (44, bv ((decide ((if (([0, 0, 128, 2048, 65536] : List Int).getD ((y0.2.2).toNat) 0) > y0.1 then (([0, 0, 128, 2048, 65536] : List Int).getD ((y0.2.2).toNat) 0) else y0.1) ≤ (if (([0, 127, 2047, 65535, 1114111] : List Int).getD ((y0.2.2).toNat) 0) < y0.2.1 then (([0, 127, 2047, 65535, 1114111] : List Int).getD ((y0.2.2).toNat) 0) else y0.2.1))) && (!((decide ((55296 : Int) ≤ (if (([0, 0, 128, 2048, 65536] : List Int).getD ((y0.2.2).toNat) 0) > y0.1 then (([0, 0, 128, 2048, 65536] : List Int).getD ((y0.2.2).toNat) 0) else y0.1))) && (decide ((if (([0, 127, 2047, 65535, 1114111] : List Int).getD ((y0.2.2).toNat) 0) < y0.2.1 then (([0, 127, 2047, 65535, 1114111] : List Int).getD ((y0.2.2).toNat) 0) else y0.2.1) ≤ 57343))))))] (by kernel_rfl) ?_
  refine iand 5 2 44 49 (decide ((0 : Int) = y0.2.2)) rfl (by kernel_rfl) (fun g6 => ?_) ?_
  ·have g6p : ((if (([0, 0, 128, 2048, 65536] : List Int).getD ((y0.2.2).toNat) 0) > y0.1 then (([0, 0, 128, 2048, 65536] : List Int).getD ((y0.2.2).toNat) 0) else y0.1) ≤ (if (([0, 127, 2047, 65535, 1114111] : List Int).getD ((y0.2.2).toNat) 0) < y0.2.1 then (([0, 127, 2047, 65535, 1114111] : List Int).getD ((y0.2.2).toNat) 0) else y0.2.1)) ∧ (¬ (((55296 : Int) ≤ (if (([0, 0, 128, 2048, 65536] : List Int).getD ((y0.2.2).toNat) 0) > y0.1 then (([0, 0, 128, 2048, 65536] : List Int).getD ((y0.2.2).toNat) 0) else y0.1)) ∧ ((if (([0, 127, 2047, 65535, 1114111] : List Int).getD ((y0.2.2).toNat) 0) < y0.2.1 then (([0, 127, 2047, 65535, 1114111] : List Int).getD ((y0.2.2).toNat) 0) else y0.2.1) ≤ 57343))) := by first | exact of_decide_eq_true g6 | simpa only [Bool.and_eq_true, Bool.not_eq_true', Bool.and_eq_false_imp, decide_eq_true_eq, decide_eq_false_iff_not, not_and] using g6 | simpa using g6
   refine ip 5 0 [(49, bv (decide ((0 : Int) = y0.2.2)))] (by kernel_rfl) ?_
   exact JI_end (armI 2 44 49 g6 Foll.nil (mk [true, true] rfl) rfl rfl rfl rfl rfl)
  refine ip 2 0 [(2, bv ((decide ((if (([0, 0, 128, 2048, 65536] : List Int).getD ((y0.2.2).toNat) 0) > y0.1 then (([0, 0, 128, 2048, 65536] : List Int).getD ((y0.2.2).toNat) 0) else y0.1) ≤ (if (([0, 127, 2047, 65535, 1114111] : List Int).getD ((y0.2.2).toNat) 0) < y0.2.1 then (([0, 127, 2047, 65535, 1114111] : List Int).getD ((y0.2.2).toNat) 0) else y0.2.1))) && (!((decide ((55296 : Int) ≤ (if (([0, 0, 128, 2048, 65536] : List Int).getD ((y0.2.2).toNat) 0) > y0.1 then (([0, 0, 128, 2048, 65536] : List Int).getD ((y0.2.2).toNat) 0) else y0.1))) && (decide ((if (([0, 127, 2047, 65535, 1114111] : List Int).getD ((y0.2.2).toNat) 0) < y0.2.1 then (([0, 127, 2047, 65535, 1114111] : List Int).getD ((y0.2.2).toNat) 0) else y0.2.1) ≤ 57343)))))), (3, bv (((decide ((if (([0, 0, 128, 2048, 65536] : List Int).getD ((y0.2.2).toNat) 0) > y0.1 then (([0, 0, 128, 2048, 65536] : List Int).getD ((y0.2.2).toNat) 0) else y0.1) ≤ (if (([0, 127, 2047, 65535, 1114111] : List Int).getD ((y0.2.2).toNat) 0) < y0.2.1 then (([0, 127, 2047, 65535, 1114111] : List Int).getD ((y0.2.2).toNat) 0) else y0.2.1))) && (!((decide ((55296 : Int) ≤ (if (([0, 0, 128, 2048, 65536] : List Int).getD ((y0.2.2).toNat) 0) > y0.1 then (([0, 0, 128, 2048, 65536] : List Int).getD ((y0.2.2).toNat) 0) else y0.1))) && (decide ((if (([0, 127, 2047, 65535, 1114111] : List Int).getD ((y0.2.2).toNat) 0) < y0.2.1 then (([0, 127, 2047, 65535, 1114111] : List Int).getD ((y0.2.2).toNat) 0) else y0.2.1) ≤ 57343))))) && (decide ((0 : Int) = y0.2.2))))] (by kernel_rfl) ?_
  refine ie ?_
  refine J_ret ?_
  subst hR
  exact ends_ret rfl ⟨hr, hD⟩ (by simp [hD]) (res2 rfl (resV_tmp rfl) (resV_tmp rfl)) () (by rfl) (mk [false, false] rfl) Foll.nil

def ref01_Right : Bool :=
 (bindV ref01_goes fun (y2 : Bool × Bool) => true)

theorem ref01_Right_c (R : Bool) (hR : ref01_Right = R) : ConV Tryz.prog 237 [.slice none 0 0] [] (bv R) := by
 refine con_of_J (n := 20) Tryz.func237 rfl (by kernel_rfl) rfl rfl [(0, .slice none 0 0)] ⟨rfl, trivial⟩ fun X hX hr hD => ?_
 replace hR := (ref01_Right.eq_1 ..).symm.trans hR
 refine sr 1 rfl ?_
 refine ip 1 0 [] (by kernel_rfl) ?_
 refine ie ?_
 refine sr 7 rfl ?_
 refine ip 1 6 [(6, .slice none 0 0)] (by kernel_rfl) ?_
 have hQ := bindVx hR; clear hR; obtain ⟨y2, hy2, hR⟩ := hQ
 refine ixc rfl (det_call (ref01_goes_c y2 hy2) rfl rfl rfl rfl rfl Foll.nil) ?_
 refine ip 5 0 [(3, bv y2.1), (4, bv y2.2)] (by kernel_rfl) ?_
 refine ie ?_
 refine sr 11 rfl ?_
 refine ip 11 0 [(2, bv true)] (by kernel_rfl) ?_
 refine ie ?_
 refine J_ret ?_
 subst hR
 exact ends_ret rfl ⟨hr, hD⟩ (by simp [hD]) (res1 rfl (resV_tmp rfl)) () (by rfl) (mk [] rfl) Foll.nil

def ref01_first (b : UInt8) : Int × Int :=
 (bif (decide ((b.toNat : Int) < 128)) then (1, (b.toNat : Int)) else (bif ((decide ((192 : Int) ≤ (b.toNat : Int))) && (decide ((b.toNat : Int) < 224))) then (2, ((b.toNat : Int) - 192)) else (bif ((decide ((224 : Int) ≤ (b.toNat : Int))) && (decide ((b.toNat : Int) < 240))) then (3, ((b.toNat : Int) - 224)) else (bif ((decide ((240 : Int) ≤ (b.toNat : Int))) && (decide ((b.toNat : Int) < 248))) then (4, ((b.toNat : Int) - 240)) else (0, 0)))))

theorem ref01_first_le (b : UInt8) : (0 ≤ (ref01_first b).1 ∧ (ref01_first b).1 ≤ 4) ∧ 0 ≤ (ref01_first b).2 ∧ (ref01_first b).2 ≤ 127 := by
 have := b.toNat_lt
 unfold ref01_first
 by_cases h1 : (b.toNat : Int) < 128
 ·rw [decide_eq_true h1]; simp only [cond_true]; omega
 ·rw [decide_eq_false h1, cond_false]
  by_cases h2 : (192 : Int) ≤ (b.toNat : Int) ∧ (b.toNat : Int) < 224
  ·rw [show ((decide ((192 : Int) ≤ (b.toNat : Int))) && (decide ((b.toNat : Int) < 224))) = true by simp only [Bool.and_eq_true, decide_eq_true_eq]; exact h2, cond_true]; dsimp only; omega
  ·rw [show ((decide ((192 : Int) ≤ (b.toNat : Int))) && (decide ((b.toNat : Int) < 224))) = false by simp only [Bool.and_eq_false_iff, decide_eq_false_iff_not]; omega, cond_false]
   by_cases h3 : (224 : Int) ≤ (b.toNat : Int) ∧ (b.toNat : Int) < 240
   ·rw [show ((decide ((224 : Int) ≤ (b.toNat : Int))) && (decide ((b.toNat : Int) < 240))) = true by simp only [Bool.and_eq_true, decide_eq_true_eq]; exact h3, cond_true]; dsimp only; omega
   ·rw [show ((decide ((224 : Int) ≤ (b.toNat : Int))) && (decide ((b.toNat : Int) < 240))) = false by simp only [Bool.and_eq_false_iff, decide_eq_false_iff_not]; omega, cond_false]
    by_cases h4 : (240 : Int) ≤ (b.toNat : Int) ∧ (b.toNat : Int) < 248
    ·rw [show ((decide ((240 : Int) ≤ (b.toNat : Int))) && (decide ((b.toNat : Int) < 248))) = true by simp only [Bool.and_eq_true, decide_eq_true_eq]; exact h4, cond_true]; dsimp only; omega
    ·rw [show ((decide ((240 : Int) ≤ (b.toNat : Int))) && (decide ((b.toNat : Int) < 248))) = false by simp only [Bool.and_eq_false_iff, decide_eq_false_iff_not]; omega, cond_false]; dsimp only; omega

theorem ref01_first_c (b : UInt8) (R : Int × Int) (hR : ref01_first b = R) : ConV Tryz.prog 248 [.int .u8 (b.toNat : Int)] [] (.tuple #[iv R.1, iv R.2]) := by
 refine con_of_J (n := 35) Tryz.func248 rfl (by kernel_rfl) rfl rfl [(0, .int .u8 (b.toNat : Int))] ⟨rfl, trivial⟩ fun X hX hr hD => ?_
 unfold ref01_first at hR
 refine sr 2 rfl ?_
 refine ip 2 0 [] (by kernel_rfl) ?_
 refine ie ?_
 refine J_seq ?_
 refine sr 2 rfl ?_
 refine ip 2 0 [(5, bv (decide ((b.toNat : Int) < 128)))] (by kernel_rfl) ?_
 refine ie ?_
 refine J_if rfl (fun h1 => ?_) (fun h1 => ?_)
 ·have h1p : (b.toNat : Int) < 128 := by simpa using h1
  replace hR := bt hR h1
  refine sr 4 rfl ?_
  refine ip 1 3 [(6, .int .u8 (b.toNat : Int))] (by kernel_rfl) ?_
  refine ix rfl (det_toInt (c := (b.toNat : Int)) Tryz.underlying3 (by kernel_rfl) rfl rfl (wrap_u8_i64 b)) ?_
  refine ip 2 0 [(2, iv 1), (3, iv (b.toNat : Int))] (by kernel_rfl) ?_
  refine ie ?_
  refine J_ret ?_
  subst hR
  exact ends_ret rfl ⟨hr, hD⟩ (by simp [hD]) (res2 rfl (resV_tmp rfl) (resV_tmp rfl)) () (by rfl) (mk [] rfl) Foll.nil
 ·have h1p : ¬ ((b.toNat : Int) < 128) := by simpa using h1
  replace hR := bf hR h1
  refine J_skip ?_
  refine nx ?_
  refine J_seq ?_
  refine sr 6 rfl ?_
  refine ip 3 3 [(10, bv (decide ((192 : Int) ≤ (b.toNat : Int))))] (by kernel_rfl) ?_
  refine iand 3 0 10 13 (decide ((b.toNat : Int) < 224)) rfl (by kernel_rfl) (fun g2 => ?_) ?_
  ·have g2p : (192 : Int) ≤ (b.toNat : Int) := by simpa using g2
   refine ip 3 0 [(13, bv (decide ((b.toNat : Int) < 224)))] (by kernel_rfl) ?_
   exact JI_end (armI 2 10 13 g2 Foll.nil (mk [] rfl) rfl rfl rfl rfl rfl)
  refine ie ?_
  refine J_if rfl (fun h3 => ?_) (fun h3 => ?_)
  ·have h3p : ((192 : Int) ≤ (b.toNat : Int)) ∧ ((b.toNat : Int) < 224) := by simpa using h3
   replace hR := bt hR h3
   refine sr 5 rfl ?_
   refine ip 1 4 [(14, .int .u8 (b.toNat : Int))] (by kernel_rfl) ?_
   refine ix rfl (det_toInt (c := (b.toNat : Int)) Tryz.underlying3 (by kernel_rfl) rfl rfl (wrap_u8_i64 b)) ?_
   refine ix rfl (det_sub64 rfl rfl rfl rfl (by omega)) ?_
   refine ip 2 0 [(2, iv 2), (3, iv ((b.toNat : Int) - 192))] (by kernel_rfl) ?_
   refine ie ?_
   refine J_ret ?_
   subst hR
   exact ends_ret rfl ⟨hr, hD⟩ (by simp [hD]) (res2 rfl (resV_tmp rfl) (resV_tmp rfl)) () (by rfl) (mk [] rfl) Foll.nil
  ·have h3p : ¬ (((192 : Int) ≤ (b.toNat : Int)) ∧ ((b.toNat : Int) < 224)) := by simpa using h3
   replace hR := bf hR h3
   refine J_skip ?_
   refine nx ?_
   refine J_seq ?_
   refine sr 6 rfl ?_
   refine ip 3 3 [(19, bv (decide ((224 : Int) ≤ (b.toNat : Int))))] (by kernel_rfl) ?_
   refine iand 3 0 19 22 (decide ((b.toNat : Int) < 240)) rfl (by kernel_rfl) (fun g4 => ?_) ?_
   ·have g4p : (224 : Int) ≤ (b.toNat : Int) := by simpa using g4
    refine ip 3 0 [(22, bv (decide ((b.toNat : Int) < 240)))] (by kernel_rfl) ?_
    exact JI_end (armI 2 19 22 g4 Foll.nil (mk [] rfl) rfl rfl rfl rfl rfl)
   refine ie ?_
   refine J_if rfl (fun h5 => ?_) (fun h5 => ?_)
   ·have h5p : ((224 : Int) ≤ (b.toNat : Int)) ∧ ((b.toNat : Int) < 240) := by simpa using h5
    replace hR := bt hR h5
    refine sr 5 rfl ?_
    refine ip 1 4 [(23, .int .u8 (b.toNat : Int))] (by kernel_rfl) ?_
    refine ix rfl (det_toInt (c := (b.toNat : Int)) Tryz.underlying3 (by kernel_rfl) rfl rfl (wrap_u8_i64 b)) ?_
    refine ix rfl (det_sub64 rfl rfl rfl rfl (by omega)) ?_
    refine ip 2 0 [(2, iv 3), (3, iv ((b.toNat : Int) - 224))] (by kernel_rfl) ?_
    refine ie ?_
    refine J_ret ?_
    subst hR
    exact ends_ret rfl ⟨hr, hD⟩ (by simp [hD]) (res2 rfl (resV_tmp rfl) (resV_tmp rfl)) () (by rfl) (mk [] rfl) Foll.nil
   ·have h5p : ¬ (((224 : Int) ≤ (b.toNat : Int)) ∧ ((b.toNat : Int) < 240)) := by simpa using h5
    replace hR := bf hR h5
    refine J_skip ?_
    refine nx ?_
    refine J_seq ?_
    refine sr 6 rfl ?_
    refine ip 3 3 [(28, bv (decide ((240 : Int) ≤ (b.toNat : Int))))] (by kernel_rfl) ?_
    refine iand 3 0 28 31 (decide ((b.toNat : Int) < 248)) rfl (by kernel_rfl) (fun g6 => ?_) ?_
    ·have g6p : (240 : Int) ≤ (b.toNat : Int) := by simpa using g6
     refine ip 3 0 [(31, bv (decide ((b.toNat : Int) < 248)))] (by kernel_rfl) ?_
     exact JI_end (armI 2 28 31 g6 Foll.nil (mk [] rfl) rfl rfl rfl rfl rfl)
    refine ie ?_
    refine J_if rfl (fun h7 => ?_) (fun h7 => ?_)
    ·have h7p : ((240 : Int) ≤ (b.toNat : Int)) ∧ ((b.toNat : Int) < 248) := by simpa using h7
     replace hR := bt hR h7
     refine sr 5 rfl ?_
     refine ip 1 4 [(32, .int .u8 (b.toNat : Int))] (by kernel_rfl) ?_
     refine ix rfl (det_toInt (c := (b.toNat : Int)) Tryz.underlying3 (by kernel_rfl) rfl rfl (wrap_u8_i64 b)) ?_
     refine ix rfl (det_sub64 rfl rfl rfl rfl (by omega)) ?_
     refine ip 2 0 [(2, iv 4), (3, iv ((b.toNat : Int) - 240))] (by kernel_rfl) ?_
     refine ie ?_
     refine J_ret ?_
     subst hR
     exact ends_ret rfl ⟨hr, hD⟩ (by simp [hD]) (res2 rfl (resV_tmp rfl) (resV_tmp rfl)) () (by rfl) (mk [] rfl) Foll.nil
    ·have h7p : ¬ (((240 : Int) ≤ (b.toNat : Int)) ∧ ((b.toNat : Int) < 248)) := by simpa using h7
     replace hR := bf hR h7
     refine J_skip ?_
     refine nx ?_
     refine sr 2 rfl ?_
     refine ip 2 0 [(2, iv 0), (3, iv 0)] (by kernel_rfl) ?_
     refine ie ?_
     refine J_ret ?_
     subst hR
     exact ends_ret rfl ⟨hr, hD⟩ (by simp [hD]) (res2 rfl (resV_tmp rfl) (resV_tmp rfl)) () (by rfl) (mk [] rfl) Foll.nil

def ref01_spana_l0 (p : List UInt8) (y5 : Int × Int) : Nat → Int → Int → Nat → (Int × Int × Int)
 | 0, _, _, _ => (0, 0, 0)
 | fu1 + 1, low, high, i => (bif (decide ((i : Int) < y5.1)) then (bif (decide ((i : Int) < (p.length : Int))) then (bif ((decide (((p.getD i 0).toNat : Int) < 128)) || (decide ((191 : Int) < ((p.getD i 0).toNat : Int)))) then (0, 0, 0) else ref01_spana_l0 p y5 fu1 (IntKind.i64.wrap ((IntKind.i64.wrap (low * (64 : Int))) + (((p.getD i 0).toNat : Int) - 128))) (IntKind.i64.wrap ((IntKind.i64.wrap ((IntKind.i64.wrap ((IntKind.i64.wrap (high * (64 : Int))) + (63 : Int))) - (63 : Int))) + (((p.getD i 0).toNat : Int) - 128))) (i + 1)) else ref01_spana_l0 p y5 fu1 (IntKind.i64.wrap (low * (64 : Int))) (IntKind.i64.wrap ((IntKind.i64.wrap (high * (64 : Int))) + (63 : Int))) (i + 1)) else (bif (decide (y5.1 < (p.length : Int))) then (0, 0, 0) else (low, high, y5.1)))
def ref01_spana (p : List UInt8) : Int × Int × Int :=
 (bif (decide ((p.length : Int) = 0)) then (0, 0, 0) else (bindV (ref01_first (p.getD 0 0)) fun (y5 : Int × Int) => ref01_spana_l0 p y5 ((y5.1 - (1 : Int)).toNat + 1) y5.2 y5.2 1))

theorem ref01_spana_l0_le (p : List UInt8) (f : Int × Int) (hf : 0 ≤ f.1 ∧ f.1 ≤ 4) : ∀ (fu : Nat) (low high : Int) (i : Nat), 0 ≤ (ref01_spana_l0 p f fu low high i).2.2 ∧ (ref01_spana_l0 p f fu low high i).2.2 ≤ 4 ∧ ((ref01_spana_l0 p f fu low high i).2.2 ≠ 0 → (p.length : Int) ≤ 4)
 | 0, low, high, i => by simp [ref01_spana_l0]
 | fu + 1, low, high, i => by
  simp only [ref01_spana_l0]
  cases (decide ((i : Int) < f.1)) with
  | true =>
   rw [cond_true]
   cases (decide ((i : Int) < (p.length : Int))) with
   | true =>
    rw [cond_true]
    generalize ((decide (((p.getD i 0).toNat : Int) < 128)) || (decide ((191 : Int) < ((p.getD i 0).toNat : Int)))) = c
    cases c with
    | true => simp
    | false => rw [cond_false]; exact ref01_spana_l0_le p f hf fu _ _ _
   | false => rw [cond_false]; exact ref01_spana_l0_le p f hf fu _ _ _
  | false =>
   rw [cond_false]
   by_cases h : f.1 < (p.length : Int)
   ·rw [decide_eq_true h, cond_true]; simp
   ·rw [decide_eq_false h, cond_false]; dsimp only; omega
theorem ref01_spana_le (p : List UInt8) : 0 ≤ (ref01_spana p).2.2 ∧ (ref01_spana p).2.2 ≤ 4 ∧ ((ref01_spana p).2.2 ≠ 0 → (p.length : Int) ≤ 4) := by
 unfold ref01_spana
 cases (decide ((p.length : Int) = 0)) with
 | true => simp
 | false => rw [cond_false]; simp only [bindV]; exact ref01_spana_l0_le p _ (ref01_first_le _).1 _ _ _ _

theorem ref01_spana_c (p : List UInt8) (pq : Option Addr) (pk : Nat) (hlp : p.length ≤ 9223372036854775807) (hcp : p.length ≤ pk) (R : Int × Int × Int) (hR : ref01_spana p = R) : ConV Tryz.prog 239 [.slice pq p.length pk] [sl cU8 pq p] (.tuple #[iv R.1, iv R.2.1, iv R.2.2]) := by
 refine con_of_J (n := 67) Tryz.func239 rfl (by kernel_rfl) rfl rfl [(0, .slice pq p.length pk)] ⟨rfl, trivial⟩ fun X hX hr hD => ?_
 replace hR := (ref01_spana.eq_1 ..).symm.trans hR
 refine sr 3 rfl ?_
 refine ip 3 0 [] (by kernel_rfl) ?_
 refine ie ?_
 refine J_seq ?_
 refine sr 3 rfl ?_
 refine ip 3 0 [(12, bv (decide ((p.length : Int) = 0)))] (by kernel_rfl) ?_
 refine ie ?_
 refine J_if rfl (fun h1 => ?_) (fun h1 => ?_)
 ·have h1p : (p.length : Int) = 0 := by simpa using h1
  replace hR := bt hR h1
  refine sr 3 rfl ?_
  refine ip 3 0 [(2, iv 0), (3, iv 0), (4, iv 0)] (by kernel_rfl) ?_
  refine ie ?_
  refine J_ret ?_
  subst hR
  exact ends_ret rfl ⟨hr, hD⟩ (by simp [hD]) (res3 rfl (resV_tmp rfl) (resV_tmp rfl) (resV_tmp rfl)) () (by rfl) (mk [] rfl) Foll.nil
 ·have h1p : ¬ ((p.length : Int) = 0) := by simpa using h1
  replace hR := bf hR h1
  refine J_skip ?_
  refine nx ?_
  refine sr 9 rfl ?_
  refine ip 1 8 [(14, .slice pq p.length pk)] (by kernel_rfl) ?_
  refine JI_base 0 rfl (by omega) fun a2 hq3 => ?_
  refine ix rfl (det_ixq slt30 rfl rfl hq3 rfl 0 rfl (by omega)) ?_
  refine ix rfl (det_ld_one (v := .int .u8 ((p.getD 0 0).toNat : Int)) (us := [.int .u8 ((p.getD 0 0).toNat : Int)]) ty5 rfl rfl (at_slq (c := cU8) (sz := 1) hq3 (fun _ => rfl) 0 rfl (gd 0 (by omega))) rfl) ?_
  have hQ := bindVx hR; clear hR; obtain ⟨y5, hy5, hR⟩ := hQ
  refine ixc rfl (det_call (ref01_first_c (p.getD 0 0) y5 hy5) rfl rfl rfl rfl rfl Foll.nil) ?_
  have := ref01_first_le (p.getD 0 0); try rw [hy5] at this
  refine ip 5 0 [(5, iv y5.1), (6, iv y5.2)] (by kernel_rfl) ?_
  refine ie ?_
  refine sr 2 rfl ?_
  refine ip 2 0 [(7, iv y5.2)] (by kernel_rfl) ?_
  refine ie ?_
  refine J_seq ?_
  refine sr 1 rfl ?_
  refine ip 1 0 [(8, iv 1)] (by kernel_rfl) ?_
  refine ie ?_
  refine J_block ?_
  refine JL4 (fun (fu : Nat) (low : Int) (high : Int) (i : Nat) => (y5.1 - (i : Int)).toNat < fu ∧ ref01_spana_l0 p y5 fu low high i = R) (fun (fu : Nat) (low : Int) (high : Int) (i : Nat) => [(0, .slice pq p.length pk), (5, iv y5.1), (6, iv low), (7, iv high), (8, iv (i : Int))]) (fun (fu : Nat) (low : Int) (high : Int) (i : Nat) => []) (fun (fu : Nat) (low : Int) (high : Int) (i : Nat) => [sl cU8 pq p]) (fun (fu : Nat) (low : Int) (high : Int) (i : Nat) => fu) ((y5.1 - (1 : Int)).toNat + 1) y5.2 y5.2 1 ⟨(Nat.lt_succ_self _), hR⟩ ⟨rfl, rfl, (by first | rfl | (simp only [List.length_set]; rfl) | (simp; done) | (simp; omega)), (by first | rfl | (simp only [List.length_set]; rfl) | (simp; done) | (simp; omega)), (by first | rfl | (simp only [List.length_set]; rfl) | (simp; done) | (simp; omega)), trivial⟩ (mk [] rfl) Foll.refl ?_
  rintro fu low high i ⟨hm4, hR⟩
  obtain ⟨fu1, rfl⟩ : ∃ m, fu = m + 1 := ⟨fu - 1, by omega⟩
  replace hR := (ref01_spana_l0.eq_2 ..).symm.trans hR
  refine J_seq ?_
  refine sr 3 rfl ?_
  refine ip 3 0 [(23, bv (decide ((i : Int) < y5.1)))] (by kernel_rfl) ?_
  refine ie ?_
  refine J_if rfl (fun h5 => ?_) (fun h5 => ?_)
  ·have h5p : (i : Int) < y5.1 := by simpa using h5
   replace hR := bt hR h5
   refine J_skip ?_
   refine nx ?_
   refine J_seq ?_
   refine J_block ?_
   refine sr 7 rfl ?_
   refine ip 1 6 [(26, iv low)] (by kernel_rfl) ?_
   refine ix rfl (DetR.pure rfl) ?_
   refine ip 1 4 [(28, iv high)] (by kernel_rfl) ?_
   refine ix rfl (DetR.pure rfl) ?_
   refine ix rfl (DetR.pure rfl) ?_
   refine ip 2 0 [(6, iv (IntKind.i64.wrap (low * (64 : Int)))), (7, iv (IntKind.i64.wrap ((IntKind.i64.wrap (high * (64 : Int))) + (63 : Int))))] (by kernel_rfl) ?_
   refine ie ?_
   refine sr 4 rfl ?_
   refine ip 4 0 [(34, bv (decide ((i : Int) < (p.length : Int))))] (by kernel_rfl) ?_
   refine ie ?_
   refine J_if rfl (fun h6 => ?_) (fun h6 => ?_)
   ·have h6p : (i : Int) < (p.length : Int) := by simpa using h6
    replace hR := bt hR h6
    refine J_seq ?_
    refine sr 12 rfl ?_
    refine ip 2 10 [(35, .slice pq p.length pk), (36, iv (i : Int))] (by kernel_rfl) ?_
    refine ix rfl (det_ixq slt30 rfl rfl hq3 rfl i rfl (by omega)) ?_
    refine ix rfl (det_ld_one (v := .int .u8 ((p.getD i 0).toNat : Int)) (us := [.int .u8 ((p.getD i 0).toNat : Int)]) ty5 rfl rfl (at_slq (c := cU8) (sz := 1) hq3 (fun _ => rfl) 0 rfl (gd 0 (by omega))) rfl) ?_
    refine ip 2 6 [(40, bv (decide (((p.getD i 0).toNat : Int) < 128)))] (by kernel_rfl) ?_
    refine ior 6 0 40 46 (decide ((191 : Int) < ((p.getD i 0).toNat : Int))) rfl (by kernel_rfl) (fun g7 => ?_) ?_
    ·have g7p : ¬ (((p.getD i 0).toNat : Int) < 128) := by simpa using g7
     refine ip 2 4 [(41, .slice pq p.length pk), (42, iv (i : Int))] (by kernel_rfl) ?_
     refine ix rfl (det_ixq slt30 rfl rfl hq3 rfl i rfl (by omega)) ?_
     refine ix rfl (det_ld_one (v := .int .u8 ((p.getD i 0).toNat : Int)) (us := [.int .u8 ((p.getD i 0).toNat : Int)]) ty5 rfl rfl (at_slq (c := cU8) (sz := 1) hq3 (fun _ => rfl) 0 rfl (gd 0 (by omega))) rfl) ?_
     refine ip 2 0 [(46, bv (decide ((191 : Int) < ((p.getD i 0).toNat : Int))))] (by kernel_rfl) ?_
     exact JI_end (armI 6 40 46 g7 Foll.refl (mk [] rfl) rfl rfl rfl rfl rfl)
    refine ie ?_
    refine J_if rfl (fun h8 => ?_) (fun h8 => ?_)
    ·have h8p : (((p.getD i 0).toNat : Int) < 128) ∨ ((191 : Int) < ((p.getD i 0).toNat : Int)) := by simpa using h8
     replace hR := bt hR h8
     refine sr 3 rfl ?_
     refine ip 3 0 [(2, iv 0), (3, iv 0), (4, iv 0)] (by kernel_rfl) ?_
     refine ie ?_
     refine J_ret ?_
     subst hR
     exact ends_ret rfl ⟨hr, hD⟩ (by simp [hD]) (res3 rfl (resV_tmp rfl) (resV_tmp rfl) (resV_tmp rfl)) () (by rfl) (mk [] rfl) Foll.nil
    ·have h8p : ¬ ((((p.getD i 0).toNat : Int) < 128) ∨ ((191 : Int) < ((p.getD i 0).toNat : Int))) := by simpa using h8
     replace hR := bf hR h8
     refine J_skip ?_
     refine nx ?_
     refine sr 7 rfl ?_
     refine ip 2 5 [(47, .slice pq p.length pk), (48, iv (i : Int))] (by kernel_rfl) ?_
     refine ix rfl (det_ixq slt30 rfl rfl hq3 rfl i rfl (by omega)) ?_
     refine ix rfl (det_ld_one (v := .int .u8 ((p.getD i 0).toNat : Int)) (us := [.int .u8 ((p.getD i 0).toNat : Int)]) ty5 rfl rfl (at_slq (c := cU8) (sz := 1) hq3 (fun _ => rfl) 0 rfl (gd 0 (by omega))) rfl) ?_
     refine ix rfl (det_toInt (c := ((p.getD i 0).toNat : Int)) Tryz.underlying3 (by kernel_rfl) rfl rfl (wrap_u8_i64 (p.getD i 0))) ?_
     refine ix rfl (det_sub64 rfl rfl rfl rfl (by omega)) ?_
     refine ip 1 0 [(9, iv (((p.getD i 0).toNat : Int) - 128))] (by kernel_rfl) ?_
     refine ie ?_
     refine J_region 9 rfl ?_
     refine ip 2 7 [(53, iv (IntKind.i64.wrap (low * (64 : Int)))), (54, iv (((p.getD i 0).toNat : Int) - 128))] (by kernel_rfl) ?_
     refine ix rfl (DetR.pure rfl) ?_
     refine ip 1 5 [(56, iv (IntKind.i64.wrap ((IntKind.i64.wrap (high * (64 : Int))) + (63 : Int))))] (by kernel_rfl) ?_
     refine ix rfl (DetR.pure rfl) ?_
     refine ip 1 3 [(58, iv (((p.getD i 0).toNat : Int) - 128))] (by kernel_rfl) ?_
     refine ix rfl (DetR.pure rfl) ?_
     refine ip 2 0 [(6, iv (IntKind.i64.wrap ((IntKind.i64.wrap (low * (64 : Int))) + (((p.getD i 0).toNat : Int) - 128)))), (7, iv (IntKind.i64.wrap ((IntKind.i64.wrap ((IntKind.i64.wrap ((IntKind.i64.wrap (high * (64 : Int))) + (63 : Int))) - (63 : Int))) + (((p.getD i 0).toNat : Int) - 128))))] (by kernel_rfl) ?_
     refine JI_end ?_
     refine nx ?_
     refine J_region 3 rfl ?_
     refine ip 1 2 [(24, iv (i : Int))] (by kernel_rfl) ?_
     refine ix rfl (det_add64 rfl rfl rfl rfl (by omega)) ?_
     refine ip 1 0 [(8, iv ((i : Int) + 1))] (by kernel_rfl) ?_
     refine JI_end ?_
     exact againL4 (z1 := (fu1 + 1)) (z2 := low) (z3 := high) (z4 := i) fu1 (IntKind.i64.wrap ((IntKind.i64.wrap (low * (64 : Int))) + (((p.getD i 0).toNat : Int) - 128))) (IntKind.i64.wrap ((IntKind.i64.wrap ((IntKind.i64.wrap ((IntKind.i64.wrap (high * (64 : Int))) + (63 : Int))) - (63 : Int))) + (((p.getD i 0).toNat : Int) - 128))) (i + 1) ⟨(by omega), hR⟩ (Nat.lt_succ_self _) ⟨rfl, rfl, (by first | rfl | (simp only [List.length_set]; rfl) | (simp; done) | (simp; omega)), (by first | rfl | (simp only [List.length_set]; rfl) | (simp; done) | (simp; omega)), (by first | rfl | (simp only [List.length_set]; rfl) | (simp; done) | (simp; omega)), trivial⟩ (mk [] rfl) Foll.refl
   ·have h6p : ¬ ((i : Int) < (p.length : Int)) := by simpa using h6
    replace hR := bf hR h6
    refine J_skip ?_
    refine nx ?_
    refine J_region 3 rfl ?_
    refine ip 1 2 [(24, iv (i : Int))] (by kernel_rfl) ?_
    refine ix rfl (det_add64 rfl rfl rfl rfl (by omega)) ?_
    refine ip 1 0 [(8, iv ((i : Int) + 1))] (by kernel_rfl) ?_
    refine JI_end ?_
    exact againL4 (z1 := (fu1 + 1)) (z2 := low) (z3 := high) (z4 := i) fu1 (IntKind.i64.wrap (low * (64 : Int))) (IntKind.i64.wrap ((IntKind.i64.wrap (high * (64 : Int))) + (63 : Int))) (i + 1) ⟨(by omega), hR⟩ (Nat.lt_succ_self _) ⟨rfl, rfl, (by first | rfl | (simp only [List.length_set]; rfl) | (simp; done) | (simp; omega)), (by first | rfl | (simp only [List.length_set]; rfl) | (simp; done) | (simp; omega)), (by first | rfl | (simp only [List.length_set]; rfl) | (simp; done) | (simp; omega)), trivial⟩ (mk [] rfl) Foll.refl
  ·have h5p : ¬ ((i : Int) < y5.1) := by simpa using h5
   replace hR := bf hR h5
   refine J_exit ?_
   refine nx ?_
   refine J_seq ?_
   refine sr 4 rfl ?_
   refine ip 4 0 [(63, bv (decide (y5.1 < (p.length : Int))))] (by kernel_rfl) ?_
   refine ie ?_
   refine J_if rfl (fun h9 => ?_) (fun h9 => ?_)
   ·have h9p : y5.1 < (p.length : Int) := by simpa using h9
    replace hR := bt hR h9
    refine sr 3 rfl ?_
    refine ip 3 0 [(2, iv 0), (3, iv 0), (4, iv 0)] (by kernel_rfl) ?_
    refine ie ?_
    refine J_ret ?_
    subst hR
    exact ends_ret rfl ⟨hr, hD⟩ (by simp [hD]) (res3 rfl (resV_tmp rfl) (resV_tmp rfl) (resV_tmp rfl)) () (by rfl) (mk [] rfl) Foll.nil
   ·have h9p : ¬ (y5.1 < (p.length : Int)) := by simpa using h9
    replace hR := bf hR h9
    refine J_skip ?_
    refine nx ?_
    refine sr 6 rfl ?_
    refine ip 6 0 [(2, iv low), (3, iv high), (4, iv y5.1)] (by kernel_rfl) ?_
    refine ie ?_
    refine J_ret ?_
    subst hR
    exact ends_ret rfl ⟨hr, hD⟩ (by simp [hD]) (res3 rfl (resV_tmp rfl) (resV_tmp rfl) (resV_tmp rfl)) () (by rfl) (mk [] rfl) Foll.nil

def ref01_goesa (p : List UInt8) : Bool × Bool :=
 (bindV (ref01_spana p) fun (y1 : Int × Int × Int) => (bif (decide (y1.2.2 = 0)) then (false, false) else (((decide ((if (([0, 0, 128, 2048, 65536] : List Int).getD ((y1.2.2).toNat) 0) > y1.1 then (([0, 0, 128, 2048, 65536] : List Int).getD ((y1.2.2).toNat) 0) else y1.1) ≤ (if (([0, 127, 2047, 65535, 1114111] : List Int).getD ((y1.2.2).toNat) 0) < y1.2.1 then (([0, 127, 2047, 65535, 1114111] : List Int).getD ((y1.2.2).toNat) 0) else y1.2.1))) && (!((decide ((55296 : Int) ≤ (if (([0, 0, 128, 2048, 65536] : List Int).getD ((y1.2.2).toNat) 0) > y1.1 then (([0, 0, 128, 2048, 65536] : List Int).getD ((y1.2.2).toNat) 0) else y1.1))) && (decide ((if (([0, 127, 2047, 65535, 1114111] : List Int).getD ((y1.2.2).toNat) 0) < y1.2.1 then (([0, 127, 2047, 65535, 1114111] : List Int).getD ((y1.2.2).toNat) 0) else y1.2.1) ≤ 57343))))), (((decide ((if (([0, 0, 128, 2048, 65536] : List Int).getD ((y1.2.2).toNat) 0) > y1.1 then (([0, 0, 128, 2048, 65536] : List Int).getD ((y1.2.2).toNat) 0) else y1.1) ≤ (if (([0, 127, 2047, 65535, 1114111] : List Int).getD ((y1.2.2).toNat) 0) < y1.2.1 then (([0, 127, 2047, 65535, 1114111] : List Int).getD ((y1.2.2).toNat) 0) else y1.2.1))) && (!((decide ((55296 : Int) ≤ (if (([0, 0, 128, 2048, 65536] : List Int).getD ((y1.2.2).toNat) 0) > y1.1 then (([0, 0, 128, 2048, 65536] : List Int).getD ((y1.2.2).toNat) 0) else y1.1))) && (decide ((if (([0, 127, 2047, 65535, 1114111] : List Int).getD ((y1.2.2).toNat) 0) < y1.2.1 then (([0, 127, 2047, 65535, 1114111] : List Int).getD ((y1.2.2).toNat) 0) else y1.2.1) ≤ 57343))))) && (decide ((p.length : Int) = y1.2.2))))))

theorem ref01_goesa_le (p : List UInt8) (h : (ref01_goesa p).1 = true) : (p.length : Int) ≤ 4 := by
 unfold ref01_goesa at h
 simp only [bindV] at h
 by_cases e : (ref01_spana p).2.2 = 0
 ·rw [decide_eq_true e] at h; simp at h
 ·exact (ref01_spana_le p).2.2 e

theorem ref01_goesa_c (p : List UInt8) (pq : Option Addr) (pk : Nat) (hlp : p.length ≤ 9223372036854775807) (hcp : p.length ≤ pk) (R : Bool × Bool) (hR : ref01_goesa p = R) : ConV Tryz.prog 238 [.slice pq p.length pk] [sl cU8 pq p] (.tuple #[bv R.1, bv R.2]) := by
 refine con_of_J (n := 50) Tryz.func238 rfl (by kernel_rfl) rfl rfl [(0, .slice pq p.length pk)] ⟨rfl, trivial⟩ fun X hX hr hD => ?_
 replace hR := (ref01_goesa.eq_1 ..).symm.trans hR
 refine sr 2 rfl ?_
 refine ip 2 0 [] (by kernel_rfl) ?_
 refine ie ?_
 refine sr 9 rfl ?_
 refine ip 1 8 [(11, .slice pq p.length pk)] (by kernel_rfl) ?_
 have hQ := bindVx hR; clear hR; obtain ⟨y1, hy1, hR⟩ := hQ
 refine ixc rfl (det_call (ref01_spana_c p pq pk (by first | omega | (simp <;> omega) | (dsimp only; omega) | decide) (by first | omega | (simp <;> omega) | (dsimp only; omega) | decide) y1 hy1) rfl rfl rfl rfl rfl Foll.refl) ?_
 have := ref01_spana_le p; try rw [hy1] at this
 refine ip 7 0 [(4, iv y1.1), (5, iv y1.2.1), (6, iv y1.2.2)] (by kernel_rfl) ?_
 refine ie ?_
 refine J_seq ?_
 refine sr 2 rfl ?_
 refine ip 2 0 [(17, bv (decide (y1.2.2 = 0)))] (by kernel_rfl) ?_
 refine ie ?_
 refine J_if rfl (fun h1 => ?_) (fun h1 => ?_)
 ·have h1p : y1.2.2 = 0 := by simpa using h1
  replace hR := bt hR h1
  refine sr 2 rfl ?_
  refine ip 2 0 [(2, bv false), (3, bv false)] (by kernel_rfl) ?_
  refine ie ?_
  refine J_ret ?_
  subst hR
  exact ends_ret rfl ⟨hr, hD⟩ (by simp [hD]) (res2 rfl (resV_tmp rfl) (resV_tmp rfl)) () (by rfl) (mk [] rfl) Foll.nil
 ·have h1p : ¬ (y1.2.2 = 0) := by simpa using h1
  replace hR := bf hR h1
  refine J_skip ?_
  refine nx ?_
  refine sr 3 rfl ?_
  refine ix rfl (det_build (cs := [iv 0, iv 0, iv 128, iv 2048, iv 65536]) rfl rfl (by kernel_rfl)) ?_
  refine it rfl (tri_alloc (cs := [iv 0, iv 0, iv 0, iv 0, iv 0]) zero103 rfl) fun b2 => ?_
  refine it rfl (tri_store (us := [iv 0, iv 0, iv 128, iv 2048, iv 65536]) (cs' := [iv 0, iv 0, iv 128, iv 2048, iv 65536]) ty103 rfl rfl rfl 0 rfl rfl rfl rfl rfl rfl) fun _ => ?_
  refine ie ?_
  refine sr 3 rfl ?_
  refine ix rfl (det_build (cs := [iv 0, iv 127, iv 2047, iv 65535, iv 1114111]) rfl rfl (by kernel_rfl)) ?_
  refine it rfl (tri_alloc (cs := [iv 0, iv 0, iv 0, iv 0, iv 0]) zero103 rfl) fun b3 => ?_
  refine it rfl (tri_store (us := [iv 0, iv 127, iv 2047, iv 65535, iv 1114111]) (cs' := [iv 0, iv 127, iv 2047, iv 65535, iv 1114111]) ty103 rfl rfl rfl 0 rfl rfl rfl rfl rfl rfl) fun _ => ?_
  refine ie ?_
  refine sd 12 rfl (by kernel_rfl) rfl ?_
  refine dp 2 10 [(20, iv y1.1), (21, iv y1.2.2)] (by kernel_rfl) ?_
  refine dd rfl (det_ix_ownk Tryz.underlying103 ty3 rfl rfl rfl ((y1.2.2).toNat) (by omega) (by omega)) ?_
  refine dd rfl (det_vec_one (u := iv (([0, 0, 128, 2048, 65536] : List Int).getD ((y1.2.2).toNat) 0)) (c := cInt) (xs := ([0, 0, 128, 2048, 65536] : List Int)) (j := []) (sz := 1) ty3 (fun _ => rfl) rfl rfl 1 rfl ((y1.2.2).toNat) 0 rfl (gd 0 (by simp only [List.length_cons, List.length_nil]; omega)) rfl) ?_
  refine dp 3 5 [(24, iv (if (([0, 0, 128, 2048, 65536] : List Int).getD ((y1.2.2).toNat) 0) > y1.1 then (([0, 0, 128, 2048, 65536] : List Int).getD ((y1.2.2).toNat) 0) else y1.1)), (25, iv y1.2.1), (26, iv y1.2.2)] (by kernel_rfl) ?_
  have := mm_max y1.1 (([0, 0, 128, 2048, 65536] : List Int).getD ((y1.2.2).toNat) 0)
  refine dd rfl (det_ix_ownk Tryz.underlying103 ty3 rfl rfl rfl ((y1.2.2).toNat) (by omega) (by omega)) ?_
  refine dd rfl (det_vec_one (u := iv (([0, 127, 2047, 65535, 1114111] : List Int).getD ((y1.2.2).toNat) 0)) (c := cInt) (xs := ([0, 127, 2047, 65535, 1114111] : List Int)) (j := []) (sz := 1) ty3 (fun _ => rfl) rfl rfl 0 rfl ((y1.2.2).toNat) 0 rfl (gd 0 (by simp only [List.length_cons, List.length_nil]; omega)) rfl) ?_
  refine dp 3 0 [(4, iv (if (([0, 0, 128, 2048, 65536] : List Int).getD ((y1.2.2).toNat) 0) > y1.1 then (([0, 0, 128, 2048, 65536] : List Int).getD ((y1.2.2).toNat) 0) else y1.1)), (5, iv (if (([0, 127, 2047, 65535, 1114111] : List Int).getD ((y1.2.2).toNat) 0) < y1.2.1 then (([0, 127, 2047, 65535, 1114111] : List Int).getD ((y1.2.2).toNat) 0) else y1.2.1))] (by kernel_rfl) ?_
  have := mm_max y1.1 (([0, 0, 128, 2048, 65536] : List Int).getD ((y1.2.2).toNat) 0)
  have := mm_min y1.2.1 (([0, 127, 2047, 65535, 1114111] : List Int).getD ((y1.2.2).toNat) 0)
  refine de ?_
  refine sr 13 rfl ?_
  refine ip 4 9 [(33, bv (decide ((if (([0, 0, 128, 2048, 65536] : List Int).getD ((y1.2.2).toNat) 0) > y1.1 then (([0, 0, 128, 2048, 65536] : List Int).getD ((y1.2.2).toNat) 0) else y1.1) ≤ (if (([0, 127, 2047, 65535, 1114111] : List Int).getD ((y1.2.2).toNat) 0) < y1.2.1 then (([0, 127, 2047, 65535, 1114111] : List Int).getD ((y1.2.2).toNat) 0) else y1.2.1))))] (by kernel_rfl) ?_
  refine iand 8 1 33 41 (!((decide ((55296 : Int) ≤ (if (([0, 0, 128, 2048, 65536] : List Int).getD ((y1.2.2).toNat) 0) > y1.1 then (([0, 0, 128, 2048, 65536] : List Int).getD ((y1.2.2).toNat) 0) else y1.1))) && (decide ((if (([0, 127, 2047, 65535, 1114111] : List Int).getD ((y1.2.2).toNat) 0) < y1.2.1 then (([0, 127, 2047, 65535, 1114111] : List Int).getD ((y1.2.2).toNat) 0) else y1.2.1) ≤ 57343)))) rfl (by kernel_rfl) (fun g4 => ?_) ?_
  ·have g4p : (if (([0, 0, 128, 2048, 65536] : List Int).getD ((y1.2.2).toNat) 0) > y1.1 then (([0, 0, 128, 2048, 65536] : List Int).getD ((y1.2.2).toNat) 0) else y1.1) ≤ (if (([0, 127, 2047, 65535, 1114111] : List Int).getD ((y1.2.2).toNat) 0) < y1.2.1 then (([0, 127, 2047, 65535, 1114111] : List Int).getD ((y1.2.2).toNat) 0) else y1.2.1) := by first | exact of_decide_eq_true g4 | simpa only [Bool.and_eq_true, Bool.not_eq_true', Bool.and_eq_false_imp, decide_eq_true_eq, decide_eq_false_iff_not, not_and] using g4 | simpa using g4
   refine ip 3 5 [(36, bv (decide ((55296 : Int) ≤ (if (([0, 0, 128, 2048, 65536] : List Int).getD ((y1.2.2).toNat) 0) > y1.1 then (([0, 0, 128, 2048, 65536] : List Int).getD ((y1.2.2).toNat) 0) else y1.1))))] (by kernel_rfl) ?_
   refine iand 3 2 36 39 (decide ((if (([0, 127, 2047, 65535, 1114111] : List Int).getD ((y1.2.2).toNat) 0) < y1.2.1 then (([0, 127, 2047, 65535, 1114111] : List Int).getD ((y1.2.2).toNat) 0) else y1.2.1) ≤ 57343)) rfl (by kernel_rfl) (fun g5 => ?_) ?_
   ·have g5p : (55296 : Int) ≤ (if (([0, 0, 128, 2048, 65536] : List Int).getD ((y1.2.2).toNat) 0) > y1.1 then (([0, 0, 128, 2048, 65536] : List Int).getD ((y1.2.2).toNat) 0) else y1.1) := by first | exact of_decide_eq_true g5 | simpa only [Bool.and_eq_true, Bool.not_eq_true', Bool.and_eq_false_imp, decide_eq_true_eq, decide_eq_false_iff_not, not_and] using g5 | simpa using g5
    refine ip 3 0 [(39, bv (decide ((if (([0, 127, 2047, 65535, 1114111] : List Int).getD ((y1.2.2).toNat) 0) < y1.2.1 then (([0, 127, 2047, 65535, 1114111] : List Int).getD ((y1.2.2).toNat) 0) else y1.2.1) ≤ 57343)))] (by kernel_rfl) ?_
    exact JI_end (armI 2 36 39 g5 Foll.refl (mk [true, true] rfl) rfl rfl rfl rfl rfl)
   refine ip 2 0 [(41, bv (!((decide ((55296 : Int) ≤ (if (([0, 0, 128, 2048, 65536] : List Int).getD ((y1.2.2).toNat) 0) > y1.1 then (([0, 0, 128, 2048, 65536] : List Int).getD ((y1.2.2).toNat) 0) else y1.1))) && (decide ((if (([0, 127, 2047, 65535, 1114111] : List Int).getD ((y1.2.2).toNat) 0) < y1.2.1 then (([0, 127, 2047, 65535, 1114111] : List Int).getD ((y1.2.2).toNat) 0) else y1.2.1) ≤ 57343)))))] (by kernel_rfl) ?_
   exact JI_end (armI 4 33 41 g4 Foll.refl (mk [true, true] rfl) rfl rfl rfl rfl rfl)
  refine ip 1 0 [(9, bv ((decide ((if (([0, 0, 128, 2048, 65536] : List Int).getD ((y1.2.2).toNat) 0) > y1.1 then (([0, 0, 128, 2048, 65536] : List Int).getD ((y1.2.2).toNat) 0) else y1.1) ≤ (if (([0, 127, 2047, 65535, 1114111] : List Int).getD ((y1.2.2).toNat) 0) < y1.2.1 then (([0, 127, 2047, 65535, 1114111] : List Int).getD ((y1.2.2).toNat) 0) else y1.2.1))) && (!((decide ((55296 : Int) ≤ (if (([0, 0, 128, 2048, 65536] : List Int).getD ((y1.2.2).toNat) 0) > y1.1 then (([0, 0, 128, 2048, 65536] : List Int).getD ((y1.2.2).toNat) 0) else y1.1))) && (decide ((if (([0, 127, 2047, 65535, 1114111] : List Int).getD ((y1.2.2).toNat) 0) < y1.2.1 then (([0, 127, 2047, 65535, 1114111] : List Int).getD ((y1.2.2).toNat) 0) else y1.2.1) ≤ 57343))))))] (by kernel_rfl) ?_
  refine ie ?_
  refine sr 10 rfl ?_
  refine ip 3 7 [(42, bv ((decide ((if (([0, 0, 128, 2048, 65536] : List Int).getD ((y1.2.2).toNat) 0) > y1.1 then (([0, 0, 128, 2048, 65536] : List Int).getD ((y1.2.2).toNat) 0) else y1.1) ≤ (if (([0, 127, 2047, 65535, 1114111] : List Int).getD ((y1.2.2).toNat) 0) < y1.2.1 then (([0, 127, 2047, 65535, 1114111] : List Int).getD ((y1.2.2).toNat) 0) else y1.2.1))) && (!((decide ((55296 : Int) ≤ (if (([0, 0, 128, 2048, 65536] : List Int).getD ((y1.2.2).toNat) 0) > y1.1 then (([0, 0, 128, 2048, 65536] : List Int).getD ((y1.2.2).toNat) 0) else y1.1))) && (decide ((if (([0, 127, 2047, 65535, 1114111] : List Int).getD ((y1.2.2).toNat) 0) < y1.2.1 then (([0, 127, 2047, 65535, 1114111] : List Int).getD ((y1.2.2).toNat) 0) else y1.2.1) ≤ 57343)))))), (44, bv ((decide ((if (([0, 0, 128, 2048, 65536] : List Int).getD ((y1.2.2).toNat) 0) > y1.1 then (([0, 0, 128, 2048, 65536] : List Int).getD ((y1.2.2).toNat) 0) else y1.1) ≤ (if (([0, 127, 2047, 65535, 1114111] : List Int).getD ((y1.2.2).toNat) 0) < y1.2.1 then (([0, 127, 2047, 65535, 1114111] : List Int).getD ((y1.2.2).toNat) 0) else y1.2.1))) && (!((decide ((55296 : Int) ≤ (if (([0, 0, 128, 2048, 65536] : List Int).getD ((y1.2.2).toNat) 0) > y1.1 then (([0, 0, 128, 2048, 65536] : List Int).getD ((y1.2.2).toNat) 0) else y1.1))) && (decide ((if (([0, 127, 2047, 65535, 1114111] : List Int).getD ((y1.2.2).toNat) 0) < y1.2.1 then (([0, 127, 2047, 65535, 1114111] : List Int).getD ((y1.2.2).toNat) 0) else y1.2.1) ≤ 57343))))))] (by kernel_rfl) ?_
  refine iand 5 2 44 49 (decide ((p.length : Int) = y1.2.2)) rfl (by kernel_rfl) (fun g6 => ?_) ?_
  ·have g6p : ((if (([0, 0, 128, 2048, 65536] : List Int).getD ((y1.2.2).toNat) 0) > y1.1 then (([0, 0, 128, 2048, 65536] : List Int).getD ((y1.2.2).toNat) 0) else y1.1) ≤ (if (([0, 127, 2047, 65535, 1114111] : List Int).getD ((y1.2.2).toNat) 0) < y1.2.1 then (([0, 127, 2047, 65535, 1114111] : List Int).getD ((y1.2.2).toNat) 0) else y1.2.1)) ∧ (¬ (((55296 : Int) ≤ (if (([0, 0, 128, 2048, 65536] : List Int).getD ((y1.2.2).toNat) 0) > y1.1 then (([0, 0, 128, 2048, 65536] : List Int).getD ((y1.2.2).toNat) 0) else y1.1)) ∧ ((if (([0, 127, 2047, 65535, 1114111] : List Int).getD ((y1.2.2).toNat) 0) < y1.2.1 then (([0, 127, 2047, 65535, 1114111] : List Int).getD ((y1.2.2).toNat) 0) else y1.2.1) ≤ 57343))) := by first | exact of_decide_eq_true g6 | simpa only [Bool.and_eq_true, Bool.not_eq_true', Bool.and_eq_false_imp, decide_eq_true_eq, decide_eq_false_iff_not, not_and] using g6 | simpa using g6
   refine ip 5 0 [(49, bv (decide ((p.length : Int) = y1.2.2)))] (by kernel_rfl) ?_
   exact JI_end (armI 2 44 49 g6 Foll.refl (mk [true, true] rfl) rfl rfl rfl rfl rfl)
  refine ip 2 0 [(2, bv ((decide ((if (([0, 0, 128, 2048, 65536] : List Int).getD ((y1.2.2).toNat) 0) > y1.1 then (([0, 0, 128, 2048, 65536] : List Int).getD ((y1.2.2).toNat) 0) else y1.1) ≤ (if (([0, 127, 2047, 65535, 1114111] : List Int).getD ((y1.2.2).toNat) 0) < y1.2.1 then (([0, 127, 2047, 65535, 1114111] : List Int).getD ((y1.2.2).toNat) 0) else y1.2.1))) && (!((decide ((55296 : Int) ≤ (if (([0, 0, 128, 2048, 65536] : List Int).getD ((y1.2.2).toNat) 0) > y1.1 then (([0, 0, 128, 2048, 65536] : List Int).getD ((y1.2.2).toNat) 0) else y1.1))) && (decide ((if (([0, 127, 2047, 65535, 1114111] : List Int).getD ((y1.2.2).toNat) 0) < y1.2.1 then (([0, 127, 2047, 65535, 1114111] : List Int).getD ((y1.2.2).toNat) 0) else y1.2.1) ≤ 57343)))))), (3, bv (((decide ((if (([0, 0, 128, 2048, 65536] : List Int).getD ((y1.2.2).toNat) 0) > y1.1 then (([0, 0, 128, 2048, 65536] : List Int).getD ((y1.2.2).toNat) 0) else y1.1) ≤ (if (([0, 127, 2047, 65535, 1114111] : List Int).getD ((y1.2.2).toNat) 0) < y1.2.1 then (([0, 127, 2047, 65535, 1114111] : List Int).getD ((y1.2.2).toNat) 0) else y1.2.1))) && (!((decide ((55296 : Int) ≤ (if (([0, 0, 128, 2048, 65536] : List Int).getD ((y1.2.2).toNat) 0) > y1.1 then (([0, 0, 128, 2048, 65536] : List Int).getD ((y1.2.2).toNat) 0) else y1.1))) && (decide ((if (([0, 127, 2047, 65535, 1114111] : List Int).getD ((y1.2.2).toNat) 0) < y1.2.1 then (([0, 127, 2047, 65535, 1114111] : List Int).getD ((y1.2.2).toNat) 0) else y1.2.1) ≤ 57343))))) && (decide ((p.length : Int) = y1.2.2))))] (by kernel_rfl) ?_
  refine ie ?_
  refine J_ret ?_
  subst hR
  exact ends_ret rfl ⟨hr, hD⟩ (by simp [hD]) (res2 rfl (resV_tmp rfl) (resV_tmp rfl)) () (by rfl) (mk [false, false] rfl) Foll.nil

def ref01_Step_j0 (b : UInt8) : List UInt8 × List Int :=
 (bindV (ref01_goesa (([] : List UInt8) ++ ([b] : List UInt8))) fun (y3 : Bool × Bool) => (bif y3.2 then (bindV (ref01_spana (([] : List UInt8) ++ ([b] : List UInt8))) fun (y1 : Int × Int × Int) => (([] : List UInt8), ([y1.1] : List Int))) else (bif y3.1 then ((([] : List UInt8) ++ ([b] : List UInt8)), ([] : List Int)) else (([] : List UInt8), ([65533] : List Int)))))
def ref01_Step (b : UInt8) : List UInt8 × List Int :=
 (bif (!ref01_Right) then ref01_Step_j0 b else ref01_Step_j0 b)

theorem ref01_Step_j0_len (b : UInt8) : (ref01_Step_j0 b).1.length ≤ 4 ∧ (ref01_Step_j0 b).2.length ≤ 2 := by
 unfold ref01_Step_j0
 simp only [bindV]
 cases (ref01_goesa (([] : List UInt8) ++ ([b] : List UInt8))).2 <;> cases (ref01_goesa (([] : List UInt8) ++ ([b] : List UInt8))).1 <;> simp
theorem ref01_Step_len (b : UInt8) : (ref01_Step b).1.length ≤ 4 ∧ (ref01_Step b).2.length ≤ 2 := by
 unfold ref01_Step
 cases (!ref01_Right) <;> simp only [cond_true, cond_false] <;> exact ref01_Step_j0_len b

theorem ref01_Step_c (b : UInt8) (hp : ([] : List Unit).length ≤ 4) (R : List UInt8 × List Int) (hR : ref01_Step b = R) : Con Tryz.prog 228 [.slice none 0 0, .int .u8 (b.toNat : Int)] [] [] ({t : Option Addr × Nat // R.1.length ≤ t.2 ∧ R.1.length ≤ 9223372036854775807} × {t : Option Addr × Nat // R.2.length ≤ t.2 ∧ R.2.length ≤ 9223372036854775807}) (fun x => .tuple #[.slice x.1.1.1 R.1.length x.1.1.2, .slice x.2.1.1 R.2.length x.2.1.2]) (fun x => []) (fun x => [sl cU8 x.1.1.1 R.1, sl cInt x.2.1.1 R.2]) := by
 refine con_of_J (n := 52) Tryz.func228 rfl (by kernel_rfl) rfl rfl [(0, .slice none 0 0), (1, .int .u8 (b.toNat : Int))] ⟨rfl, rfl, trivial⟩ fun X hX hr hD => ?_
 replace hR := (ref01_Step.eq_1 ..).symm.trans hR
 refine sr 2 rfl ?_
 refine ip 2 0 [] (by kernel_rfl) ?_
 refine ie ?_
 refine JS1 (fun (_ : Unit) => ref01_Step_j0 b = R) (fun (_ : Unit) => [(0, .slice none 0 0), (1, .int .u8 (b.toNat : Int))]) (fun (_ : Unit) => []) (fun (_ : Unit) => []) ?_ ?_
 ·refine sr 3 rfl ?_
  refine ip 1 2 [(14, .slice none 0 0)] (by kernel_rfl) ?_
  refine ixc rfl (det_call (ref01_Right_c _ rfl) rfl rfl rfl rfl rfl Foll.nil) ?_
  refine ip 1 0 [(16, bv (!ref01_Right))] (by kernel_rfl) ?_
  refine ie ?_
  refine J_if rfl (fun h1 => ?_) (fun h1 => ?_)
  ·replace hR := bt hR h1
   refine J_region 1 rfl ?_
   refine ip 1 0 [(0, .slice none 0 0)] (by kernel_rfl) ?_
   refine JI_end ?_
   exact meet1 () hR ⟨rfl, rfl, trivial⟩ (mk [] rfl) Foll.nil
  ·replace hR := bf hR h1
   refine J_skip ?_
   exact meet1 () hR ⟨rfl, rfl, trivial⟩ (mk [] rfl) Foll.nil
 ·intro _
  rintro hR
  replace hR := (ref01_Step_j0.eq_1 ..).symm.trans hR
  refine sr 7 rfl ?_
  refine it rfl (tri_buildSl0 slt30 rfl rfl) fun b2 => ?_
  have : ([] : List UInt8).length = 0 := rfl
  refine ip 1 5 [(18, .slice none 0 0)] (by kernel_rfl) ?_
  refine ix rfl (det_app_no apt30 rfl rfl rfl rfl rfl rfl (by first | omega | exact Nat.zero_le _ | exact VOk.cap (show VOk 1 0 _ from ⟨rfl, Nat.zero_le _, Nat.zero_le _⟩))) ?_
  have : ([] : List UInt8).length = 0 := rfl
  refine ip 1 3 [(20, .int .u8 (b.toNat : Int))] (by kernel_rfl) ?_
  refine it rfl (tri_buildSl (c := cU8) (xs := ([b] : List UInt8)) slt30 rfl rfl rfl (by kernel_rfl)) fun b3 => ?_
  have : ([b] : List UInt8).length = 1 := rfl
  refine it rfl (tri_app1 (f := cU8) (r := (⟨some b2, 0, []⟩ : VR)) (xs := ([] : List UInt8)) (ys := ([b] : List UInt8)) (pre := []) (post := []) apt30 (fun _ => rfl) (fun _ => rfl) rfl rfl rfl rfl rfl rfl rfl rfl rfl (at_of 0 rfl) (show VOk 1 0 _ from ⟨rfl, Nat.zero_le _, Nat.zero_le _⟩) (by first | omega | (simp <;> omega)) (by first | omega | (simp <;> omega))) fun ⟨r4, hr5⟩ => ?_
  have := VOk.le hr5
  have := VOk.cap hr5
  refine ip 1 0 [(6, .slice (va r4.q) ((([] : List UInt8) ++ ([b] : List UInt8)).length) r4.k)] (by kernel_rfl) ?_
  refine ie ?_
  refine sr 7 rfl ?_
  refine ip 1 6 [(24, .slice (va r4.q) ((([] : List UInt8) ++ ([b] : List UInt8)).length) r4.k)] (by kernel_rfl) ?_
  have := VOk.cap hr5
  have := VOk.le hr5
  refine JI_seal [] [] (T := 5) (c := cU8) (r := r4) (xs := (([] : List UInt8) ++ ([b] : List UInt8))) hr5 (by first | rfl | simp only [List.cons_append, List.append_assoc, List.nil_append, List.append_nil]) ?_
  have hQ := bindVx hR; clear hR; obtain ⟨y3, hy3, hR⟩ := hQ
  refine ixc rfl (det_call (ref01_goesa_c (([] : List UInt8) ++ ([b] : List UInt8)) (va r4.q) r4.k (by first | omega | (simp <;> omega) | (dsimp only; omega) | decide) (by first | omega | (simp <;> omega) | (dsimp only; omega) | decide) y3 hy3) rfl rfl rfl rfl rfl (Foll.pick [0] rfl)) ?_
  refine ip 5 0 [(7, bv y3.1), (8, bv y3.2)] (by kernel_rfl) ?_
  refine ie ?_
  refine J_seq ?_
  refine sr 1 rfl ?_
  refine ip 1 0 [(28, bv y3.2)] (by kernel_rfl) ?_
  refine ie ?_
  refine J_if rfl (fun h6 => ?_) (fun h6 => ?_)
  ·replace hR := bt hR h6
   refine sr 9 rfl ?_
   refine ip 1 8 [(30, .slice (va r4.q) ((([] : List UInt8) ++ ([b] : List UInt8)).length) r4.k)] (by kernel_rfl) ?_
   have hQ := bindVx hR; clear hR; obtain ⟨y1, hy1, hR⟩ := hQ
   refine ixc rfl (det_call (ref01_spana_c (([] : List UInt8) ++ ([b] : List UInt8)) (va r4.q) r4.k (by first | omega | (simp <;> omega) | (dsimp only; omega) | decide) (by first | omega | (simp <;> omega) | (dsimp only; omega) | decide) y1 hy1) rfl rfl rfl rfl rfl (Foll.pick [0] rfl)) ?_
   have := ref01_spana_le (([] : List UInt8) ++ ([b] : List UInt8)); try rw [hy1] at this
   refine ip 7 0 [(9, iv y1.1)] (by kernel_rfl) ?_
   refine ie ?_
   refine sr 4 rfl ?_
   refine ip 1 3 [(35, iv y1.1)] (by kernel_rfl) ?_
   refine it rfl (tri_buildSl (c := cInt) (xs := ([y1.1] : List Int)) slt168 rfl rfl rfl (by kernel_rfl)) fun b7 => ?_
   have : ([y1.1] : List Int).length = 1 := rfl
   refine ip 2 0 [(4, .slice none 0 0), (5, .slice (some ⟨b7, 0, none⟩) 1 1)] (by kernel_rfl) ?_
   refine ie ?_
   refine J_ret ?_
   subst hR
   exact ends_ret rfl ⟨hr, hD⟩ (by simp [hD]) (res2 rfl (resV_tmp rfl) (resV_tmp rfl)) (⟨(none, 0), (by first | omega | (simp <;> omega) | (dsimp only; omega) | decide), (by first | omega | (simp <;> omega) | (dsimp only; omega) | decide)⟩, ⟨(some ⟨b7, 0, none⟩, 1), (by first | omega | (simp <;> omega) | (dsimp only; omega) | decide), (by first | omega | (simp <;> omega) | (dsimp only; omega) | decide)⟩) (by rfl) (mk [] rfl) (Foll.con1 sl_nil (Foll.con1 (at_of 0 rfl) Foll.nil))
  ·replace hR := bf hR h6
   refine J_skip ?_
   refine nx ?_
   refine J_seq ?_
   refine sr 1 rfl ?_
   refine ip 1 0 [(37, bv y3.1)] (by kernel_rfl) ?_
   refine ie ?_
   refine J_if rfl (fun h8 => ?_) (fun h8 => ?_)
   ·replace hR := bt hR h8
    refine sr 3 rfl ?_
    refine ip 3 0 [(4, .slice (va r4.q) ((([] : List UInt8) ++ ([b] : List UInt8)).length) r4.k), (5, .slice none 0 0)] (by kernel_rfl) ?_
    refine ie ?_
    refine J_ret ?_
    subst hR
    exact ends_ret rfl ⟨hr, hD⟩ (by simp [hD]) (res2 rfl (resV_tmp rfl) (resV_tmp rfl)) (⟨(va r4.q, r4.k), (by first | omega | (simp <;> omega) | (dsimp only; omega) | decide), (by first | omega | (simp <;> omega) | (dsimp only; omega) | decide)⟩, ⟨(none, 0), (by first | omega | (simp <;> omega) | (dsimp only; omega) | decide), (by first | omega | (simp <;> omega) | (dsimp only; omega) | decide)⟩) (by rfl) (mk [] rfl) (Foll.con1 (at_of 0 rfl) (Foll.con1 sl_nil Foll.nil))
   ·replace hR := bf hR h8
    refine J_skip ?_
    refine nx ?_
    refine J_seq ?_
    refine sr 3 rfl ?_
    refine ip 3 0 [(41, bv true)] (by kernel_rfl) ?_
    refine ie ?_
    refine J_yes rfl ?_
    refine sr 3 rfl ?_
    refine it rfl (tri_buildSl (c := cInt) (xs := ([65533] : List Int)) slt168 rfl rfl rfl (by kernel_rfl)) fun b9 => ?_
    have : ([65533] : List Int).length = 1 := rfl
    refine ip 2 0 [(4, .slice none 0 0), (5, .slice (some ⟨b9, 0, none⟩) 1 1)] (by kernel_rfl) ?_
    refine ie ?_
    refine J_ret ?_
    subst hR
    exact ends_ret rfl ⟨hr, hD⟩ (by simp [hD]) (res2 rfl (resV_tmp rfl) (resV_tmp rfl)) (⟨(none, 0), (by first | omega | (simp <;> omega) | (dsimp only; omega) | decide), (by first | omega | (simp <;> omega) | (dsimp only; omega) | decide)⟩, ⟨(some ⟨b9, 0, none⟩, 1), (by first | omega | (simp <;> omega) | (dsimp only; omega) | decide), (by first | omega | (simp <;> omega) | (dsimp only; omega) | decide)⟩) (by rfl) (mk [] rfl) (Foll.con1 sl_nil (Foll.con1 (at_of 0 rfl) Foll.nil))

def ref01_Righta (p : List UInt8) : Bool :=
 (bindV (ref01_goesa p) fun (y3 : Bool × Bool) => ((decide ((p.length : Int) = 0)) || (y3.1 && (!y3.2))))

theorem ref01_Righta_c (p : List UInt8) (pq : Option Addr) (pk : Nat) (hlp : p.length ≤ 9223372036854775807) (hcp : p.length ≤ pk) (R : Bool) (hR : ref01_Righta p = R) : ConV Tryz.prog 237 [.slice pq p.length pk] [sl cU8 pq p] (bv R) := by
 refine con_of_J (n := 20) Tryz.func237 rfl (by kernel_rfl) rfl rfl [(0, .slice pq p.length pk)] ⟨rfl, trivial⟩ fun X hX hr hD => ?_
 replace hR := (ref01_Righta.eq_1 ..).symm.trans hR
 refine sr 1 rfl ?_
 refine ip 1 0 [] (by kernel_rfl) ?_
 refine ie ?_
 refine sr 7 rfl ?_
 refine ip 1 6 [(6, .slice pq p.length pk)] (by kernel_rfl) ?_
 have hQ := bindVx hR; clear hR; obtain ⟨y3, hy3, hR⟩ := hQ
 refine ixc rfl (det_call (ref01_goesa_c p pq pk (by first | omega | (simp <;> omega) | (dsimp only; omega) | decide) (by first | omega | (simp <;> omega) | (dsimp only; omega) | decide) y3 hy3) rfl rfl rfl rfl rfl Foll.refl) ?_
 refine ip 5 0 [(3, bv y3.1), (4, bv y3.2)] (by kernel_rfl) ?_
 refine ie ?_
 refine sr 11 rfl ?_
 refine ip 4 7 [(13, bv (decide ((p.length : Int) = 0)))] (by kernel_rfl) ?_
 refine ior 6 1 13 19 (y3.1 && (!y3.2)) rfl (by kernel_rfl) (fun g1 => ?_) ?_
 ·have g1p : ¬ ((p.length : Int) = 0) := by simpa using g1
  refine ip 2 4 [(15, bv y3.1)] (by kernel_rfl) ?_
  refine iand 3 1 15 18 (!y3.2) rfl (by kernel_rfl) (fun g2 => ?_) ?_
  ·refine ip 3 0 [(18, bv (!y3.2))] (by kernel_rfl) ?_
   exact JI_end (armI 2 15 18 g2 Foll.refl (mk [] rfl) rfl rfl rfl rfl rfl)
  refine ip 1 0 [(19, bv (y3.1 && (!y3.2)))] (by kernel_rfl) ?_
  exact JI_end (armI 4 13 19 g1 Foll.refl (mk [] rfl) rfl rfl rfl rfl rfl)
 refine ip 1 0 [(2, bv ((decide ((p.length : Int) = 0)) || (y3.1 && (!y3.2))))] (by kernel_rfl) ?_
 refine ie ?_
 refine J_ret ?_
 subst hR
 exact ends_ret rfl ⟨hr, hD⟩ (by simp [hD]) (res1 rfl (resV_tmp rfl)) () (by rfl) (mk [] rfl) Foll.nil

def ref01_Stepa_j0 (b : UInt8) (pending1 : List UInt8) : List UInt8 × List Int :=
 (bindV (ref01_goesa ((([] : List UInt8) ++ pending1) ++ ([b] : List UInt8))) fun (y3 : Bool × Bool) => (bif y3.2 then (bindV (ref01_spana ((([] : List UInt8) ++ pending1) ++ ([b] : List UInt8))) fun (y1 : Int × Int × Int) => (([] : List UInt8), ([y1.1] : List Int))) else (bif y3.1 then (((([] : List UInt8) ++ pending1) ++ ([b] : List UInt8)), ([] : List Int)) else (bif (decide ((pending1.length : Int) = 0)) then (([] : List UInt8), ([65533] : List Int)) else (bindV (ref01_Step b) fun (y4 : List UInt8 × List Int) => (y4.1, (([65533] : List Int) ++ y4.2)))))))
def ref01_Stepa (pending : List UInt8) (b : UInt8) : List UInt8 × List Int :=
 (bif (!(ref01_Righta pending)) then ref01_Stepa_j0 b ([] : List UInt8) else ref01_Stepa_j0 b pending)

theorem ref01_Stepa_j0_len (b : UInt8) (p : List UInt8) : (ref01_Stepa_j0 b p).1.length ≤ 4 ∧ (ref01_Stepa_j0 b p).2.length ≤ 3 := by
 unfold ref01_Stepa_j0
 simp only [bindV]
 have hs := ref01_Step_len b
 cases h2 : (ref01_goesa ((([] : List UInt8) ++ p) ++ ([b] : List UInt8))).2 with
 | true => simp
 | false =>
  rw [cond_false]
  cases h1 : (ref01_goesa ((([] : List UInt8) ++ p) ++ ([b] : List UInt8))).1 with
  | true =>
   have := ref01_goesa_le _ h1
   simp only [cond_true, List.length_nil]; omega
  | false =>
   rw [cond_false]
   cases (decide ((p.length : Int) = 0)) with
   | true => simp
   | false => simp only [cond_false, List.length_append, List.length_cons, List.length_nil]; omega
theorem ref01_Stepa_len (p : List UInt8) (b : UInt8) : (ref01_Stepa p b).1.length ≤ 4 ∧ (ref01_Stepa p b).2.length ≤ 3 := by
 unfold ref01_Stepa
 cases (!(ref01_Righta p)) <;> simp only [cond_true, cond_false] <;> exact ref01_Stepa_j0_len b _

theorem ref01_Stepa_c (pending : List UInt8) (b : UInt8) (pendingq : Option Addr) (pendingk : Nat) (hlpending : pending.length ≤ 9223372036854775807) (hcpending : pending.length ≤ pendingk) (hp : pending.length ≤ 4) (R : List UInt8 × List Int) (hR : ref01_Stepa pending b = R) : Con Tryz.prog 228 [.slice pendingq pending.length pendingk, .int .u8 (b.toNat : Int)] [] [sl cU8 pendingq pending] ({t : Option Addr × Nat // R.1.length ≤ t.2 ∧ R.1.length ≤ 9223372036854775807} × {t : Option Addr × Nat // R.2.length ≤ t.2 ∧ R.2.length ≤ 9223372036854775807}) (fun x => .tuple #[.slice x.1.1.1 R.1.length x.1.1.2, .slice x.2.1.1 R.2.length x.2.1.2]) (fun x => []) (fun x => [sl cU8 x.1.1.1 R.1, sl cInt x.2.1.1 R.2]) := by
 refine con_of_J (n := 52) Tryz.func228 rfl (by kernel_rfl) rfl rfl [(0, .slice pendingq pending.length pendingk), (1, .int .u8 (b.toNat : Int))] ⟨rfl, rfl, trivial⟩ fun X hX hr hD => ?_
 replace hR := (ref01_Stepa.eq_1 ..).symm.trans hR
 refine sr 2 rfl ?_
 refine ip 2 0 [] (by kernel_rfl) ?_
 refine ie ?_
 refine JS3 (fun (pending1 : List UInt8) (pendingq1 : Option Addr) (pendingk1 : Nat) => ref01_Stepa_j0 b pending1 = R ∧ pending1.length ≤ pendingk1 ∧ pending1.length ≤ 9223372036854775807 ∧ pending1.length ≤ 4) (fun (pending1 : List UInt8) (pendingq1 : Option Addr) (pendingk1 : Nat) => [(0, .slice pendingq1 pending1.length pendingk1), (1, .int .u8 (b.toNat : Int))]) (fun (pending1 : List UInt8) (pendingq1 : Option Addr) (pendingk1 : Nat) => []) (fun (pending1 : List UInt8) (pendingq1 : Option Addr) (pendingk1 : Nat) => [sl cU8 pendingq pending, sl cU8 pendingq1 pending1]) ?_ ?_
 ·refine sr 3 rfl ?_
  refine ip 1 2 [(14, .slice pendingq pending.length pendingk)] (by kernel_rfl) ?_
  refine ixc rfl (det_call (ref01_Righta_c pending pendingq pendingk (by first | omega | (simp <;> omega) | (dsimp only; omega) | decide) (by first | omega | (simp <;> omega) | (dsimp only; omega) | decide) _ rfl) rfl rfl rfl rfl rfl Foll.refl) ?_
  refine ip 1 0 [(16, bv (!(ref01_Righta pending)))] (by kernel_rfl) ?_
  refine ie ?_
  refine J_if rfl (fun h1 => ?_) (fun h1 => ?_)
  ·replace hR := bt hR h1
   refine J_region 1 rfl ?_
   refine ip 1 0 [(0, .slice none 0 0)] (by kernel_rfl) ?_
   refine JI_end ?_
   exact meet3 ([] : List UInt8) none 0 ⟨hR, (by first | omega | (simp <;> omega) | (dsimp only; omega) | decide), (by first | omega | (simp <;> omega) | (dsimp only; omega) | decide), (by first | omega | (simp <;> omega))⟩ ⟨(by first | rfl | (simp only [List.length_set]; rfl) | (simp; done) | (simp; omega)), rfl, trivial⟩ (mk [] rfl) (Foll.con1 (at_of 0 rfl) (Foll.con1 sl_nil Foll.nil))
  ·replace hR := bf hR h1
   refine J_skip ?_
   exact meet3 pending pendingq pendingk ⟨hR, (by first | omega | (simp <;> omega) | (dsimp only; omega) | decide), (by first | omega | (simp <;> omega) | (dsimp only; omega) | decide), (by first | omega | (simp <;> omega))⟩ ⟨(by first | rfl | (simp only [List.length_set]; rfl) | (simp; done) | (simp; omega)), rfl, trivial⟩ (mk [] rfl) (Foll.pick [0, 0] rfl)
 ·intro pending1 pendingq1 pendingk1
  rintro ⟨hR, hcpending1, hlpending1, hj⟩
  replace hR := (ref01_Stepa_j0.eq_1 ..).symm.trans hR
  refine sr 7 rfl ?_
  refine it rfl (tri_buildSl0 slt30 rfl rfl) fun b2 => ?_
  have : ([] : List UInt8).length = 0 := rfl
  refine ip 1 5 [(18, .slice pendingq1 pending1.length pendingk1)] (by kernel_rfl) ?_
  refine it rfl (tri_app2 (f := cU8) (r := (⟨some b2, 0, []⟩ : VR)) (xs := ([] : List UInt8)) (ys := pending1) (pre := []) (post := []) apt30 (fun _ => rfl) (fun _ => rfl) rfl rfl rfl rfl rfl rfl rfl rfl (at_of 1 rfl) (show VOk 1 0 _ from ⟨rfl, Nat.zero_le _, Nat.zero_le _⟩) (by first | omega | (simp <;> omega)) (by first | omega | (simp <;> omega))) fun ⟨r3, hr4⟩ => ?_
  have := VOk.le hr4
  have := VOk.cap hr4
  refine ip 1 3 [(20, .int .u8 (b.toNat : Int))] (by kernel_rfl) ?_
  refine it rfl (tri_buildSl (c := cU8) (xs := ([b] : List UInt8)) slt30 rfl rfl rfl (by kernel_rfl)) fun b5 => ?_
  have : ([b] : List UInt8).length = 1 := rfl
  refine it rfl (tri_app1 (f := cU8) (r := r3) (xs := (([] : List UInt8) ++ pending1)) (ys := ([b] : List UInt8)) (pre := []) (post := []) apt30 (fun _ => rfl) (fun _ => rfl) rfl rfl rfl rfl rfl rfl rfl rfl rfl (at_of 0 rfl) hr4 (by first | omega | (simp <;> omega)) (by first | omega | (simp <;> omega))) fun ⟨r6, hr7⟩ => ?_
  have := VOk.le hr7
  have := VOk.cap hr7
  refine ip 1 0 [(6, .slice (va r6.q) (((([] : List UInt8) ++ pending1) ++ ([b] : List UInt8)).length) r6.k)] (by kernel_rfl) ?_
  refine ie ?_
  refine sr 7 rfl ?_
  refine ip 1 6 [(24, .slice (va r6.q) (((([] : List UInt8) ++ pending1) ++ ([b] : List UInt8)).length) r6.k)] (by kernel_rfl) ?_
  have := VOk.cap hr7
  have := VOk.le hr7
  refine JI_seal [] [] (T := 5) (c := cU8) (r := r6) (xs := ((([] : List UInt8) ++ pending1) ++ ([b] : List UInt8))) hr7 (by first | rfl | simp only [List.cons_append, List.append_assoc, List.nil_append, List.append_nil]) ?_
  have hQ := bindVx hR; clear hR; obtain ⟨y3, hy3, hR⟩ := hQ
  refine ixc rfl (det_call (ref01_goesa_c ((([] : List UInt8) ++ pending1) ++ ([b] : List UInt8)) (va r6.q) r6.k (by first | omega | (simp <;> omega) | (dsimp only; omega) | decide) (by first | omega | (simp <;> omega) | (dsimp only; omega) | decide) y3 hy3) rfl rfl rfl rfl rfl (Foll.pick [0] rfl)) ?_
  refine ip 5 0 [(7, bv y3.1), (8, bv y3.2)] (by kernel_rfl) ?_
  refine ie ?_
  refine J_seq ?_
  refine sr 1 rfl ?_
  refine ip 1 0 [(28, bv y3.2)] (by kernel_rfl) ?_
  refine ie ?_
  refine J_if rfl (fun h8 => ?_) (fun h8 => ?_)
  ·replace hR := bt hR h8
   refine sr 9 rfl ?_
   refine ip 1 8 [(30, .slice (va r6.q) (((([] : List UInt8) ++ pending1) ++ ([b] : List UInt8)).length) r6.k)] (by kernel_rfl) ?_
   have hQ := bindVx hR; clear hR; obtain ⟨y1, hy1, hR⟩ := hQ
   refine ixc rfl (det_call (ref01_spana_c ((([] : List UInt8) ++ pending1) ++ ([b] : List UInt8)) (va r6.q) r6.k (by first | omega | (simp <;> omega) | (dsimp only; omega) | decide) (by first | omega | (simp <;> omega) | (dsimp only; omega) | decide) y1 hy1) rfl rfl rfl rfl rfl (Foll.pick [0] rfl)) ?_
   have := ref01_spana_le ((([] : List UInt8) ++ pending1) ++ ([b] : List UInt8)); try rw [hy1] at this
   refine ip 7 0 [(9, iv y1.1)] (by kernel_rfl) ?_
   refine ie ?_
   refine sr 4 rfl ?_
   refine ip 1 3 [(35, iv y1.1)] (by kernel_rfl) ?_
   refine it rfl (tri_buildSl (c := cInt) (xs := ([y1.1] : List Int)) slt168 rfl rfl rfl (by kernel_rfl)) fun b9 => ?_
   have : ([y1.1] : List Int).length = 1 := rfl
   refine ip 2 0 [(4, .slice none 0 0), (5, .slice (some ⟨b9, 0, none⟩) 1 1)] (by kernel_rfl) ?_
   refine ie ?_
   refine J_ret ?_
   subst hR
   exact ends_ret rfl ⟨hr, hD⟩ (by simp [hD]) (res2 rfl (resV_tmp rfl) (resV_tmp rfl)) (⟨(none, 0), (by first | omega | (simp <;> omega) | (dsimp only; omega) | decide), (by first | omega | (simp <;> omega) | (dsimp only; omega) | decide)⟩, ⟨(some ⟨b9, 0, none⟩, 1), (by first | omega | (simp <;> omega) | (dsimp only; omega) | decide), (by first | omega | (simp <;> omega) | (dsimp only; omega) | decide)⟩) (by rfl) (mk [] rfl) (Foll.con1 sl_nil (Foll.con1 (at_of 0 rfl) Foll.nil))
  ·replace hR := bf hR h8
   refine J_skip ?_
   refine nx ?_
   refine J_seq ?_
   refine sr 1 rfl ?_
   refine ip 1 0 [(37, bv y3.1)] (by kernel_rfl) ?_
   refine ie ?_
   refine J_if rfl (fun h10 => ?_) (fun h10 => ?_)
   ·replace hR := bt hR h10
    refine sr 3 rfl ?_
    refine ip 3 0 [(4, .slice (va r6.q) (((([] : List UInt8) ++ pending1) ++ ([b] : List UInt8)).length) r6.k), (5, .slice none 0 0)] (by kernel_rfl) ?_
    refine ie ?_
    refine J_ret ?_
    subst hR
    exact ends_ret rfl ⟨hr, hD⟩ (by simp [hD]) (res2 rfl (resV_tmp rfl) (resV_tmp rfl)) (⟨(va r6.q, r6.k), (by first | omega | (simp <;> omega) | (dsimp only; omega) | decide), (by first | omega | (simp <;> omega) | (dsimp only; omega) | decide)⟩, ⟨(none, 0), (by first | omega | (simp <;> omega) | (dsimp only; omega) | decide), (by first | omega | (simp <;> omega) | (dsimp only; omega) | decide)⟩) (by rfl) (mk [] rfl) (Foll.con1 (at_of 0 rfl) (Foll.con1 sl_nil Foll.nil))
   ·replace hR := bf hR h10
    refine J_skip ?_
    refine nx ?_
    refine J_seq ?_
    refine sr 3 rfl ?_
    refine ip 3 0 [(41, bv (decide ((pending1.length : Int) = 0)))] (by kernel_rfl) ?_
    refine ie ?_
    refine J_if rfl (fun h11 => ?_) (fun h11 => ?_)
    ·have h11p : (pending1.length : Int) = 0 := by simpa using h11
     replace hR := bt hR h11
     refine sr 3 rfl ?_
     refine it rfl (tri_buildSl (c := cInt) (xs := ([65533] : List Int)) slt168 rfl rfl rfl (by kernel_rfl)) fun b12 => ?_
     have : ([65533] : List Int).length = 1 := rfl
     refine ip 2 0 [(4, .slice none 0 0), (5, .slice (some ⟨b12, 0, none⟩) 1 1)] (by kernel_rfl) ?_
     refine ie ?_
     refine J_ret ?_
     subst hR
     exact ends_ret rfl ⟨hr, hD⟩ (by simp [hD]) (res2 rfl (resV_tmp rfl) (resV_tmp rfl)) (⟨(none, 0), (by first | omega | (simp <;> omega) | (dsimp only; omega) | decide), (by first | omega | (simp <;> omega) | (dsimp only; omega) | decide)⟩, ⟨(some ⟨b12, 0, none⟩, 1), (by first | omega | (simp <;> omega) | (dsimp only; omega) | decide), (by first | omega | (simp <;> omega) | (dsimp only; omega) | decide)⟩) (by rfl) (mk [] rfl) (Foll.con1 sl_nil (Foll.con1 (at_of 0 rfl) Foll.nil))
    ·have h11p : ¬ ((pending1.length : Int) = 0) := by simpa using h11
     replace hR := bf hR h11
     refine J_skip ?_
     refine nx ?_
     refine sr 7 rfl ?_
     refine ip 1 6 [(44, .int .u8 (b.toNat : Int))] (by kernel_rfl) ?_
     have hQ := bindVx hR; clear hR; obtain ⟨y4, hy4, hR⟩ := hQ
     refine it rfl (tri_callN (L2 := []) (ref01_Step_c b (by first | omega | (simp <;> omega)) y4 hy4) rfl rfl rfl rfl rfl Foll.nil (List.Perm.refl _) (fun ⟨⟨⟨q13, k14⟩, hp15⟩, ⟨⟨q18, k19⟩, hp20⟩⟩ => []) (fun _ => rfl)) fun ⟨⟨⟨q13, k14⟩, hp15⟩, ⟨⟨q18, k19⟩, hp20⟩⟩ => ?_
     obtain ⟨hc16, hl17⟩ := hp15
     obtain ⟨hc21, hl22⟩ := hp20
     have := ref01_Step_len b; try rw [hy4] at this
     refine ip 5 0 [(12, .slice q13 y4.1.length k14), (13, .slice q18 y4.2.length k19)] (by kernel_rfl) ?_
     refine ie ?_
     refine sr 6 rfl ?_
     refine ip 1 5 [(48, .slice q13 y4.1.length k14)] (by kernel_rfl) ?_
     refine it rfl (tri_buildSl (c := cInt) (xs := ([65533] : List Int)) slt168 rfl rfl rfl (by kernel_rfl)) fun b23 => ?_
     have : ([65533] : List Int).length = 1 := rfl
     refine ip 1 3 [(50, .slice q18 y4.2.length k19)] (by kernel_rfl) ?_
     refine it rfl (tri_appq (f := cInt) (xs := ([65533] : List Int)) (ys := y4.2) apt168 (fun _ => rfl) (fun _ => rfl) rfl rfl rfl rfl rfl rfl (by omega) (by omega) (by rfl) (at_of 0 rfl) (at_of 2 rfl) (by first | omega | (simp <;> omega)) (by first | omega | (simp <;> omega))) fun ⟨⟨q24, k25⟩, hq26⟩ => ?_
     refine ip 2 0 [(4, .slice q13 y4.1.length k14), (5, .slice q24 ((([65533] : List Int) ++ y4.2).length) k25)] (by kernel_rfl) ?_
     refine ie ?_
     refine J_ret ?_
     subst hR
     exact ends_ret rfl ⟨hr, hD⟩ (by simp [hD]) (res2 rfl (resV_tmp rfl) (resV_tmp rfl)) (⟨(q13, k14), (by first | omega | (simp <;> omega) | (dsimp only; omega) | decide), (by first | omega | (simp <;> omega) | (dsimp only; omega) | decide)⟩, ⟨(q24, k25), (by first | omega | (simp <;> omega) | (dsimp only; omega) | decide), (by first | omega | (simp <;> omega) | (dsimp only; omega) | decide)⟩) (by rfl) (mk [] rfl) (Foll.con1 (at_of 2 rfl) (Foll.con1 (at_of 0 rfl) Foll.nil))

def ref01_Flush (pending : List UInt8) : List Int :=
 (bif ((decide ((0 : Int) < (pending.length : Int))) && (ref01_Righta pending)) then ([65533] : List Int) else ([] : List Int))

theorem ref01_Flush_len (p : List UInt8) : (ref01_Flush p).length ≤ 1 := by
 unfold ref01_Flush
 cases ((decide ((0 : Int) < (p.length : Int))) && (ref01_Righta p)) <;> simp

theorem ref01_Flush_c (pending : List UInt8) (pendingq : Option Addr) (pendingk : Nat) (hlpending : pending.length ≤ 9223372036854775807) (hcpending : pending.length ≤ pendingk) (R : List Int) (hR : ref01_Flush pending = R) : Con Tryz.prog 229 [.slice pendingq pending.length pendingk] [] [sl cU8 pendingq pending] ({t : Option Addr × Nat // R.length ≤ t.2 ∧ R.length ≤ 9223372036854775807}) (fun x => .slice x.1.1 R.length x.1.2) (fun x => []) (fun x => [sl cInt x.1.1 R]) := by
 refine con_of_J (n := 11) Tryz.func229 rfl (by kernel_rfl) rfl rfl [(0, .slice pendingq pending.length pendingk)] ⟨rfl, trivial⟩ fun X hX hr hD => ?_
 replace hR := (ref01_Flush.eq_1 ..).symm.trans hR
 refine sr 1 rfl ?_
 refine ip 1 0 [] (by kernel_rfl) ?_
 refine ie ?_
 refine J_seq ?_
 refine sr 7 rfl ?_
 refine ip 4 3 [(6, bv (decide ((0 : Int) < (pending.length : Int))))] (by kernel_rfl) ?_
 refine iand 3 0 6 9 (ref01_Righta pending) rfl (by kernel_rfl) (fun g1 => ?_) ?_
 ·have g1p : (0 : Int) < (pending.length : Int) := by simpa using g1
  refine ip 1 2 [(7, .slice pendingq pending.length pendingk)] (by kernel_rfl) ?_
  refine ixc rfl (det_call (ref01_Righta_c pending pendingq pendingk (by first | omega | (simp <;> omega) | (dsimp only; omega) | decide) (by first | omega | (simp <;> omega) | (dsimp only; omega) | decide) _ rfl) rfl rfl rfl rfl rfl Foll.refl) ?_
  refine ip 1 0 [(9, bv (ref01_Righta pending))] (by kernel_rfl) ?_
  exact JI_end (armI 4 6 9 g1 Foll.refl (mk [] rfl) rfl rfl rfl rfl rfl)
 refine ie ?_
 refine J_if rfl (fun h2 => ?_) (fun h2 => ?_)
 ·have h2p := h2; try simp at h2p
  replace hR := bt hR h2
  refine sr 2 rfl ?_
  refine it rfl (tri_buildSl (c := cInt) (xs := ([65533] : List Int)) slt168 rfl rfl rfl (by kernel_rfl)) fun b3 => ?_
  have : ([65533] : List Int).length = 1 := rfl
  refine ip 1 0 [(2, .slice (some ⟨b3, 0, none⟩) 1 1)] (by kernel_rfl) ?_
  refine ie ?_
  refine J_ret ?_
  subst hR
  exact ends_ret rfl ⟨hr, hD⟩ (by simp [hD]) (res1 rfl (resV_tmp rfl)) ⟨(some ⟨b3, 0, none⟩, 1), (by first | omega | (simp <;> omega) | (dsimp only; omega) | decide), (by first | omega | (simp <;> omega) | (dsimp only; omega) | decide)⟩ (by rfl) (mk [] rfl) (Foll.con1 (at_of 0 rfl) Foll.nil)
 ·have h2p := h2; try simp at h2p
  replace hR := bf hR h2
  refine J_skip ?_
  refine nx ?_
  refine sr 1 rfl ?_
  refine ip 1 0 [(2, .slice none 0 0)] (by kernel_rfl) ?_
  refine ie ?_
  refine J_ret ?_
  subst hR
  exact ends_ret rfl ⟨hr, hD⟩ (by simp [hD]) (res1 rfl (resV_tmp rfl)) ⟨(none, 0), (by first | omega | (simp <;> omega) | (dsimp only; omega) | decide), (by first | omega | (simp <;> omega) | (dsimp only; omega) | decide)⟩ (by rfl) (mk [] rfl) (Foll.con1 sl_nil Foll.nil)

def ref01_Codes_l0 : List UInt8 → List Int → List UInt8 → Nat → List Int
 | [], out, pending, i => (bindV (ref01_Flush pending) fun (y8 : List Int) => (out ++ y8))
 | hd_l0 :: tl_l0, out, pending, i => (bindV (ref01_Stepa pending hd_l0) fun (y6 : List UInt8 × List Int) => ref01_Codes_l0 tl_l0 (out ++ y6.2) y6.1 (i + 1))
def ref01_Codes (s : List UInt8) : List Int :=
 ref01_Codes_l0 s ([] : List Int) ([] : List UInt8) 0

theorem ref01_Codes_l0_len : ∀ (xs : List UInt8) (out : List Int) (p : List UInt8) (i : Nat), (ref01_Codes_l0 xs out p i).length ≤ out.length + 3 * xs.length + 1
 | [], out, p, i => by
  have := ref01_Flush_len p
  simp only [ref01_Codes_l0, bindV, List.length_append, List.length_nil]; omega
 | x :: xs, out, p, i => by
  have := ref01_Stepa_len p x
  have := ref01_Codes_l0_len xs (out ++ (ref01_Stepa p x).2) (ref01_Stepa p x).1 (i + 1)
  simp only [ref01_Codes_l0, bindV, List.length_append, List.length_cons] at *; omega
theorem ref01_Codes_len (s : List UInt8) : (ref01_Codes s).length ≤ 3 * s.length + 1 := by
 have := ref01_Codes_l0_len s [] [] 0
 simp only [List.length_nil] at this
 unfold ref01_Codes; omega

theorem ref01_Codes_c (s : List UInt8) (hs : s.length ≤ 1000000) (R : List Int) (hR : ref01_Codes s = R) : Con Tryz.prog 204 [sv s] [] [] ({r : VR // VOk 1 R.length r}) (fun x => .slice (va x.1.q) R.length x.1.k) (fun x => ((vo cInt 3 x.1 R) ++ ([]))) (fun x => []) := by
 refine con_of_J (n := 30) Tryz.func204 rfl (by kernel_rfl) rfl rfl [(0, sv s)] ⟨rfl, trivial⟩ fun X hX hr hD => ?_
 replace hR := (ref01_Codes.eq_1 ..).symm.trans hR
 refine sr 1 rfl ?_
 refine ip 1 0 [] (by kernel_rfl) ?_
 refine ie ?_
 refine sr 1 rfl ?_
 refine ip 1 0 [(3, .slice none 0 0)] (by kernel_rfl) ?_
 refine ie ?_
 refine sr 1 rfl ?_
 refine ip 1 0 [(4, .slice none 0 0)] (by kernel_rfl) ?_
 refine ie ?_
 refine J_seq ?_
 refine sr 1 rfl ?_
 refine ip 1 0 [(5, iv 0)] (by kernel_rfl) ?_
 refine ie ?_
 refine J_block ?_
 refine JL6 (fun (out : List Int) (outr : VR) (pending : List UInt8) (pendingq : Option Addr) (pendingk : Nat) (i : Nat) => i ≤ s.length ∧ ref01_Codes_l0 (s.drop i) out pending i = R ∧ VOk 1 out.length outr ∧ pending.length ≤ pendingk ∧ pending.length ≤ 9223372036854775807 ∧ pending.length ≤ 4 ∧ out.length ≤ 3 * i) (fun (out : List Int) (outr : VR) (pending : List UInt8) (pendingq : Option Addr) (pendingk : Nat) (i : Nat) => [(0, sv s), (3, .slice (va outr.q) out.length outr.k), (4, .slice pendingq pending.length pendingk), (5, iv (i : Int))]) (fun (out : List Int) (outr : VR) (pending : List UInt8) (pendingq : Option Addr) (pendingk : Nat) (i : Nat) => ((vo cInt 3 outr out) ++ ([]))) (fun (out : List Int) (outr : VR) (pending : List UInt8) (pendingq : Option Addr) (pendingk : Nat) (i : Nat) => [sl cU8 pendingq pending]) (fun (out : List Int) (outr : VR) (pending : List UInt8) (pendingq : Option Addr) (pendingk : Nat) (i : Nat) => s.length - i) ([] : List Int) VR.nil ([] : List UInt8) none 0 0 ⟨(by omega), hR, VOk.nil, (by first | omega | (simp <;> omega) | (dsimp only; omega) | decide), (by first | omega | (simp <;> omega) | (dsimp only; omega) | decide), (by simp), (by simp)⟩ ⟨rfl, (by first | rfl | (simp only [List.length_set]; rfl) | (simp; done) | (simp; omega)), (by first | rfl | (simp only [List.length_set]; rfl) | (simp; done) | (simp; omega)), (by first | rfl | (simp only [List.length_set]; rfl) | (simp; done) | (simp; omega)), trivial⟩ (mc [vo cInt 3 VR.nil ([] : List Int)] [true] rfl (by first | rfl | (simp only [List.length_set] <;> rfl))) (Foll.con1 sl_nil Foll.nil) ?_
 rintro out outr pending pendingq pendingk i ⟨hm1, hR, hokoutr, hcpending, hlpending, hpl, hol⟩
 have := VOk.le hokoutr
 refine J_seq ?_
 refine sr 4 rfl ?_
 refine ip 4 0 [(11, bv (decide ((i : Int) < (s.length : Int))))] (by kernel_rfl) ?_
 refine ie ?_
 refine J_if rfl (fun h2 => ?_) (fun h2 => ?_)
 ·have h2p : (i : Int) < (s.length : Int) := by simpa using h2
  rw [dropc 0 (show i < s.length by omega)] at hR; replace hR := (ref01_Codes_l0.eq_2 ..).symm.trans hR
  refine J_skip ?_
  refine nx ?_
  refine J_seq ?_
  refine J_block ?_
  refine sr 10 rfl ?_
  refine ip 3 7 [(15, .slice pendingq pending.length pendingk), (16, sv s), (17, iv (i : Int))] (by kernel_rfl) ?_
  refine ix rfl (det_stix (T := 9) Tryz.underlying9 rfl rfl rfl i rfl (by omega)) ?_
  have hQ := bindVx hR; clear hR; obtain ⟨y6, hy6, hR⟩ := hQ
  refine it rfl (tri_callN (L2 := ((vo cInt 3 outr out) ++ ([]))) (ref01_Stepa_c pending (s.getD i 0) pendingq pendingk (by first | omega | (simp <;> omega) | (dsimp only; omega) | decide) (by first | omega | (simp <;> omega) | (dsimp only; omega) | decide) (by first | omega | (simp <;> omega)) y6 hy6) rfl rfl rfl rfl rfl Foll.refl (List.Perm.refl _) (fun ⟨⟨⟨q3, k4⟩, hp5⟩, ⟨⟨q8, k9⟩, hp10⟩⟩ => ((vo cInt 3 outr out) ++ ([]))) (fun _ => by first | rfl | simp only [List.append_nil, List.cons_append, List.nil_append, List.append_assoc])) fun ⟨⟨⟨q3, k4⟩, hp5⟩, ⟨⟨q8, k9⟩, hp10⟩⟩ => ?_
  obtain ⟨hc6, hl7⟩ := hp5
  obtain ⟨hc11, hl12⟩ := hp10
  have := ref01_Stepa_len pending (s.getD i 0); try rw [hy6] at this
  refine ip 5 0 [(6, .slice q3 y6.1.length k4), (7, .slice q8 y6.2.length k9)] (by kernel_rfl) ?_
  refine ie ?_
  refine sr 2 rfl ?_
  refine ip 2 0 [(4, .slice q3 y6.1.length k4)] (by kernel_rfl) ?_
  refine ie ?_
  refine J_region 4 rfl ?_
  refine ip 2 2 [(23, .slice (va outr.q) out.length outr.k), (24, .slice q8 y6.2.length k9)] (by kernel_rfl) ?_
  refine it rfl (tri_app2 (f := cInt) (r := outr) (xs := out) (ys := y6.2) (pre := []) (post := []) apt168 (fun _ => rfl) (fun _ => rfl) rfl rfl rfl rfl rfl rfl rfl rfl (at_of 1 rfl) hokoutr (by first | omega | (simp <;> omega)) (by first | omega | (simp <;> omega))) fun ⟨r13, hr14⟩ => ?_
  have : (out ++ y6.2).length = out.length + y6.2.length := List.length_append
  have := VOk.le hr14
  have := VOk.cap hr14
  refine ip 1 0 [(3, .slice (va r13.q) ((out ++ y6.2).length) r13.k)] (by kernel_rfl) ?_
  refine JI_end ?_
  refine nx ?_
  refine J_region 3 rfl ?_
  refine ip 1 2 [(12, iv (i : Int))] (by kernel_rfl) ?_
  refine ix rfl (det_add64 rfl rfl rfl rfl (by omega)) ?_
  refine ip 1 0 [(5, iv ((i : Int) + 1))] (by kernel_rfl) ?_
  refine JI_end ?_
  exact againL6 (z1 := out) (z2 := outr) (z3 := pending) (z4 := pendingq) (z5 := pendingk) (z6 := i) (out ++ y6.2) r13 y6.1 q3 k4 (i + 1) ⟨(by omega), hR, hr14, (by first | omega | (simp <;> omega) | (dsimp only; omega) | decide), (by first | omega | (simp <;> omega) | (dsimp only; omega) | decide), (by omega), (by first | omega | (simp <;> omega))⟩ (by (try dsimp only); omega) ⟨rfl, (by first | rfl | (simp only [List.length_set]; rfl) | (simp; done) | (simp; omega)), (by first | rfl | (simp only [List.length_set]; rfl) | (simp; done) | (simp; omega)), (by first | rfl | (simp only [List.length_set]; rfl) | (simp; done) | (simp; omega)), trivial⟩ (mc [vo cInt 3 r13 (out ++ y6.2)] [true] rfl (by first | rfl | (simp only [List.length_set] <;> rfl))) (Foll.pick [0] rfl)
 ·have h2p : ¬ ((i : Int) < (s.length : Int)) := by simpa using h2
  rw [dropn h2p] at hR; replace hR := (ref01_Codes_l0.eq_1 ..).symm.trans hR
  refine J_exit ?_
  refine nx ?_
  refine sr 5 rfl ?_
  refine ip 2 3 [(26, .slice (va outr.q) out.length outr.k), (27, .slice pendingq pending.length pendingk)] (by kernel_rfl) ?_
  have hQ := bindVx hR; clear hR; obtain ⟨y8, hy8, hR⟩ := hQ
  refine it rfl (tri_callN (L2 := ((vo cInt 3 outr out) ++ ([]))) (ref01_Flush_c pending pendingq pendingk (by first | omega | (simp <;> omega) | (dsimp only; omega) | decide) (by first | omega | (simp <;> omega) | (dsimp only; omega) | decide) y8 hy8) rfl rfl rfl rfl rfl Foll.refl (List.Perm.refl _) (fun ⟨⟨q15, k16⟩, hp17⟩ => ((vo cInt 3 outr out) ++ ([]))) (fun _ => by first | rfl | simp only [List.append_nil, List.cons_append, List.nil_append, List.append_assoc])) fun ⟨⟨q15, k16⟩, hp17⟩ => ?_
  obtain ⟨hc18, hl19⟩ := hp17
  have := ref01_Flush_len pending; try rw [hy8] at this
  refine it rfl (tri_app2 (f := cInt) (r := outr) (xs := out) (ys := y8) (pre := []) (post := []) apt168 (fun _ => rfl) (fun _ => rfl) rfl rfl rfl rfl rfl rfl rfl rfl (at_of 0 rfl) hokoutr (by first | omega | (simp <;> omega)) (by first | omega | (simp <;> omega))) fun ⟨r20, hr21⟩ => ?_
  have : (out ++ y8).length = out.length + y8.length := List.length_append
  have := VOk.le hr21
  have := VOk.cap hr21
  refine ip 1 0 [(2, .slice (va r20.q) ((out ++ y8).length) r20.k)] (by kernel_rfl) ?_
  refine ie ?_
  refine J_ret ?_
  subst hR
  exact ends_ret rfl ⟨hr, hD⟩ (by simp [hD]) (res1 rfl (resV_tmp rfl)) ⟨r20, hr21⟩ (by rfl) (mc [vo cInt 3 r20 (out ++ y8)] [true] rfl (by first | rfl | (simp only [List.length_set] <;> rfl))) Foll.nil

def ref01_Check (cp : Int) : Bool :=
 (((decide ((0 : Int) ≤ cp)) && (decide (cp ≤ 1114111))) && ((decide (cp < 55296)) || (decide ((57343 : Int) < cp))))

theorem ref01_Check_c (cp : Int) (R : Bool) (hR : ref01_Check cp = R) : ConV Tryz.prog 160 [iv cp] [] (bv R) := by
 refine con_of_J (n := 17) Tryz.func160 rfl (by kernel_rfl) rfl rfl [(0, iv cp)] ⟨rfl, trivial⟩ fun X hX hr hD => ?_
 replace hR := (ref01_Check.eq_1 ..).symm.trans hR
 refine sr 1 rfl ?_
 refine ip 1 0 [] (by kernel_rfl) ?_
 refine ie ?_
 refine sr 15 rfl ?_
 refine ip 3 12 [(5, bv (decide ((0 : Int) ≤ cp)))] (by kernel_rfl) ?_
 refine iand 3 9 5 8 (decide (cp ≤ 1114111)) rfl (by kernel_rfl) (fun g1 => ?_) ?_
 ·have g1p : (0 : Int) ≤ cp := by simpa using g1
  refine ip 3 0 [(8, bv (decide (cp ≤ 1114111)))] (by kernel_rfl) ?_
  exact JI_end (armI 2 5 8 g1 Foll.nil (mk [] rfl) rfl rfl rfl rfl rfl)
 refine ip 1 8 [(9, bv ((decide ((0 : Int) ≤ cp)) && (decide (cp ≤ 1114111))))] (by kernel_rfl) ?_
 refine iand 7 1 9 16 ((decide (cp < 55296)) || (decide ((57343 : Int) < cp))) rfl (by kernel_rfl) (fun g2 => ?_) ?_
 ·have g2p : ((0 : Int) ≤ cp) ∧ (cp ≤ 1114111) := by simpa using g2
  refine ip 3 4 [(12, bv (decide (cp < 55296)))] (by kernel_rfl) ?_
  refine ior 3 1 12 15 (decide ((57343 : Int) < cp)) rfl (by kernel_rfl) (fun g3 => ?_) ?_
  ·have g3p : ¬ (cp < 55296) := by simpa using g3
   refine ip 3 0 [(15, bv (decide ((57343 : Int) < cp)))] (by kernel_rfl) ?_
   exact JI_end (armI 2 12 15 g3 Foll.nil (mk [] rfl) rfl rfl rfl rfl rfl)
  refine ip 1 0 [(16, bv ((decide (cp < 55296)) || (decide ((57343 : Int) < cp))))] (by kernel_rfl) ?_
  exact JI_end (armI 4 9 16 g2 Foll.nil (mk [] rfl) rfl rfl rfl rfl rfl)
 refine ip 1 0 [(2, bv (((decide ((0 : Int) ≤ cp)) && (decide (cp ≤ 1114111))) && ((decide (cp < 55296)) || (decide ((57343 : Int) < cp)))))] (by kernel_rfl) ?_
 refine ie ?_
 refine J_ret ?_
 subst hR
 exact ends_ret rfl ⟨hr, hD⟩ (by simp [hD]) (res1 rfl (resV_tmp rfl)) () (by rfl) (mk [] rfl) Foll.nil

def ref01_size (cp : Int) : Int :=
 (bif (decide (cp < 128)) then 1 else (bif (decide (cp < 2048)) then 2 else (bif (decide (cp < 65536)) then 3 else 4)))

theorem ref01_size_le (cp : Int) : 1 ≤ ref01_size cp ∧ ref01_size cp ≤ 4 := by
 unfold ref01_size
 cases decide (cp < 128) <;> cases decide (cp < 2048) <;> cases decide (cp < 65536) <;> simp

theorem ref01_size_c (cp : Int) (R : Int) (hR : ref01_size cp = R) : ConV Tryz.prog 161 [iv cp] [] (iv R) := by
 refine con_of_J (n := 9) Tryz.func161 rfl (by kernel_rfl) rfl rfl [(0, iv cp)] ⟨rfl, trivial⟩ fun X hX hr hD => ?_
 replace hR := (ref01_size.eq_1 ..).symm.trans hR
 refine sr 1 rfl ?_
 refine ip 1 0 [] (by kernel_rfl) ?_
 refine ie ?_
 refine J_seq ?_
 refine sr 2 rfl ?_
 refine ip 2 0 [(4, bv (decide (cp < 128)))] (by kernel_rfl) ?_
 refine ie ?_
 refine J_if rfl (fun h1 => ?_) (fun h1 => ?_)
 ·have h1p : cp < 128 := by simpa using h1
  replace hR := bt hR h1
  refine sr 1 rfl ?_
  refine ip 1 0 [(2, iv 1)] (by kernel_rfl) ?_
  refine ie ?_
  refine J_ret ?_
  subst hR
  exact ends_ret rfl ⟨hr, hD⟩ (by simp [hD]) (res1 rfl (resV_tmp rfl)) () (by rfl) (mk [] rfl) Foll.nil
 ·have h1p : ¬ (cp < 128) := by simpa using h1
  replace hR := bf hR h1
  refine J_skip ?_
  refine nx ?_
  refine J_seq ?_
  refine sr 2 rfl ?_
  refine ip 2 0 [(6, bv (decide (cp < 2048)))] (by kernel_rfl) ?_
  refine ie ?_
  refine J_if rfl (fun h2 => ?_) (fun h2 => ?_)
  ·have h2p : cp < 2048 := by simpa using h2
   replace hR := bt hR h2
   refine sr 1 rfl ?_
   refine ip 1 0 [(2, iv 2)] (by kernel_rfl) ?_
   refine ie ?_
   refine J_ret ?_
   subst hR
   exact ends_ret rfl ⟨hr, hD⟩ (by simp [hD]) (res1 rfl (resV_tmp rfl)) () (by rfl) (mk [] rfl) Foll.nil
  ·have h2p : ¬ (cp < 2048) := by simpa using h2
   replace hR := bf hR h2
   refine J_skip ?_
   refine nx ?_
   refine J_seq ?_
   refine sr 2 rfl ?_
   refine ip 2 0 [(8, bv (decide (cp < 65536)))] (by kernel_rfl) ?_
   refine ie ?_
   refine J_if rfl (fun h3 => ?_) (fun h3 => ?_)
   ·have h3p : cp < 65536 := by simpa using h3
    replace hR := bt hR h3
    refine sr 1 rfl ?_
    refine ip 1 0 [(2, iv 3)] (by kernel_rfl) ?_
    refine ie ?_
    refine J_ret ?_
    subst hR
    exact ends_ret rfl ⟨hr, hD⟩ (by simp [hD]) (res1 rfl (resV_tmp rfl)) () (by rfl) (mk [] rfl) Foll.nil
   ·have h3p : ¬ (cp < 65536) := by simpa using h3
    replace hR := bf hR h3
    refine J_skip ?_
    refine nx ?_
    refine sr 1 rfl ?_
    refine ip 1 0 [(2, iv 4)] (by kernel_rfl) ?_
    refine ie ?_
    refine J_ret ?_
    subst hR
    exact ends_ret rfl ⟨hr, hD⟩ (by simp [hD]) (res1 rfl (resV_tmp rfl)) () (by rfl) (mk [] rfl) Foll.nil

def ref01_Put_l0 (cp1 : Int) : Nat → Int → List UInt8 → Int → List UInt8
 | 0, _, _, _ => []
 | fu1 + 1, cp2, b, i => (bif (decide ((0 : Int) < i)) then ref01_Put_l0 cp1 fu1 (IntKind.i64.wrap (Int.tdiv cp2 64)) (b.set ((i).toNat) (by8 (IntKind.u8.wrap (128 + (Int.tmod cp2 64))))) (i - 1) else (b.set 0 (by8 (IntKind.u8.wrap ((([0, 0, 192, 224, 240] : List Int).getD ((ref01_size cp1).toNat) 0) + cp2)))))
def ref01_Put_j0 (cp1 : Int) : List UInt8 :=
 (bif (decide ((ref01_size cp1) = 1)) then ([(by8 (IntKind.u8.wrap cp1))] : List UInt8) else ref01_Put_l0 cp1 ((((ref01_size cp1) - 1) - (0 : Int)).toNat + 1) cp1 (List.replicate ((ref01_size cp1).toNat) (0 : UInt8)) ((ref01_size cp1) - 1))
def ref01_Put (cp : Int) : List UInt8 :=
 (bif (!(ref01_Check cp)) then ref01_Put_j0 65533 else ref01_Put_j0 cp)

theorem ref01_Put_l0_len (c : Int) : ∀ (fu : Nat) (x : Int) (b : List UInt8) (i : Int), b.length ≤ 4 → (ref01_Put_l0 c fu x b i).length ≤ 4
 | 0, x, b, i, h => by simp [ref01_Put_l0]
 | fu + 1, x, b, i, h => by
  simp only [ref01_Put_l0]
  cases (decide ((0 : Int) < i)) with
  | true => rw [cond_true]; exact ref01_Put_l0_len c fu _ _ _ (by rw [List.length_set]; exact h)
  | false => rw [cond_false, List.length_set]; exact h
theorem ref01_Put_j0_len (c : Int) : (ref01_Put_j0 c).length ≤ 4 := by
 have := ref01_size_le c
 unfold ref01_Put_j0
 cases (decide ((ref01_size c) = 1)) with
 | true => simp
 | false => rw [cond_false]; exact ref01_Put_l0_len c _ _ _ _ (by rw [List.length_replicate]; omega)
theorem ref01_Put_len (c : Int) : (ref01_Put c).length ≤ 4 := by
 unfold ref01_Put
 cases (!(ref01_Check c)) <;> simp only [cond_true, cond_false] <;> exact ref01_Put_j0_len _

theorem ref01_Put_c (cp : Int) (R : List UInt8) (hR : ref01_Put cp = R) : ConV Tryz.prog 118 [iv cp] [] (sv R) := by
 refine con_of_J (n := 46) Tryz.func118 rfl (by kernel_rfl) rfl rfl [(0, iv cp)] ⟨rfl, trivial⟩ fun X hX hr hD => ?_
 replace hR := (ref01_Put.eq_1 ..).symm.trans hR
 refine sr 1 rfl ?_
 refine ip 1 0 [] (by kernel_rfl) ?_
 refine ie ?_
 refine JS1 (fun (cp1 : Int) => ref01_Put_j0 cp1 = R ∧ cp1 ≤ 1114111 ∧ 0 ≤ cp1) (fun (cp1 : Int) => [(0, iv cp1)]) (fun (cp1 : Int) => []) (fun (cp1 : Int) => []) ?_ ?_
 ·refine sr 3 rfl ?_
  refine ip 1 2 [(7, iv cp)] (by kernel_rfl) ?_
  refine ixc rfl (det_call (ref01_Check_c cp _ rfl) rfl rfl rfl rfl rfl Foll.nil) ?_
  refine ip 1 0 [(9, bv (!(ref01_Check cp)))] (by kernel_rfl) ?_
  refine ie ?_
  refine J_if rfl (fun h1 => ?_) (fun h1 => ?_)
  ·replace hR := bt hR h1
   refine J_region 1 rfl ?_
   refine ip 1 0 [(0, iv 65533)] (by kernel_rfl) ?_
   refine JI_end ?_
   exact meet1 65533 ⟨hR, (by omega)⟩ ⟨(by first | rfl | (simp only [List.length_set]; rfl) | (simp; done) | (simp; omega)), trivial⟩ (mk [] rfl) Foll.nil
  ·replace hR := bf hR h1
   have hck : 0 ≤ cp ∧ cp ≤ 1114111 := by have q := h1; simp [ref01_Check] at q; omega
   refine J_skip ?_
   exact meet1 cp ⟨hR, (by omega)⟩ ⟨(by first | rfl | (simp only [List.length_set]; rfl) | (simp; done) | (simp; omega)), trivial⟩ (mk [] rfl) Foll.nil
 ·intro cp1
  rintro ⟨hR, hcp⟩
  replace hR := (ref01_Put_j0.eq_1 ..).symm.trans hR
  refine sr 3 rfl ?_
  refine ip 1 2 [(10, iv cp1)] (by kernel_rfl) ?_
  refine ixc rfl (det_call (ref01_size_c cp1 _ rfl) rfl rfl rfl rfl rfl Foll.nil) ?_
  have := ref01_size_le cp1
  refine ip 1 0 [(3, iv (ref01_size cp1))] (by kernel_rfl) ?_
  refine ie ?_
  refine J_seq ?_
  refine sr 2 rfl ?_
  refine ip 2 0 [(13, bv (decide ((ref01_size cp1) = 1)))] (by kernel_rfl) ?_
  refine ie ?_
  refine J_if rfl (fun h2 => ?_) (fun h2 => ?_)
  ·have h2p : (ref01_size cp1) = 1 := by simpa using h2
   replace hR := bt hR h2
   refine sr 5 rfl ?_
   refine ip 1 4 [(14, iv cp1)] (by kernel_rfl) ?_
   refine ix rfl (det_conv (v := .int .u8 (IntKind.u8.wrap cp1)) (DetR.pure rfl) (u8_wrap)) ?_
   refine it rfl (tri_buildSl (c := cU8) (xs := ([(by8 (IntKind.u8.wrap cp1))] : List UInt8)) slt30 rfl rfl rfl (by kernel_rfl)) fun b3 => ?_
   have : ([(by8 (IntKind.u8.wrap cp1))] : List UInt8).length = 1 := rfl
   refine ix rfl (det_b2s Tryz.underlying9 Tryz.underlying30 rfl rfl (at_of 0 rfl) rfl (by kernel_rfl)) ?_
   have : ([(by8 (IntKind.u8.wrap cp1))] : List UInt8).length = 1 := rfl
   refine ip 1 0 [(2, sv ([(by8 (IntKind.u8.wrap cp1))] : List UInt8))] (by kernel_rfl) ?_
   refine ie ?_
   refine J_ret ?_
   subst hR
   exact ends_ret rfl ⟨hr, hD⟩ (by simp [hD]) (res1 rfl (resV_tmp rfl)) () (by rfl) (mk [] rfl) Foll.nil
  ·have h2p : ¬ ((ref01_size cp1) = 1) := by simpa using h2
   replace hR := bf hR h2
   have hsz := ref01_size_le cp1
   refine J_skip ?_
   refine nx ?_
   refine sr 3 rfl ?_
   refine ip 1 2 [(18, iv (ref01_size cp1))] (by kernel_rfl) ?_
   refine it rfl (tri_make (f := cU8) (l := (ref01_size cp1).toNat) (c := (ref01_size cp1).toNat) 0 apt30 zero5.ok (fun _ => rfl) rfl (by exact congrArg (fun z => some (Value.int .i64 z)) (show (ref01_size cp1) = (((ref01_size cp1).toNat : Nat) : Int) by omega)) (by exact congrArg (fun z => some (Value.int .i64 z)) (show (ref01_size cp1) = (((ref01_size cp1).toNat : Nat) : Int) by omega)) (by omega) (by first | omega | (simp <;> omega)) (by omega)) fun ⟨r4, hr5⟩ => ?_
   have := VOk.le hr5
   have := VOk.cap hr5
   refine ip 1 0 [(4, .slice (va r4.q) ((List.replicate ((ref01_size cp1).toNat) (0 : UInt8)).length) r4.k)] (by kernel_rfl) ?_
   refine ie ?_
   refine J_seq ?_
   refine sr 3 rfl ?_
   refine ip 1 2 [(20, iv (ref01_size cp1))] (by kernel_rfl) ?_
   refine ix rfl (det_sub64 rfl rfl rfl rfl (by omega)) ?_
   refine ip 1 0 [(5, iv ((ref01_size cp1) - 1))] (by kernel_rfl) ?_
   refine ie ?_
   refine J_block ?_
   refine JL5 (fun (fu : Nat) (cp2 : Int) (b : List UInt8) (br : VR) (i : Int) => (i - (0 : Int)).toNat < fu ∧ ref01_Put_l0 cp1 fu cp2 b i = R ∧ VOk 1 b.length br ∧ (0 ≤ cp2 ∧ cp2 ≤ 1114111) ∧ (b.length : Int) = ref01_size cp1 ∧ 0 ≤ i ∧ i < ref01_size cp1) (fun (fu : Nat) (cp2 : Int) (b : List UInt8) (br : VR) (i : Int) => [(0, iv cp2), (3, iv (ref01_size cp1)), (4, .slice (va br.q) b.length br.k), (5, iv i)]) (fun (fu : Nat) (cp2 : Int) (b : List UInt8) (br : VR) (i : Int) => ((vo cU8 5 br b) ++ ([]))) (fun (fu : Nat) (cp2 : Int) (b : List UInt8) (br : VR) (i : Int) => []) (fun (fu : Nat) (cp2 : Int) (b : List UInt8) (br : VR) (i : Int) => fu) ((((ref01_size cp1) - 1) - (0 : Int)).toNat + 1) cp1 (List.replicate ((ref01_size cp1).toNat) (0 : UInt8)) r4 ((ref01_size cp1) - 1) ⟨(Nat.lt_succ_self _), hR, hr5, (by omega), (by first | omega | (simp <;> omega)), (by omega)⟩ ⟨(by first | rfl | (simp only [List.length_set]; rfl) | (simp; done) | (simp; omega)), rfl, (by first | rfl | (simp only [List.length_set]; rfl) | (simp; done) | (simp; omega)), (by first | rfl | (simp only [List.length_set]; rfl) | (simp; done) | (simp; omega)), trivial⟩ (mc [vo cU8 5 r4 (List.replicate ((ref01_size cp1).toNat) (0 : UInt8))] [true] rfl (by first | rfl | (simp only [List.length_set] <;> rfl))) Foll.nil ?_
   rintro fu cp2 b br i ⟨hm6, hR, hokbr, hcr, hbl, hi0⟩
   have := VOk.le hokbr
   obtain ⟨fu1, rfl⟩ : ∃ m, fu = m + 1 := ⟨fu - 1, by omega⟩
   replace hR := (ref01_Put_l0.eq_2 ..).symm.trans hR
   have htd := Int.tdiv_eq_ediv_of_nonneg (a := cp2) (b := 64) hcr.1
   have htm := Int.tmod_eq_emod_of_nonneg (a := cp2) (b := 64) hcr.1
   have hmk : 0 ≤ ([0, 0, 192, 224, 240] : List Int).getD ((ref01_size cp1).toNat) 0 ∧ ([0, 0, 192, 224, 240] : List Int).getD ((ref01_size cp1).toNat) 0 ≤ 240 := by generalize (ref01_size cp1).toNat = k; rcases k with _ | _ | _ | _ | _ | k <;> simp
   refine J_seq ?_
   refine sr 2 rfl ?_
   refine ip 2 0 [(23, bv (decide ((0 : Int) < i)))] (by kernel_rfl) ?_
   refine ie ?_
   refine J_if rfl (fun h7 => ?_) (fun h7 => ?_)
   ·have h7p : (0 : Int) < i := by simpa using h7
    replace hR := bt hR h7
    refine J_skip ?_
    refine nx ?_
    refine J_seq ?_
    refine J_block ?_
    refine sr 8 rfl ?_
    refine ip 3 5 [(26, .slice (va br.q) b.length br.k), (27, iv i), (28, iv cp2)] (by kernel_rfl) ?_
    refine ix rfl (det_rem rfl rfl rfl (by decide) rfl) ?_
    refine ix rfl (det_add64 rfl rfl rfl rfl (by omega)) ?_
    refine ix rfl (det_conv (v := .int .u8 (IntKind.u8.wrap (128 + (Int.tmod cp2 64)))) (DetR.pure rfl) (u8_wrap)) ?_
    obtain ⟨b8, hb9⟩ := VOk.some hokbr (by omega)
    obtain ⟨q10, k11, j12⟩ := br
    obtain rfl : q10 = some b8 := hb9
    refine ix rfl (det_ix_vec slt30 rfl rfl rfl ((i).toNat) (by omega) (by omega)) ?_
    refine it rfl (tri_vec_store (us := [.int .u8 ((by8 (IntKind.u8.wrap (128 + (Int.tmod cp2 64)))).toNat : Int)]) (u' := (by8 (IntKind.u8.wrap (128 + (Int.tmod cp2 64))))) (c := cU8) (sz := 1) ty5 (fun _ => rfl) rfl rfl rfl 0 rfl rfl rfl rfl ((i).toNat) 0 rfl (gd 0 (by omega)) rfl rfl) fun _ => ?_
    refine ie ?_
    refine J_region 3 rfl ?_
    refine ip 1 2 [(33, iv cp2)] (by kernel_rfl) ?_
    refine ix rfl (det_quow rfl rfl rfl (by decide)) ?_
    refine ip 1 0 [(0, iv (IntKind.i64.wrap (Int.tdiv cp2 64)))] (by kernel_rfl) ?_
    refine JI_end ?_
    refine nx ?_
    refine J_region 3 rfl ?_
    refine ip 1 2 [(24, iv i)] (by kernel_rfl) ?_
    refine ix rfl (det_sub64 rfl rfl rfl rfl (by omega)) ?_
    refine ip 1 0 [(5, iv (i - 1))] (by kernel_rfl) ?_
    refine JI_end ?_
    exact againL5 (z1 := (fu1 + 1)) (z2 := cp2) (z3 := b) (z4 := (⟨some b8, k11, j12⟩ : VR)) (z5 := i) fu1 (IntKind.i64.wrap (Int.tdiv cp2 64)) (b.set ((i).toNat) (by8 (IntKind.u8.wrap (128 + (Int.tmod cp2 64))))) (⟨some b8, k11, j12⟩ : VR) (i - 1) ⟨(by omega), hR, (VOk.cast hokbr (by simp)), (by rw [htd, show IntKind.i64.wrap (cp2 / 64) = cp2 / 64 from wrap_in (by simp [IntKind.min, IntKind.signed, IntKind.bits]; omega) (by simp [IntKind.max, IntKind.signed, IntKind.bits]; omega)]; omega), (by first | omega | (simp <;> omega)), (by omega)⟩ (Nat.lt_succ_self _) ⟨(by first | rfl | (simp only [List.length_set]; rfl) | (simp; done) | (simp; omega)), rfl, (by first | rfl | (simp only [List.length_set]; rfl) | (simp; done) | (simp; omega)), (by first | rfl | (simp only [List.length_set]; rfl) | (simp; done) | (simp; omega)), trivial⟩ (mc [vo cU8 5 (⟨some b8, k11, j12⟩ : VR) (b.set ((i).toNat) (by8 (IntKind.u8.wrap (128 + (Int.tmod cp2 64)))))] [true] rfl (by first | rfl | (simp only [List.length_set] <;> rfl))) Foll.nil
   ·have h7p : ¬ ((0 : Int) < i) := by simpa using h7
    replace hR := bf hR h7
    refine J_exit ?_
    refine nx ?_
    refine sr 3 rfl ?_
    refine ix rfl (det_build (cs := [iv 0, iv 0, iv 192, iv 224, iv 240]) rfl rfl (by kernel_rfl)) ?_
    refine it rfl (tri_alloc (cs := [iv 0, iv 0, iv 0, iv 0, iv 0]) zero103 rfl) fun b13 => ?_
    refine it rfl (tri_store (us := [iv 0, iv 0, iv 192, iv 224, iv 240]) (cs' := [iv 0, iv 0, iv 192, iv 224, iv 240]) ty103 rfl rfl rfl 0 rfl rfl rfl rfl rfl rfl) fun _ => ?_
    refine ie ?_
    refine sr 9 rfl ?_
    refine ip 2 7 [(36, .slice (va br.q) b.length br.k), (37, iv (ref01_size cp1))] (by kernel_rfl) ?_
    refine ix rfl (det_ix_ownk Tryz.underlying103 ty3 rfl rfl rfl ((ref01_size cp1).toNat) (by omega) (by omega)) ?_
    refine ix rfl (det_vec_one (u := iv (([0, 0, 192, 224, 240] : List Int).getD ((ref01_size cp1).toNat) 0)) (c := cInt) (xs := ([0, 0, 192, 224, 240] : List Int)) (j := []) (sz := 1) ty3 (fun _ => rfl) rfl rfl 0 rfl ((ref01_size cp1).toNat) 0 rfl (gd 0 (by simp only [List.length_cons, List.length_nil]; omega)) rfl) ?_
    refine ip 1 4 [(40, iv cp2)] (by kernel_rfl) ?_
    refine ix rfl (det_add64 rfl rfl rfl rfl (by omega)) ?_
    refine ix rfl (det_conv (v := .int .u8 (IntKind.u8.wrap ((([0, 0, 192, 224, 240] : List Int).getD ((ref01_size cp1).toNat) 0) + cp2))) (DetR.pure rfl) (u8_wrap)) ?_
    obtain ⟨b14, hb15⟩ := VOk.some hokbr (by omega)
    obtain ⟨q16, k17, j18⟩ := br
    obtain rfl : q16 = some b14 := hb15
    refine ix rfl (det_ix_vec slt30 rfl rfl rfl 0 rfl (by omega)) ?_
    refine it rfl (tri_vec_store (us := [.int .u8 ((by8 (IntKind.u8.wrap ((([0, 0, 192, 224, 240] : List Int).getD ((ref01_size cp1).toNat) 0) + cp2))).toNat : Int)]) (u' := (by8 (IntKind.u8.wrap ((([0, 0, 192, 224, 240] : List Int).getD ((ref01_size cp1).toNat) 0) + cp2)))) (c := cU8) (sz := 1) ty5 (fun _ => rfl) rfl rfl rfl 1 rfl rfl rfl rfl 0 0 rfl (gd 0 (by omega)) rfl rfl) fun _ => ?_
    refine ie ?_
    refine sr 3 rfl ?_
    refine ip 1 2 [(44, .slice (va (⟨some b14, k17, j18⟩ : VR).q) b.length ((⟨some b14, k17, j18⟩ : VR).k))] (by kernel_rfl) ?_
    refine ix rfl (det_b2s_vec (r := (⟨some b14, k17, j18⟩ : VR)) (pre := [bx b13 [iv 0, iv 0, iv 192, iv 224, iv 240] 103]) (post := []) (s := (b.set 0 (by8 (IntKind.u8.wrap ((([0, 0, 192, 224, 240] : List Int).getD ((ref01_size cp1).toNat) 0) + cp2))))) Tryz.underlying9 Tryz.underlying30 rfl (by first | rfl | (rw [List.length_set]; rfl)) rfl (VOk.cast hokbr (by simp)) (by kernel_rfl)) ?_
    refine ip 1 0 [(2, sv (b.set 0 (by8 (IntKind.u8.wrap ((([0, 0, 192, 224, 240] : List Int).getD ((ref01_size cp1).toNat) 0) + cp2)))))] (by kernel_rfl) ?_
    refine ie ?_
    refine J_ret ?_
    subst hR
    exact ends_ret rfl ⟨hr, hD⟩ (by simp [hD]) (res1 rfl (resV_tmp rfl)) () (by rfl) (List.nil_sublist _) Foll.nil

def ref01_Text_l0 : List Int → List UInt8 → Nat → List UInt8
 | [], s, i => s
 | hd_l0 :: tl_l0, s, i => (bindV (ref01_Put hd_l0) fun (y9 : List UInt8) => ref01_Text_l0 tl_l0 (s ++ y9) (i + 1))
def ref01_Text (codes : List Int) : List UInt8 :=
 ref01_Text_l0 codes ([] : List UInt8) 0

theorem ref01_Text_c (codes : List Int) (codesq : Option Addr) (codesk : Nat) (hlcodes : codes.length ≤ 9223372036854775807) (hccodes : codes.length ≤ codesk) (hcl : codes.length ≤ 1000000) (R : List UInt8) (hR : ref01_Text codes = R) : ConV Tryz.prog 205 [.slice codesq codes.length codesk] [sl cInt codesq codes] (sv R) := by
 refine con_of_J (n := 19) Tryz.func205 rfl (by kernel_rfl) rfl rfl [(0, .slice codesq codes.length codesk)] ⟨rfl, trivial⟩ fun X hX hr hD => ?_
 replace hR := (ref01_Text.eq_1 ..).symm.trans hR
 refine sr 1 rfl ?_
 refine ip 1 0 [] (by kernel_rfl) ?_
 refine ie ?_
 refine sr 1 rfl ?_
 refine ip 1 0 [(3, sv ([] : List UInt8))] (by kernel_rfl) ?_
 refine ie ?_
 refine J_seq ?_
 refine sr 1 rfl ?_
 refine ip 1 0 [(4, iv 0)] (by kernel_rfl) ?_
 refine ie ?_
 refine J_block ?_
 refine JL2 (fun (s : List UInt8) (i : Nat) => i ≤ codes.length ∧ ref01_Text_l0 (codes.drop i) s i = R ∧ s.length ≤ 4 * i) (fun (s : List UInt8) (i : Nat) => [(0, .slice codesq codes.length codesk), (3, sv s), (4, iv (i : Int))]) (fun (s : List UInt8) (i : Nat) => []) (fun (s : List UInt8) (i : Nat) => [sl cInt codesq codes]) (fun (s : List UInt8) (i : Nat) => codes.length - i) ([] : List UInt8) 0 ⟨(by omega), hR, (by simp)⟩ ⟨rfl, (by first | rfl | (simp only [List.length_set]; rfl) | (simp; done) | (simp; omega)), (by first | rfl | (simp only [List.length_set]; rfl) | (simp; done) | (simp; omega)), trivial⟩ (mk [] rfl) Foll.refl ?_
 rintro s i ⟨hm1, hR, hsl⟩
 refine J_seq ?_
 refine sr 4 rfl ?_
 refine ip 4 0 [(8, bv (decide ((i : Int) < (codes.length : Int))))] (by kernel_rfl) ?_
 refine ie ?_
 refine J_if rfl (fun h2 => ?_) (fun h2 => ?_)
 ·have h2p : (i : Int) < (codes.length : Int) := by simpa using h2
  rw [dropc 0 (show i < codes.length by omega)] at hR; replace hR := (ref01_Text_l0.eq_2 ..).symm.trans hR
  refine J_skip ?_
  refine nx ?_
  refine J_seq ?_
  refine J_block ?_
  refine J_region 8 rfl ?_
  refine ip 3 5 [(11, sv s), (12, .slice codesq codes.length codesk), (13, iv (i : Int))] (by kernel_rfl) ?_
  refine JI_base 0 rfl (by omega) fun a3 hq4 => ?_
  refine ix rfl (det_ixq slt168 rfl rfl hq4 rfl i rfl (by omega)) ?_
  refine ix rfl (det_ld_one (v := iv (codes.getD i 0)) (us := [iv (codes.getD i 0)]) ty3 rfl rfl (at_slq (c := cInt) (sz := 1) hq4 (fun _ => rfl) 0 rfl (gd 0 (by omega))) rfl) ?_
  have hQ := bindVx hR; clear hR; obtain ⟨y9, hy9, hR⟩ := hQ
  refine ixc rfl (det_call (ref01_Put_c (codes.getD i 0) y9 hy9) rfl rfl rfl rfl rfl Foll.nil) ?_
  have := ref01_Put_len (codes.getD i 0); try rw [hy9] at this
  refine ix rfl (det_stadd rfl rfl rfl (by first | omega | (simp <;> omega))) ?_
  have : (s ++ y9).length = s.length + y9.length := List.length_append
  refine ip 1 0 [(3, sv (s ++ y9))] (by kernel_rfl) ?_
  refine JI_end ?_
  refine nx ?_
  refine J_region 3 rfl ?_
  refine ip 1 2 [(9, iv (i : Int))] (by kernel_rfl) ?_
  refine ix rfl (det_add64 rfl rfl rfl rfl (by omega)) ?_
  refine ip 1 0 [(4, iv ((i : Int) + 1))] (by kernel_rfl) ?_
  refine JI_end ?_
  exact againL2 (z1 := s) (z2 := i) (s ++ y9) (i + 1) ⟨(by omega), hR, (by first | omega | (simp <;> omega))⟩ (by (try dsimp only); omega) ⟨rfl, (by first | rfl | (simp only [List.length_set]; rfl) | (simp; done) | (simp; omega)), (by first | rfl | (simp only [List.length_set]; rfl) | (simp; done) | (simp; omega)), trivial⟩ (mk [] rfl) Foll.refl
 ·have h2p : ¬ ((i : Int) < (codes.length : Int)) := by simpa using h2
  rw [dropn h2p] at hR; replace hR := (ref01_Text_l0.eq_1 ..).symm.trans hR
  refine J_exit ?_
  refine nx ?_
  refine sr 2 rfl ?_
  refine ip 2 0 [(2, sv s)] (by kernel_rfl) ?_
  refine ie ?_
  refine J_ret ?_
  subst hR
  exact ends_ret rfl ⟨hr, hD⟩ (by simp [hD]) (res1 rfl (resV_tmp rfl)) () (by rfl) (mk [] rfl) Foll.nil

def ref08_Title_l0 (s : List UInt8) : Nat → List Int → Nat → Bool
 | 0, _, _ => false
 | fu1 + 1, l, i => (bif (decide ((i : Int) < (l.length : Int))) then (bif ((decide ((l.getD i 0) < 32)) || ((decide ((127 : Int) ≤ (l.getD i 0))) && (decide ((l.getD i 0) ≤ 159)))) then false else ref08_Title_l0 s fu1 l (i + 1)) else (bindV (ref01_Text l) fun (y10 : List UInt8) => (decide (y10 = s))))
def ref08_Title (s : List UInt8) : Bool :=
 (bif (decide ((510 : Int) < (s.length : Int))) then false else (bindV (ref01_Codes s) fun (y7 : List Int) => ref08_Title_l0 s ((y7.length - 0) + 1) y7 0))

theorem ref08_Title_le (s : List UInt8) (h : ref08_Title s = true) : s.length ≤ 510 := by
 unfold ref08_Title at h
 by_cases e : (510 : Int) < (s.length : Int)
 ·rw [decide_eq_true e] at h; simp at h
 ·omega

theorem ref08_Title_c (s : List UInt8) (R : Bool) (hR : ref08_Title s = R) : ConV Tryz.prog 151 [sv s] [] (bv R) := by
 refine con_of_J (n := 39) Tryz.func151 rfl (by kernel_rfl) rfl rfl [(0, sv s)] ⟨rfl, trivial⟩ fun X hX hr hD => ?_
 replace hR := (ref08_Title.eq_1 ..).symm.trans hR
 refine sr 1 rfl ?_
 refine ip 1 0 [] (by kernel_rfl) ?_
 refine ie ?_
 refine J_seq ?_
 refine sr 3 rfl ?_
 refine ip 3 0 [(7, bv (decide ((510 : Int) < (s.length : Int))))] (by kernel_rfl) ?_
 refine ie ?_
 refine J_if rfl (fun h1 => ?_) (fun h1 => ?_)
 ·have h1p : (510 : Int) < (s.length : Int) := by simpa using h1
  replace hR := bt hR h1
  refine sr 1 rfl ?_
  refine ip 1 0 [(2, bv false)] (by kernel_rfl) ?_
  refine ie ?_
  refine J_ret ?_
  subst hR
  exact ends_ret rfl ⟨hr, hD⟩ (by simp [hD]) (res1 rfl (resV_tmp rfl)) () (by rfl) (mk [] rfl) Foll.nil
 ·have h1p : ¬ ((510 : Int) < (s.length : Int)) := by simpa using h1
  replace hR := bf hR h1
  refine J_skip ?_
  refine nx ?_
  refine sr 3 rfl ?_
  refine ip 1 2 [(8, sv s)] (by kernel_rfl) ?_
  have hQ := bindVx hR; clear hR; obtain ⟨y7, hy7, hR⟩ := hQ
  refine it rfl (tri_callN (L2 := []) (ref01_Codes_c s (by first | omega | (simp <;> omega)) y7 hy7) rfl rfl rfl rfl rfl Foll.nil (List.Perm.refl _) (fun ⟨r2, hk3⟩ => ((vo cInt 3 r2 y7) ++ ([]))) (fun _ => by first | rfl | simp only [List.append_nil, List.cons_append, List.nil_append, List.append_assoc])) fun ⟨r2, hk3⟩ => ?_
  have := VOk.le hk3
  have := VOk.cap hk3
  have := ref01_Codes_len s; try rw [hy7] at this
  refine ip 1 0 [(3, .slice (va r2.q) y7.length r2.k)] (by kernel_rfl) ?_
  refine ie ?_
  refine J_seq ?_
  refine sr 1 rfl ?_
  refine ip 1 0 [(4, iv 0)] (by kernel_rfl) ?_
  refine ie ?_
  refine J_block ?_
  refine JL4 (fun (fu : Nat) (l : List Int) (lr : VR) (i : Nat) => (l.length - i) < fu ∧ ref08_Title_l0 s fu l i = R ∧ VOk 1 l.length lr ∧ l.length ≤ 10000) (fun (fu : Nat) (l : List Int) (lr : VR) (i : Nat) => [(0, sv s), (3, .slice (va lr.q) l.length lr.k), (4, iv (i : Int))]) (fun (fu : Nat) (l : List Int) (lr : VR) (i : Nat) => ((vo cInt 3 lr l) ++ ([]))) (fun (fu : Nat) (l : List Int) (lr : VR) (i : Nat) => []) (fun (fu : Nat) (l : List Int) (lr : VR) (i : Nat) => fu) ((y7.length - 0) + 1) y7 r2 0 ⟨(Nat.lt_succ_self _), hR, hk3, (by omega)⟩ ⟨rfl, (by first | rfl | (simp only [List.length_set]; rfl) | (simp; done) | (simp; omega)), (by first | rfl | (simp only [List.length_set]; rfl) | (simp; done) | (simp; omega)), trivial⟩ (mc [vo cInt 3 r2 y7] [true] rfl (by first | rfl | (simp only [List.length_set] <;> rfl))) Foll.nil ?_
  rintro fu l lr i ⟨hm4, hR, hoklr, hll⟩
  have := VOk.le hoklr
  obtain ⟨fu1, rfl⟩ : ∃ m, fu = m + 1 := ⟨fu - 1, by omega⟩
  replace hR := (ref08_Title_l0.eq_2 ..).symm.trans hR
  refine J_seq ?_
  refine sr 4 rfl ?_
  refine ip 4 0 [(13, bv (decide ((i : Int) < (l.length : Int))))] (by kernel_rfl) ?_
  refine ie ?_
  refine J_if rfl (fun h5 => ?_) (fun h5 => ?_)
  ·have h5p : (i : Int) < (l.length : Int) := by simpa using h5
   replace hR := bt hR h5
   refine J_skip ?_
   refine nx ?_
   refine J_seq ?_
   refine J_block ?_
   refine sr 19 rfl ?_
   refine ip 2 17 [(16, .slice (va lr.q) l.length lr.k), (17, iv (i : Int))] (by kernel_rfl) ?_
   obtain ⟨b6, hb7⟩ := VOk.some hoklr (by omega)
   obtain ⟨q8, k9, j10⟩ := lr
   obtain rfl : q8 = some b6 := hb7
   refine ix rfl (det_ix_vec slt168 rfl rfl rfl i rfl (by omega)) ?_
   refine ix rfl (det_vec_one (u := iv (l.getD i 0)) (c := cInt) (sz := 1) ty3 (fun _ => rfl) rfl rfl 0 rfl i 0 rfl (gd 0 (by omega)) rfl) ?_
   refine ip 2 13 [(21, bv (decide ((l.getD i 0) < 32)))] (by kernel_rfl) ?_
   refine ior 13 0 21 34 ((decide ((127 : Int) ≤ (l.getD i 0))) && (decide ((l.getD i 0) ≤ 159))) rfl (by kernel_rfl) (fun g11 => ?_) ?_
   ·have g11p : ¬ ((l.getD i 0) < 32) := by simpa using g11
    refine ip 2 11 [(22, .slice (va (⟨some b6, k9, j10⟩ : VR).q) l.length ((⟨some b6, k9, j10⟩ : VR).k)), (23, iv (i : Int))] (by kernel_rfl) ?_
    refine ix rfl (det_ix_vec slt168 rfl rfl rfl i rfl (by omega)) ?_
    refine ix rfl (det_vec_one (u := iv (l.getD i 0)) (c := cInt) (sz := 1) ty3 (fun _ => rfl) rfl rfl 0 rfl i 0 rfl (gd 0 (by omega)) rfl) ?_
    refine ip 2 7 [(27, bv (decide ((127 : Int) ≤ (l.getD i 0))))] (by kernel_rfl) ?_
    refine iand 6 1 27 33 (decide ((l.getD i 0) ≤ 159)) rfl (by kernel_rfl) (fun g12 => ?_) ?_
    ·have g12p : (127 : Int) ≤ (l.getD i 0) := by simpa using g12
     refine ip 2 4 [(28, .slice (va (⟨some b6, k9, j10⟩ : VR).q) l.length ((⟨some b6, k9, j10⟩ : VR).k)), (29, iv (i : Int))] (by kernel_rfl) ?_
     refine ix rfl (det_ix_vec slt168 rfl rfl rfl i rfl (by omega)) ?_
     refine ix rfl (det_vec_one (u := iv (l.getD i 0)) (c := cInt) (sz := 1) ty3 (fun _ => rfl) rfl rfl 0 rfl i 0 rfl (gd 0 (by omega)) rfl) ?_
     refine ip 2 0 [(33, bv (decide ((l.getD i 0) ≤ 159)))] (by kernel_rfl) ?_
     exact JI_end (armI 6 27 33 g12 Foll.nil (mc [vo cInt 3 (⟨some b6, k9, j10⟩ : VR) l] [true] rfl (by first | rfl | (simp only [List.length_set] <;> rfl))) rfl rfl rfl rfl rfl)
    refine ip 1 0 [(34, bv ((decide ((127 : Int) ≤ (l.getD i 0))) && (decide ((l.getD i 0) ≤ 159))))] (by kernel_rfl) ?_
    exact JI_end (armI 8 21 34 g11 Foll.nil (mc [vo cInt 3 (⟨some b6, k9, j10⟩ : VR) l] [true] rfl (by first | rfl | (simp only [List.length_set] <;> rfl))) rfl rfl rfl rfl rfl)
   refine ie ?_
   refine J_if rfl (fun h13 => ?_) (fun h13 => ?_)
   ·have h13p : ((l.getD i 0) < 32) ∨ (((127 : Int) ≤ (l.getD i 0)) ∧ ((l.getD i 0) ≤ 159)) := by simpa using h13
    replace hR := bt hR h13
    refine sr 1 rfl ?_
    refine ip 1 0 [(2, bv false)] (by kernel_rfl) ?_
    refine ie ?_
    refine J_ret ?_
    subst hR
    exact ends_ret rfl ⟨hr, hD⟩ (by simp [hD]) (res1 rfl (resV_tmp rfl)) () (by rfl) (List.nil_sublist _) Foll.nil
   ·have h13p : ¬ (((l.getD i 0) < 32) ∨ (((127 : Int) ≤ (l.getD i 0)) ∧ ((l.getD i 0) ≤ 159))) := by simpa using h13
    replace hR := bf hR h13
    refine J_skip ?_
    refine nx ?_
    refine J_region 3 rfl ?_
    refine ip 1 2 [(14, iv (i : Int))] (by kernel_rfl) ?_
    refine ix rfl (det_add64 rfl rfl rfl rfl (by omega)) ?_
    refine ip 1 0 [(4, iv ((i : Int) + 1))] (by kernel_rfl) ?_
    refine JI_end ?_
    exact againL4 (z1 := (fu1 + 1)) (z2 := l) (z3 := (⟨some b6, k9, j10⟩ : VR)) (z4 := i) fu1 l (⟨some b6, k9, j10⟩ : VR) (i + 1) ⟨(by omega), hR, hoklr, (by omega)⟩ (Nat.lt_succ_self _) ⟨rfl, (by first | rfl | (simp only [List.length_set]; rfl) | (simp; done) | (simp; omega)), (by first | rfl | (simp only [List.length_set]; rfl) | (simp; done) | (simp; omega)), trivial⟩ (mc [vo cInt 3 (⟨some b6, k9, j10⟩ : VR) l] [true] rfl (by first | rfl | (simp only [List.length_set] <;> rfl))) Foll.nil
  ·have h5p : ¬ ((i : Int) < (l.length : Int)) := by simpa using h5
   replace hR := bf hR h5
   refine J_exit ?_
   refine nx ?_
   refine sr 5 rfl ?_
   refine ip 1 4 [(35, .slice (va lr.q) l.length lr.k)] (by kernel_rfl) ?_
   have := VOk.cap hoklr
   have := VOk.le hoklr
   refine JI_seal [] [] (T := 3) (c := cInt) (r := lr) (xs := l) hoklr (by first | rfl | simp only [List.cons_append, List.append_assoc, List.nil_append, List.append_nil]) ?_
   have hQ := bindVx hR; clear hR; obtain ⟨y10, hy10, hR⟩ := hQ
   refine ixc rfl (det_call (ref01_Text_c l (va lr.q) lr.k (by first | omega | (simp <;> omega) | (dsimp only; omega) | decide) (by first | omega | (simp <;> omega) | (dsimp only; omega) | decide) (by first | omega | (simp <;> omega)) y10 hy10) rfl rfl rfl rfl rfl Foll.refl) ?_
   refine ip 1 2 [(37, sv s)] (by kernel_rfl) ?_
   refine ix rfl (det_steq rfl rfl rfl) ?_
   refine ip 1 0 [(2, bv (decide (y10 = s)))] (by kernel_rfl) ?_
   refine ie ?_
   refine J_ret ?_
   subst hR
   exact ends_ret rfl ⟨hr, hD⟩ (by simp [hD]) (res1 rfl (resV_tmp rfl)) () (by rfl) (mk [] rfl) Foll.nil

end Go.Proofs.YtinkdfnpmoljfaaGreatDoor

