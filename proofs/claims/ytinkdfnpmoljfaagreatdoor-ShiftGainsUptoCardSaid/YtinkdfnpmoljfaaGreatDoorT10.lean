import Derived.Test.YtinkdfnpmoljfaaGreatDoorD2
import Derived.Test.YtinkdfnpmoljfaaGreatDoorFenX
import Derived.Test.YtinkdfnpmoljfaaGreatDoorProg
import Derived.Test.YtinkdfnpmoljfaaGreatDoorT4a
import Derived.Test.YtinkdfnpmoljfaaGreatDoorT4b
import Derived.Test.YtinkdfnpmoljfaaGreatDoorT5
import Derived.Test.YtinkdfnpmoljfaaGreatDoorT6
import Derived.Test.YtinkdfnpmoljfaaGreatDoorT7
import Derived.Test.YtinkdfnpmoljfaaGreatDoorT8
import Derived.Test.YtinkdfnpmoljfaaGreatDoorT9
set_option linter.unusedVariables false
set_option linter.unusedSimpArgs false
set_option linter.unnecessarySimpa false
set_option maxRecDepth 100000
namespace Go.Proofs.YtinkdfnpmoljfaaGreatDoor
open Go Go.Fen
theorem eqt68 : EqT Tryz.prog 68 cAr2 := EqT.of 20 rfl (by kernel_rfl) (by kernel_rfl) (fun _ _ => by kernel_rfl) cAr2.inj
theorem slt270 : SlTy Tryz.prog 270 68 2 := ⟨by kernel_rfl, by kernel_rfl⟩
theorem ty122 : Ty Tryz.prog 122 2 true := ⟨by kernel_rfl⟩
def ref03_Check (c : Col) : Int :=
 (bif (decide (c.kind = 0)) then (bif (decide (c.n = 0)) then 0 else 130) else (bif (decide (c.kind = 1)) then (bif ((decide ((0 : Int) ≤ c.n)) && (decide (c.n ≤ 255))) then 0 else 130) else (bif (decide (c.kind = 2)) then (bif ((decide ((0 : Int) ≤ c.n)) && (decide (c.n ≤ 16777215))) then 0 else 130) else 130)))

theorem ref03_Check_c (c : Col) (R : Int) (hR : ref03_Check c = R) : ConV Tryz.prog 132 [ag (cCol c)] [] (iv R) := by
 refine con_of_J (n := 30) Tryz.func132 rfl (by kernel_rfl) rfl rfl [(0, ag (cCol c))] ⟨rfl, trivial⟩ fun X hX hr hD => ?_
 replace hR := (ref03_Check.eq_1 ..).symm.trans hR
 refine sr 2 rfl ?_
 refine it rfl (tri_box (cs := cCol c) rfl rfl rfl) fun b1 => ?_
 refine ip 1 0 [] (by kernel_rfl) ?_
 refine ie ?_
 refine J_seq ?_
 refine sr 2 rfl ?_
 refine ip 1 1 [(3, pt b1 0)] (by kernel_rfl) ?_
 refine ix rfl (det_own_one (v := iv c.kind) ty3 rfl rfl 0 rfl rfl) ?_
 refine ie ?_
 refine J_block ?_
 refine sr 2 rfl ?_
 refine ip 2 0 [(5, bv (decide (c.kind = 0)))] (by kernel_rfl) ?_
 refine ie ?_
 refine J_if rfl (fun h2 => ?_) (fun h2 => ?_)
 ·have h2p : c.kind = 0 := by simpa using h2
  replace hR := bt hR h2
  refine sr 3 rfl ?_
  refine ip 1 2 [(7, pt b1 1)] (by kernel_rfl) ?_
  refine ix rfl (det_own_one (v := iv c.n) ty3 rfl rfl 0 rfl rfl) ?_
  refine ip 1 0 [(9, bv (decide (c.n = 0)))] (by kernel_rfl) ?_
  refine ie ?_
  refine J_if rfl (fun h3 => ?_) (fun h3 => ?_)
  ·have h3p : c.n = 0 := by simpa using h3
   replace hR := bt hR h3
   refine sr 1 rfl ?_
   refine ip 1 0 [(2, iv 0)] (by kernel_rfl) ?_
   refine ie ?_
   refine J_ret ?_
   subst hR
   exact ends_ret rfl ⟨hr, hD⟩ (by simp [hD]) (res1 rfl (resV_tmp rfl)) () (by rfl) (mk [false] rfl) Foll.nil
  ·have h3p : ¬ (c.n = 0) := by simpa using h3
   replace hR := bf hR h3
   refine J_skip ?_
   refine nx ?_
   refine sr 1 rfl ?_
   refine ip 1 0 [(2, iv 130)] (by kernel_rfl) ?_
   refine ie ?_
   refine J_ret ?_
   subst hR
   exact ends_ret rfl ⟨hr, hD⟩ (by simp [hD]) (res1 rfl (resV_tmp rfl)) () (by rfl) (mk [false] rfl) Foll.nil
 ·have h2p : ¬ (c.kind = 0) := by simpa using h2
  replace hR := bf hR h2
  refine sr 2 rfl ?_
  refine ip 2 0 [(10, bv (decide (c.kind = 1)))] (by kernel_rfl) ?_
  refine ie ?_
  refine J_if rfl (fun h4 => ?_) (fun h4 => ?_)
  ·have h4p : c.kind = 1 := by simpa using h4
   replace hR := bt hR h4
   refine sr 8 rfl ?_
   refine ip 1 7 [(12, pt b1 1)] (by kernel_rfl) ?_
   refine ix rfl (det_own_one (v := iv c.n) ty3 rfl rfl 0 rfl rfl) ?_
   refine ip 2 4 [(15, bv (decide ((0 : Int) ≤ c.n)))] (by kernel_rfl) ?_
   refine iand 4 0 15 19 (decide (c.n ≤ 255)) rfl (by kernel_rfl) (fun g5 => ?_) ?_
   ·have g5p : (0 : Int) ≤ c.n := by simpa using g5
    refine ip 1 3 [(16, pt b1 1)] (by kernel_rfl) ?_
    refine ix rfl (det_own_one (v := iv c.n) ty3 rfl rfl 0 rfl rfl) ?_
    refine ip 2 0 [(19, bv (decide (c.n ≤ 255)))] (by kernel_rfl) ?_
    exact JI_end (armI 4 15 19 g5 Foll.nil (mk [true] rfl) rfl rfl rfl rfl rfl)
   refine ie ?_
   refine J_if rfl (fun h6 => ?_) (fun h6 => ?_)
   ·have h6p : ((0 : Int) ≤ c.n) ∧ (c.n ≤ 255) := by simpa using h6
    replace hR := bt hR h6
    refine sr 1 rfl ?_
    refine ip 1 0 [(2, iv 0)] (by kernel_rfl) ?_
    refine ie ?_
    refine J_ret ?_
    subst hR
    exact ends_ret rfl ⟨hr, hD⟩ (by simp [hD]) (res1 rfl (resV_tmp rfl)) () (by rfl) (mk [false] rfl) Foll.nil
   ·have h6p : ¬ (((0 : Int) ≤ c.n) ∧ (c.n ≤ 255)) := by simpa using h6
    replace hR := bf hR h6
    refine J_skip ?_
    refine nx ?_
    refine sr 1 rfl ?_
    refine ip 1 0 [(2, iv 130)] (by kernel_rfl) ?_
    refine ie ?_
    refine J_ret ?_
    subst hR
    exact ends_ret rfl ⟨hr, hD⟩ (by simp [hD]) (res1 rfl (resV_tmp rfl)) () (by rfl) (mk [false] rfl) Foll.nil
  ·have h4p : ¬ (c.kind = 1) := by simpa using h4
   replace hR := bf hR h4
   refine sr 2 rfl ?_
   refine ip 2 0 [(20, bv (decide (c.kind = 2)))] (by kernel_rfl) ?_
   refine ie ?_
   refine J_if rfl (fun h7 => ?_) (fun h7 => ?_)
   ·have h7p : c.kind = 2 := by simpa using h7
    replace hR := bt hR h7
    refine sr 8 rfl ?_
    refine ip 1 7 [(22, pt b1 1)] (by kernel_rfl) ?_
    refine ix rfl (det_own_one (v := iv c.n) ty3 rfl rfl 0 rfl rfl) ?_
    refine ip 2 4 [(25, bv (decide ((0 : Int) ≤ c.n)))] (by kernel_rfl) ?_
    refine iand 4 0 25 29 (decide (c.n ≤ 16777215)) rfl (by kernel_rfl) (fun g8 => ?_) ?_
    ·have g8p : (0 : Int) ≤ c.n := by simpa using g8
     refine ip 1 3 [(26, pt b1 1)] (by kernel_rfl) ?_
     refine ix rfl (det_own_one (v := iv c.n) ty3 rfl rfl 0 rfl rfl) ?_
     refine ip 2 0 [(29, bv (decide (c.n ≤ 16777215)))] (by kernel_rfl) ?_
     exact JI_end (armI 4 25 29 g8 Foll.nil (mk [true] rfl) rfl rfl rfl rfl rfl)
    refine ie ?_
    refine J_if rfl (fun h9 => ?_) (fun h9 => ?_)
    ·have h9p : ((0 : Int) ≤ c.n) ∧ (c.n ≤ 16777215) := by simpa using h9
     replace hR := bt hR h9
     refine sr 1 rfl ?_
     refine ip 1 0 [(2, iv 0)] (by kernel_rfl) ?_
     refine ie ?_
     refine J_ret ?_
     subst hR
     exact ends_ret rfl ⟨hr, hD⟩ (by simp [hD]) (res1 rfl (resV_tmp rfl)) () (by rfl) (mk [false] rfl) Foll.nil
    ·have h9p : ¬ (((0 : Int) ≤ c.n) ∧ (c.n ≤ 16777215)) := by simpa using h9
     replace hR := bf hR h9
     refine J_skip ?_
     refine nx ?_
     refine sr 1 rfl ?_
     refine ip 1 0 [(2, iv 130)] (by kernel_rfl) ?_
     refine ie ?_
     refine J_ret ?_
     subst hR
     exact ends_ret rfl ⟨hr, hD⟩ (by simp [hD]) (res1 rfl (resV_tmp rfl)) () (by rfl) (mk [false] rfl) Foll.nil
   ·have h7p : ¬ (c.kind = 2) := by simpa using h7
    replace hR := bf hR h7
    refine J_skip ?_
    refine nx ?_
    refine sr 1 rfl ?_
    refine ip 1 0 [(2, iv 130)] (by kernel_rfl) ?_
    refine ie ?_
    refine J_ret ?_
    subst hR
    exact ends_ret rfl ⟨hr, hD⟩ (by simp [hD]) (res1 rfl (resV_tmp rfl)) () (by rfl) (mk [false] rfl) Foll.nil

def ref04_Check (s : Sty) : Int :=
 (bif ((((decide (s.attr < 0)) || (decide ((255 : Int) < s.attr))) || (decide (s.under < 0))) || (decide ((5 : Int) < s.under))) then 140 else (bif (!decide ((ref03_Check s.fore) = 0)) then (ref03_Check s.fore) else (bif (!decide ((ref03_Check s.back) = 0)) then (ref03_Check s.back) else (bif (!decide ((ref03_Check s.line) = 0)) then (ref03_Check s.line) else 0))))

theorem ref04_Check_c (s : Sty) (R : Int) (hR : ref04_Check s = R) : ConV Tryz.prog 78 [ag (cSty s)] [] (iv R) := by
 refine con_of_J (n := 40) Tryz.func78 rfl (by kernel_rfl) rfl rfl [(0, ag (cSty s))] ⟨rfl, trivial⟩ fun X hX hr hD => ?_
 replace hR := (ref04_Check.eq_1 ..).symm.trans hR
 refine sr 2 rfl ?_
 refine it rfl (tri_box (cs := cSty s) rfl rfl rfl) fun b1 => ?_
 refine ip 1 0 [] (by kernel_rfl) ?_
 refine ie ?_
 refine J_seq ?_
 refine sr 18 rfl ?_
 refine ip 1 17 [(6, pt b1 0)] (by kernel_rfl) ?_
 refine ix rfl (det_own_one (v := iv s.attr) ty3 rfl rfl 0 rfl rfl) ?_
 refine ip 2 14 [(9, bv (decide (s.attr < 0)))] (by kernel_rfl) ?_
 refine ior 4 10 9 13 (decide ((255 : Int) < s.attr)) rfl (by kernel_rfl) (fun g2 => ?_) ?_
 ·have g2p : ¬ (s.attr < 0) := by simpa using g2
  refine ip 1 3 [(10, pt b1 0)] (by kernel_rfl) ?_
  refine ix rfl (det_own_one (v := iv s.attr) ty3 rfl rfl 0 rfl rfl) ?_
  refine ip 2 0 [(13, bv (decide ((255 : Int) < s.attr)))] (by kernel_rfl) ?_
  exact JI_end (armI 4 9 13 g2 Foll.nil (mk [true] rfl) rfl rfl rfl rfl rfl)
 refine ip 1 9 [(14, bv ((decide (s.attr < 0)) || (decide ((255 : Int) < s.attr))))] (by kernel_rfl) ?_
 refine ior 4 5 14 18 (decide (s.under < 0)) rfl (by kernel_rfl) (fun g3 => ?_) ?_
 ·have g3p : ¬ ((s.attr < 0) ∨ ((255 : Int) < s.attr)) := by simpa using g3
  refine ip 1 3 [(15, pt b1 1)] (by kernel_rfl) ?_
  refine ix rfl (det_own_one (v := iv s.under) ty3 rfl rfl 0 rfl rfl) ?_
  refine ip 2 0 [(18, bv (decide (s.under < 0)))] (by kernel_rfl) ?_
  exact JI_end (armI 4 14 18 g3 Foll.nil (mk [true] rfl) rfl rfl rfl rfl rfl)
 refine ip 1 4 [(19, bv (((decide (s.attr < 0)) || (decide ((255 : Int) < s.attr))) || (decide (s.under < 0))))] (by kernel_rfl) ?_
 refine ior 4 0 19 23 (decide ((5 : Int) < s.under)) rfl (by kernel_rfl) (fun g4 => ?_) ?_
 ·have g4p : ¬ (((s.attr < 0) ∨ ((255 : Int) < s.attr)) ∨ (s.under < 0)) := by simpa using g4
  refine ip 1 3 [(20, pt b1 1)] (by kernel_rfl) ?_
  refine ix rfl (det_own_one (v := iv s.under) ty3 rfl rfl 0 rfl rfl) ?_
  refine ip 2 0 [(23, bv (decide ((5 : Int) < s.under)))] (by kernel_rfl) ?_
  exact JI_end (armI 4 19 23 g4 Foll.nil (mk [true] rfl) rfl rfl rfl rfl rfl)
 refine ie ?_
 refine J_if rfl (fun h5 => ?_) (fun h5 => ?_)
 ·have h5p : (((s.attr < 0) ∨ ((255 : Int) < s.attr)) ∨ (s.under < 0)) ∨ ((5 : Int) < s.under) := by simpa using h5
  replace hR := bt hR h5
  refine sr 1 rfl ?_
  refine ip 1 0 [(2, iv 140)] (by kernel_rfl) ?_
  refine ie ?_
  refine J_ret ?_
  subst hR
  exact ends_ret rfl ⟨hr, hD⟩ (by simp [hD]) (res1 rfl (resV_tmp rfl)) () (by rfl) (mk [false] rfl) Foll.nil
 ·have h5p : ¬ ((((s.attr < 0) ∨ ((255 : Int) < s.attr)) ∨ (s.under < 0)) ∨ ((5 : Int) < s.under)) := by simpa using h5
  replace hR := bf hR h5
  refine J_skip ?_
  refine nx ?_
  refine J_seq ?_
  refine sr 8 rfl ?_
  refine ip 1 7 [(24, pt b1 2)] (by kernel_rfl) ?_
  refine ix rfl (det_own_agg (us := cCol s.fore) ty24 rfl rfl 0 rfl rfl rfl) ?_
  refine ip 1 5 [(26, pt b1 4)] (by kernel_rfl) ?_
  refine ix rfl (det_own_agg (us := cCol s.back) ty24 rfl rfl 0 rfl rfl rfl) ?_
  refine ip 1 3 [(28, pt b1 6)] (by kernel_rfl) ?_
  refine ix rfl (det_own_agg (us := cCol s.line) ty24 rfl rfl 0 rfl rfl rfl) ?_
  refine ix rfl (det_build (cs := [iv s.fore.kind, iv s.fore.n, iv s.back.kind, iv s.back.n, iv s.line.kind, iv s.line.n]) rfl rfl (by kernel_rfl)) ?_
  refine ip 1 0 [(31, iv 0)] (by kernel_rfl) ?_
  refine ie ?_
  refine J_block ?_
  refine J_rounds 5 ?_
  refine JR_succ ?_
  refine sr 1 rfl ?_
  refine ip 1 0 [(32, bv true)] (by kernel_rfl) ?_
  refine ie ?_
  refine J_seq ?_
  refine J_yes rfl ?_
  refine J_skip ?_
  refine nx ?_
  refine J_seq ?_
  refine J_block ?_
  refine sr 3 rfl ?_
  refine ix rfl (det_index (v := ag [iv s.fore.kind, iv s.fore.n]) (us := [iv s.fore.kind, iv s.fore.n]) Tryz.underlying143 ty24 rfl rfl rfl 0 rfl (by decide) rfl rfl rfl) ?_
  refine it rfl (tri_alloc (cs := cCol Col.zero) zero24 rfl) fun b6 => ?_
  refine it rfl (tri_store (us := [iv s.fore.kind, iv s.fore.n]) (cs' := cCol s.fore) ty24 rfl rfl rfl 0 rfl rfl rfl rfl rfl rfl) fun _ => ?_
  refine ie ?_
  refine sr 3 rfl ?_
  refine ix rfl (det_own_agg (us := cCol s.fore) ty24 rfl rfl 0 rfl rfl rfl) ?_
  refine ixc rfl (det_call (ref03_Check_c s.fore _ rfl) rfl rfl rfl rfl rfl Foll.nil) ?_
  refine ip 1 0 [(5, iv (ref03_Check s.fore))] (by kernel_rfl) ?_
  refine ie ?_
  refine sr 2 rfl ?_
  refine ip 2 0 [(37, bv (!decide ((ref03_Check s.fore) = 0)))] (by kernel_rfl) ?_
  refine ie ?_
  refine J_if rfl (fun h7 => ?_) (fun h7 => ?_)
  ·have h7p : ¬ (ref03_Check s.fore) = 0 := by simpa using h7
   replace hR := bt hR h7
   refine sr 2 rfl ?_
   refine ip 2 0 [(2, iv (ref03_Check s.fore))] (by kernel_rfl) ?_
   refine ie ?_
   refine J_ret ?_
   subst hR
   exact ends_ret rfl ⟨hr, hD⟩ (by simp [hD]) (res1 rfl (resV_tmp rfl)) () (by rfl) (mk [false, false] rfl) Foll.nil
  ·have h7p : ¬ (¬ (ref03_Check s.fore) = 0) := by simpa using h7
   replace hR := bf hR h7
   refine J_skip ?_
   refine nx ?_
   refine J_region 2 rfl ?_
   refine ix rfl (det_add64 (c := 1) rfl rfl rfl rfl (by decide)) ?_
   refine ip 1 0 [(31, iv 1)] (by kernel_rfl) ?_
   refine JI_end ?_
   refine JR_succ ?_
   refine sr 1 rfl ?_
   refine ip 1 0 [(32, bv true)] (by kernel_rfl) ?_
   refine ie ?_
   refine J_seq ?_
   refine J_yes rfl ?_
   refine J_skip ?_
   refine nx ?_
   refine J_seq ?_
   refine J_block ?_
   refine sr 3 rfl ?_
   refine ix rfl (det_index (v := ag [iv s.back.kind, iv s.back.n]) (us := [iv s.back.kind, iv s.back.n]) Tryz.underlying143 ty24 rfl rfl rfl 1 rfl (by decide) rfl rfl rfl) ?_
   refine it rfl (tri_alloc (cs := cCol Col.zero) zero24 rfl) fun b8 => ?_
   refine it rfl (tri_store (us := [iv s.back.kind, iv s.back.n]) (cs' := cCol s.back) ty24 rfl rfl rfl 0 rfl rfl rfl rfl rfl rfl) fun _ => ?_
   refine ie ?_
   refine sr 3 rfl ?_
   refine ix rfl (det_own_agg (us := cCol s.back) ty24 rfl rfl 0 rfl rfl rfl) ?_
   refine ixc rfl (det_call (ref03_Check_c s.back _ rfl) rfl rfl rfl rfl rfl Foll.nil) ?_
   refine ip 1 0 [(5, iv (ref03_Check s.back))] (by kernel_rfl) ?_
   refine ie ?_
   refine sr 2 rfl ?_
   refine ip 2 0 [(37, bv (!decide ((ref03_Check s.back) = 0)))] (by kernel_rfl) ?_
   refine ie ?_
   refine J_if rfl (fun h9 => ?_) (fun h9 => ?_)
   ·have h9p : ¬ (ref03_Check s.back) = 0 := by simpa using h9
    replace hR := bt hR h9
    refine sr 2 rfl ?_
    refine ip 2 0 [(2, iv (ref03_Check s.back))] (by kernel_rfl) ?_
    refine ie ?_
    refine J_ret ?_
    subst hR
    exact ends_ret rfl ⟨hr, hD⟩ (by simp [hD]) (res1 rfl (resV_tmp rfl)) () (by rfl) (mk [false, false, false] rfl) Foll.nil
   ·have h9p : ¬ (¬ (ref03_Check s.back) = 0) := by simpa using h9
    replace hR := bf hR h9
    refine J_skip ?_
    refine nx ?_
    refine J_region 2 rfl ?_
    refine ix rfl (det_add64 (c := 2) rfl rfl rfl rfl (by decide)) ?_
    refine ip 1 0 [(31, iv 2)] (by kernel_rfl) ?_
    refine JI_end ?_
    refine JR_succ ?_
    refine sr 1 rfl ?_
    refine ip 1 0 [(32, bv true)] (by kernel_rfl) ?_
    refine ie ?_
    refine J_seq ?_
    refine J_yes rfl ?_
    refine J_skip ?_
    refine nx ?_
    refine J_seq ?_
    refine J_block ?_
    refine sr 3 rfl ?_
    refine ix rfl (det_index (v := ag [iv s.line.kind, iv s.line.n]) (us := [iv s.line.kind, iv s.line.n]) Tryz.underlying143 ty24 rfl rfl rfl 2 rfl (by decide) rfl rfl rfl) ?_
    refine it rfl (tri_alloc (cs := cCol Col.zero) zero24 rfl) fun b10 => ?_
    refine it rfl (tri_store (us := [iv s.line.kind, iv s.line.n]) (cs' := cCol s.line) ty24 rfl rfl rfl 0 rfl rfl rfl rfl rfl rfl) fun _ => ?_
    refine ie ?_
    refine sr 3 rfl ?_
    refine ix rfl (det_own_agg (us := cCol s.line) ty24 rfl rfl 0 rfl rfl rfl) ?_
    refine ixc rfl (det_call (ref03_Check_c s.line _ rfl) rfl rfl rfl rfl rfl Foll.nil) ?_
    refine ip 1 0 [(5, iv (ref03_Check s.line))] (by kernel_rfl) ?_
    refine ie ?_
    refine sr 2 rfl ?_
    refine ip 2 0 [(37, bv (!decide ((ref03_Check s.line) = 0)))] (by kernel_rfl) ?_
    refine ie ?_
    refine J_if rfl (fun h11 => ?_) (fun h11 => ?_)
    ·have h11p : ¬ (ref03_Check s.line) = 0 := by simpa using h11
     replace hR := bt hR h11
     refine sr 2 rfl ?_
     refine ip 2 0 [(2, iv (ref03_Check s.line))] (by kernel_rfl) ?_
     refine ie ?_
     refine J_ret ?_
     subst hR
     exact ends_ret rfl ⟨hr, hD⟩ (by simp [hD]) (res1 rfl (resV_tmp rfl)) () (by rfl) (mk [false, false, false, false] rfl) Foll.nil
    ·have h11p : ¬ (¬ (ref03_Check s.line) = 0) := by simpa using h11
     replace hR := bf hR h11
     refine J_skip ?_
     refine nx ?_
     refine J_region 2 rfl ?_
     refine ix rfl (det_add64 (c := 3) rfl rfl rfl rfl (by decide)) ?_
     refine ip 1 0 [(31, iv 3)] (by kernel_rfl) ?_
     refine JI_end ?_
     refine JR_succ ?_
     refine sr 1 rfl ?_
     refine ip 1 0 [(32, bv false)] (by kernel_rfl) ?_
     refine ie ?_
     refine J_seq ?_
     refine J_no rfl ?_
     refine J_exit ?_
     refine nx ?_
     refine sr 1 rfl ?_
     refine ip 1 0 [(2, iv 0)] (by kernel_rfl) ?_
     refine ie ?_
     refine J_ret ?_
     subst hR
     exact ends_ret rfl ⟨hr, hD⟩ (by simp [hD]) (res1 rfl (resV_tmp rfl)) () (by rfl) (mk [false, false, false, false] rfl) Foll.nil

def ref12_Second (c : Cel) : Bool :=
 (((decide (c.base = 0)) && (decide (c.marks = Ar2.zero))) && (decide (c.wide = 2)))

theorem ref12_Second_c (c : Cel) (R : Bool) (hR : ref12_Second c = R) : ConV Tryz.prog 213 [ag (cCel c)] [] (bv R) := by
 refine con_of_J (n := 17) Tryz.func213 rfl (by kernel_rfl) rfl rfl [(0, ag (cCel c))] ⟨rfl, trivial⟩ fun X hX hr hD => ?_
 replace hR := (ref12_Second.eq_1 ..).symm.trans hR
 refine sr 2 rfl ?_
 refine it rfl (tri_box (cs := cCel c) rfl rfl rfl) fun b1 => ?_
 refine ip 1 0 [] (by kernel_rfl) ?_
 refine ie ?_
 refine sr 15 rfl ?_
 refine ip 1 14 [(3, pt b1 0)] (by kernel_rfl) ?_
 refine ix rfl (det_own_one (v := iv c.base) ty3 rfl rfl 0 rfl rfl) ?_
 refine ip 2 11 [(6, bv (decide (c.base = 0)))] (by kernel_rfl) ?_
 refine iand 5 6 6 11 (decide (c.marks = Ar2.zero)) rfl (by kernel_rfl) (fun g2 => ?_) ?_
 ·have g2p : c.base = 0 := by simpa using g2
  refine ip 1 4 [(7, pt b1 1)] (by kernel_rfl) ?_
  refine ix rfl (det_own_agg (us := cAr2 c.marks) ty68 rfl rfl 0 rfl rfl rfl) ?_
  refine ix rfl (det_build (cs := cAr2 Ar2.zero) rfl rfl (by kernel_rfl)) ?_
  refine ix rfl (det_eqs (a := c.marks) (b := Ar2.zero) eqt68 rfl rfl rfl) ?_
  refine ip 1 0 [(11, bv (decide (c.marks = Ar2.zero)))] (by kernel_rfl) ?_
  exact JI_end (armI 6 6 11 g2 Foll.nil (mk [true] rfl) rfl rfl rfl rfl rfl)
 refine ip 1 5 [(12, bv ((decide (c.base = 0)) && (decide (c.marks = Ar2.zero))))] (by kernel_rfl) ?_
 refine iand 4 1 12 16 (decide (c.wide = 2)) rfl (by kernel_rfl) (fun g3 => ?_) ?_
 ·have g3p : (c.base = 0) ∧ (c.marks = Ar2.zero) := by simpa using g3
  refine ip 1 3 [(13, pt b1 3)] (by kernel_rfl) ?_
  refine ix rfl (det_own_one (v := iv c.wide) ty3 rfl rfl 0 rfl rfl) ?_
  refine ip 2 0 [(16, bv (decide (c.wide = 2)))] (by kernel_rfl) ?_
  exact JI_end (armI 4 12 16 g3 Foll.nil (mk [true] rfl) rfl rfl rfl rfl rfl)
 refine ip 1 0 [(2, bv (((decide (c.base = 0)) && (decide (c.marks = Ar2.zero))) && (decide (c.wide = 2))))] (by kernel_rfl) ?_
 refine ie ?_
 refine J_ret ?_
 subst hR
 exact ends_ret rfl ⟨hr, hD⟩ (by simp [hD]) (res1 rfl (resV_tmp rfl)) () (by rfl) (mk [false] rfl) Foll.nil

def ref02_zero : List Ar2 :=
 ([{ Ar2.zero with a := 768, b := 879 }, { Ar2.zero with a := 1155, b := 1161 }, { Ar2.zero with a := 1425, b := 1469 }, { Ar2.zero with a := 1552, b := 1562 }, { Ar2.zero with a := 1611, b := 1631 }, { Ar2.zero with a := 6832, b := 6911 }, { Ar2.zero with a := 7616, b := 7679 }, { Ar2.zero with a := 8203, b := 8207 }, { Ar2.zero with a := 8400, b := 8447 }, { Ar2.zero with a := 65024, b := 65039 }, { Ar2.zero with a := 65056, b := 65071 }] : List Ar2)

theorem ref02_zero_c (R : List Ar2) (hR : ref02_zero = R) : Con Tryz.prog 209 [] [] [] ({t : Option Addr × Nat // R.length ≤ t.2 ∧ R.length ≤ 9223372036854775807}) (fun x => .slice x.1.1 R.length x.1.2) (fun x => []) (fun x => [sl cAr2 x.1.1 R]) := by
 refine con_of_J (n := 13) Tryz.func209 rfl (by kernel_rfl) rfl rfl [] trivial fun X hX hr hD => ?_
 replace hR := (ref02_zero.eq_1 ..).symm.trans hR
 refine sr 1 rfl ?_
 refine ip 1 0 [] (by kernel_rfl) ?_
 refine ie ?_
 refine sr 13 rfl ?_
 refine ix rfl (det_build (cs := cAr2 ({ Ar2.zero with a := 768, b := 879 })) rfl rfl (by kernel_rfl)) ?_
 refine ix rfl (det_build (cs := cAr2 ({ Ar2.zero with a := 1155, b := 1161 })) rfl rfl (by kernel_rfl)) ?_
 refine ix rfl (det_build (cs := cAr2 ({ Ar2.zero with a := 1425, b := 1469 })) rfl rfl (by kernel_rfl)) ?_
 refine ix rfl (det_build (cs := cAr2 ({ Ar2.zero with a := 1552, b := 1562 })) rfl rfl (by kernel_rfl)) ?_
 refine ix rfl (det_build (cs := cAr2 ({ Ar2.zero with a := 1611, b := 1631 })) rfl rfl (by kernel_rfl)) ?_
 refine ix rfl (det_build (cs := cAr2 ({ Ar2.zero with a := 6832, b := 6911 })) rfl rfl (by kernel_rfl)) ?_
 refine ix rfl (det_build (cs := cAr2 ({ Ar2.zero with a := 7616, b := 7679 })) rfl rfl (by kernel_rfl)) ?_
 refine ix rfl (det_build (cs := cAr2 ({ Ar2.zero with a := 8203, b := 8207 })) rfl rfl (by kernel_rfl)) ?_
 refine ix rfl (det_build (cs := cAr2 ({ Ar2.zero with a := 8400, b := 8447 })) rfl rfl (by kernel_rfl)) ?_
 refine ix rfl (det_build (cs := cAr2 ({ Ar2.zero with a := 65024, b := 65039 })) rfl rfl (by kernel_rfl)) ?_
 refine ix rfl (det_build (cs := cAr2 ({ Ar2.zero with a := 65056, b := 65071 })) rfl rfl (by kernel_rfl)) ?_
 refine it rfl (tri_buildSl (c := cAr2) (xs := ([{ Ar2.zero with a := 768, b := 879 }, { Ar2.zero with a := 1155, b := 1161 }, { Ar2.zero with a := 1425, b := 1469 }, { Ar2.zero with a := 1552, b := 1562 }, { Ar2.zero with a := 1611, b := 1631 }, { Ar2.zero with a := 6832, b := 6911 }, { Ar2.zero with a := 7616, b := 7679 }, { Ar2.zero with a := 8203, b := 8207 }, { Ar2.zero with a := 8400, b := 8447 }, { Ar2.zero with a := 65024, b := 65039 }, { Ar2.zero with a := 65056, b := 65071 }] : List Ar2)) slt270 rfl rfl rfl (by kernel_rfl)) fun b1 => ?_
 have : ([{ Ar2.zero with a := 768, b := 879 }, { Ar2.zero with a := 1155, b := 1161 }, { Ar2.zero with a := 1425, b := 1469 }, { Ar2.zero with a := 1552, b := 1562 }, { Ar2.zero with a := 1611, b := 1631 }, { Ar2.zero with a := 6832, b := 6911 }, { Ar2.zero with a := 7616, b := 7679 }, { Ar2.zero with a := 8203, b := 8207 }, { Ar2.zero with a := 8400, b := 8447 }, { Ar2.zero with a := 65024, b := 65039 }, { Ar2.zero with a := 65056, b := 65071 }] : List Ar2).length = 11 := rfl
 refine ip 1 0 [(0, .slice (some ⟨b1, 0, none⟩) 11 11)] (by kernel_rfl) ?_
 refine ie ?_
 refine J_ret ?_
 subst hR
 exact ends_ret rfl ⟨hr, hD⟩ (by simp [hD]) (res1 rfl (resV_tmp rfl)) ⟨(some ⟨b1, 0, none⟩, 11), (by first | omega | (simp <;> omega) | (dsimp only; omega) | decide), (by first | omega | (simp <;> omega) | (dsimp only; omega) | decide)⟩ (by rfl) (mk [] rfl) (Foll.con1 (at_of 0 rfl) Foll.nil)

def ref02_in_l0 (cp : Int) : List Ar2 → Nat → Bool
 | [], i => false
 | hd_l0 :: tl_l0, i => (bif ((decide (hd_l0.a ≤ cp)) && (decide (cp ≤ hd_l0.b))) then true else ref02_in_l0 cp tl_l0 (i + 1))
def ref02_in (l : List Ar2) (cp : Int) : Bool :=
 ref02_in_l0 cp l 0

theorem ref02_in_c (l : List Ar2) (cp : Int) (lq : Option Addr) (lk : Nat) (hll : l.length ≤ 9223372036854775807) (hcl : l.length ≤ lk) (R : Bool) (hR : ref02_in l cp = R) : ConV Tryz.prog 208 [.slice lq l.length lk, iv cp] [sl cAr2 lq l] (bv R) := by
 refine con_of_J (n := 28) Tryz.func208 rfl (by kernel_rfl) rfl rfl [(0, .slice lq l.length lk), (1, iv cp)] ⟨rfl, rfl, trivial⟩ fun X hX hr hD => ?_
 replace hR := (ref02_in.eq_1 ..).symm.trans hR
 refine sr 1 rfl ?_
 refine ip 1 0 [] (by kernel_rfl) ?_
 refine ie ?_
 refine J_seq ?_
 refine sr 1 rfl ?_
 refine ip 1 0 [(5, iv 0)] (by kernel_rfl) ?_
 refine ie ?_
 refine J_block ?_
 refine JL1 (fun (i : Nat) => i ≤ l.length ∧ ref02_in_l0 cp (l.drop i) i = R) (fun (i : Nat) => [(0, .slice lq l.length lk), (1, iv cp), (5, iv (i : Int))]) (fun (i : Nat) => []) (fun (i : Nat) => [sl cAr2 lq l]) (fun (i : Nat) => l.length - i) 0 ⟨(by omega), hR⟩ ⟨rfl, rfl, (by first | rfl | (simp only [List.length_set]; rfl) | (simp; done) | (simp; omega)), trivial⟩ (mk [] rfl) Foll.refl ?_
 rintro i ⟨hm1, hR⟩
 refine J_seq ?_
 refine sr 4 rfl ?_
 refine ip 4 0 [(9, bv (decide ((i : Int) < (l.length : Int))))] (by kernel_rfl) ?_
 refine ie ?_
 refine J_if rfl (fun h2 => ?_) (fun h2 => ?_)
 ·have h2p : (i : Int) < (l.length : Int) := by simpa using h2
  rw [dropc Ar2.zero (show i < l.length by omega)] at hR; replace hR := (ref02_in_l0.eq_2 ..).symm.trans hR
  refine J_skip ?_
  refine nx ?_
  refine J_seq ?_
  refine J_block ?_
  refine sr 16 rfl ?_
  refine ip 3 13 [(12, iv cp), (13, .slice lq l.length lk), (14, iv (i : Int))] (by kernel_rfl) ?_
  refine JI_base 0 rfl (by omega) fun a3 hq4 => ?_
  refine ix rfl (det_ixq slt270 rfl rfl hq4 rfl i rfl (by omega)) ?_
  refine ix rfl (det_ix_arr Tryz.underlying68 ty3 rfl rfl rfl 0 rfl (by decide)) ?_
  refine ix rfl (det_ld_one (v := iv ((l.getD i Ar2.zero).a)) (us := [iv ((l.getD i Ar2.zero).a)]) ty3 rfl rfl (at_part (at_slq (c := cAr2) (sz := 2) hq4 (fun _ => rfl) 0 rfl (gd Ar2.zero (by omega))) (ws := [iv ((l.getD i Ar2.zero).a)]) 0 1 rfl) rfl) ?_
  refine ip 2 8 [(19, bv (decide ((l.getD i Ar2.zero).a ≤ cp)))] (by kernel_rfl) ?_
  refine iand 8 0 19 27 (decide (cp ≤ (l.getD i Ar2.zero).b)) rfl (by kernel_rfl) (fun g5 => ?_) ?_
  ·have g5p : (l.getD i Ar2.zero).a ≤ cp := by simpa using g5
   refine ip 3 5 [(20, iv cp), (21, .slice lq l.length lk), (22, iv (i : Int))] (by kernel_rfl) ?_
   refine ix rfl (det_ixq slt270 rfl rfl hq4 rfl i rfl (by omega)) ?_
   refine ix rfl (det_ix_arr Tryz.underlying68 ty3 rfl rfl rfl 1 rfl (by decide)) ?_
   refine ix rfl (det_ld_one (v := iv ((l.getD i Ar2.zero).b)) (us := [iv ((l.getD i Ar2.zero).b)]) ty3 rfl rfl (at_part (at_slq (c := cAr2) (sz := 2) hq4 (fun _ => rfl) 0 rfl (gd Ar2.zero (by omega))) (ws := [iv ((l.getD i Ar2.zero).b)]) 1 1 rfl) rfl) ?_
   refine ip 2 0 [(27, bv (decide (cp ≤ (l.getD i Ar2.zero).b)))] (by kernel_rfl) ?_
   exact JI_end (armI 8 19 27 g5 Foll.refl (mk [] rfl) rfl rfl rfl rfl rfl)
  refine ie ?_
  refine J_if rfl (fun h6 => ?_) (fun h6 => ?_)
  ·have h6p : ((l.getD i Ar2.zero).a ≤ cp) ∧ (cp ≤ (l.getD i Ar2.zero).b) := by simpa using h6
   replace hR := bt hR h6
   refine sr 1 rfl ?_
   refine ip 1 0 [(4, bv true)] (by kernel_rfl) ?_
   refine ie ?_
   refine J_ret ?_
   subst hR
   exact ends_ret rfl ⟨hr, hD⟩ (by simp [hD]) (res1 rfl (resV_tmp rfl)) () (by rfl) (mk [] rfl) Foll.nil
  ·have h6p : ¬ (((l.getD i Ar2.zero).a ≤ cp) ∧ (cp ≤ (l.getD i Ar2.zero).b)) := by simpa using h6
   replace hR := bf hR h6
   refine J_skip ?_
   refine nx ?_
   refine J_region 3 rfl ?_
   refine ip 1 2 [(10, iv (i : Int))] (by kernel_rfl) ?_
   refine ix rfl (det_add64 rfl rfl rfl rfl (by omega)) ?_
   refine ip 1 0 [(5, iv ((i : Int) + 1))] (by kernel_rfl) ?_
   refine JI_end ?_
   exact againL1 (z1 := i) (i + 1) ⟨(by omega), hR⟩ (by (try dsimp only); omega) ⟨rfl, rfl, (by first | rfl | (simp only [List.length_set]; rfl) | (simp; done) | (simp; omega)), trivial⟩ (mk [] rfl) Foll.refl
 ·have h2p : ¬ ((i : Int) < (l.length : Int)) := by simpa using h2
  rw [dropn h2p] at hR; replace hR := (ref02_in_l0.eq_1 ..).symm.trans hR
  refine J_exit ?_
  refine nx ?_
  refine sr 1 rfl ?_
  refine ip 1 0 [(4, bv false)] (by kernel_rfl) ?_
  refine ie ?_
  refine J_ret ?_
  subst hR
  exact ends_ret rfl ⟨hr, hD⟩ (by simp [hD]) (res1 rfl (resV_tmp rfl)) () (by rfl) (mk [] rfl) Foll.nil

def ref02_two : List Ar2 :=
 ([{ Ar2.zero with a := 4352, b := 4447 }, { Ar2.zero with a := 11904, b := 12350 }, { Ar2.zero with a := 12353, b := 13311 }, { Ar2.zero with a := 13312, b := 19903 }, { Ar2.zero with a := 19968, b := 40959 }, { Ar2.zero with a := 40960, b := 42191 }, { Ar2.zero with a := 44032, b := 55203 }, { Ar2.zero with a := 63744, b := 64255 }, { Ar2.zero with a := 65072, b := 65135 }, { Ar2.zero with a := 65280, b := 65376 }, { Ar2.zero with a := 65504, b := 65510 }, { Ar2.zero with a := 127744, b := 128591 }, { Ar2.zero with a := 128640, b := 128767 }, { Ar2.zero with a := 129280, b := 129535 }, { Ar2.zero with a := 131072, b := 262141 }] : List Ar2)

theorem ref02_two_c (R : List Ar2) (hR : ref02_two = R) : Con Tryz.prog 210 [] [] [] ({t : Option Addr × Nat // R.length ≤ t.2 ∧ R.length ≤ 9223372036854775807}) (fun x => .slice x.1.1 R.length x.1.2) (fun x => []) (fun x => [sl cAr2 x.1.1 R]) := by
 refine con_of_J (n := 17) Tryz.func210 rfl (by kernel_rfl) rfl rfl [] trivial fun X hX hr hD => ?_
 replace hR := (ref02_two.eq_1 ..).symm.trans hR
 refine sr 1 rfl ?_
 refine ip 1 0 [] (by kernel_rfl) ?_
 refine ie ?_
 refine sr 17 rfl ?_
 refine ix rfl (det_build (cs := cAr2 ({ Ar2.zero with a := 4352, b := 4447 })) rfl rfl (by kernel_rfl)) ?_
 refine ix rfl (det_build (cs := cAr2 ({ Ar2.zero with a := 11904, b := 12350 })) rfl rfl (by kernel_rfl)) ?_
 refine ix rfl (det_build (cs := cAr2 ({ Ar2.zero with a := 12353, b := 13311 })) rfl rfl (by kernel_rfl)) ?_
 refine ix rfl (det_build (cs := cAr2 ({ Ar2.zero with a := 13312, b := 19903 })) rfl rfl (by kernel_rfl)) ?_
 refine ix rfl (det_build (cs := cAr2 ({ Ar2.zero with a := 19968, b := 40959 })) rfl rfl (by kernel_rfl)) ?_
 refine ix rfl (det_build (cs := cAr2 ({ Ar2.zero with a := 40960, b := 42191 })) rfl rfl (by kernel_rfl)) ?_
 refine ix rfl (det_build (cs := cAr2 ({ Ar2.zero with a := 44032, b := 55203 })) rfl rfl (by kernel_rfl)) ?_
 refine ix rfl (det_build (cs := cAr2 ({ Ar2.zero with a := 63744, b := 64255 })) rfl rfl (by kernel_rfl)) ?_
 refine ix rfl (det_build (cs := cAr2 ({ Ar2.zero with a := 65072, b := 65135 })) rfl rfl (by kernel_rfl)) ?_
 refine ix rfl (det_build (cs := cAr2 ({ Ar2.zero with a := 65280, b := 65376 })) rfl rfl (by kernel_rfl)) ?_
 refine ix rfl (det_build (cs := cAr2 ({ Ar2.zero with a := 65504, b := 65510 })) rfl rfl (by kernel_rfl)) ?_
 refine ix rfl (det_build (cs := cAr2 ({ Ar2.zero with a := 127744, b := 128591 })) rfl rfl (by kernel_rfl)) ?_
 refine ix rfl (det_build (cs := cAr2 ({ Ar2.zero with a := 128640, b := 128767 })) rfl rfl (by kernel_rfl)) ?_
 refine ix rfl (det_build (cs := cAr2 ({ Ar2.zero with a := 129280, b := 129535 })) rfl rfl (by kernel_rfl)) ?_
 refine ix rfl (det_build (cs := cAr2 ({ Ar2.zero with a := 131072, b := 262141 })) rfl rfl (by kernel_rfl)) ?_
 refine it rfl (tri_buildSl (c := cAr2) (xs := ([{ Ar2.zero with a := 4352, b := 4447 }, { Ar2.zero with a := 11904, b := 12350 }, { Ar2.zero with a := 12353, b := 13311 }, { Ar2.zero with a := 13312, b := 19903 }, { Ar2.zero with a := 19968, b := 40959 }, { Ar2.zero with a := 40960, b := 42191 }, { Ar2.zero with a := 44032, b := 55203 }, { Ar2.zero with a := 63744, b := 64255 }, { Ar2.zero with a := 65072, b := 65135 }, { Ar2.zero with a := 65280, b := 65376 }, { Ar2.zero with a := 65504, b := 65510 }, { Ar2.zero with a := 127744, b := 128591 }, { Ar2.zero with a := 128640, b := 128767 }, { Ar2.zero with a := 129280, b := 129535 }, { Ar2.zero with a := 131072, b := 262141 }] : List Ar2)) slt270 rfl rfl rfl (by kernel_rfl)) fun b1 => ?_
 have : ([{ Ar2.zero with a := 4352, b := 4447 }, { Ar2.zero with a := 11904, b := 12350 }, { Ar2.zero with a := 12353, b := 13311 }, { Ar2.zero with a := 13312, b := 19903 }, { Ar2.zero with a := 19968, b := 40959 }, { Ar2.zero with a := 40960, b := 42191 }, { Ar2.zero with a := 44032, b := 55203 }, { Ar2.zero with a := 63744, b := 64255 }, { Ar2.zero with a := 65072, b := 65135 }, { Ar2.zero with a := 65280, b := 65376 }, { Ar2.zero with a := 65504, b := 65510 }, { Ar2.zero with a := 127744, b := 128591 }, { Ar2.zero with a := 128640, b := 128767 }, { Ar2.zero with a := 129280, b := 129535 }, { Ar2.zero with a := 131072, b := 262141 }] : List Ar2).length = 15 := rfl
 refine ip 1 0 [(0, .slice (some ⟨b1, 0, none⟩) 15 15)] (by kernel_rfl) ?_
 refine ie ?_
 refine J_ret ?_
 subst hR
 exact ends_ret rfl ⟨hr, hD⟩ (by simp [hD]) (res1 rfl (resV_tmp rfl)) ⟨(some ⟨b1, 0, none⟩, 15), (by first | omega | (simp <;> omega) | (dsimp only; omega) | decide), (by first | omega | (simp <;> omega) | (dsimp only; omega) | decide)⟩ (by rfl) (mk [] rfl) (Foll.con1 (at_of 0 rfl) Foll.nil)

def ref02_Of (cp : Int) : Int :=
 (bif (((!(ref01_Check cp)) || (decide (cp < 32))) || ((decide ((127 : Int) ≤ cp)) && (decide (cp < 160)))) then (-1) else (bindV ref02_zero fun (y1 : List Ar2) => (bif (ref02_in y1 cp) then 0 else (bindV ref02_two fun (y2 : List Ar2) => (bif (ref02_in y2 cp) then 2 else 1)))))

theorem ref02_Of_c (cp : Int) (R : Int) (hR : ref02_Of cp = R) : ConV Tryz.prog 155 [iv cp] [] (iv R) := by
 refine con_of_J (n := 24) Tryz.func155 rfl (by kernel_rfl) rfl rfl [(0, iv cp)] ⟨rfl, trivial⟩ fun X hX hr hD => ?_
 replace hR := (ref02_Of.eq_1 ..).symm.trans hR
 refine sr 1 rfl ?_
 refine ip 1 0 [] (by kernel_rfl) ?_
 refine ie ?_
 refine J_seq ?_
 refine sr 15 rfl ?_
 refine ip 1 14 [(3, iv cp)] (by kernel_rfl) ?_
 refine ixc rfl (det_call (ref01_Check_c cp _ rfl) rfl rfl rfl rfl rfl Foll.nil) ?_
 refine ip 2 11 [(6, bv (!(ref01_Check cp)))] (by kernel_rfl) ?_
 refine ior 3 8 6 9 (decide (cp < 32)) rfl (by kernel_rfl) (fun g1 => ?_) ?_
 ·refine ip 3 0 [(9, bv (decide (cp < 32)))] (by kernel_rfl) ?_
  exact JI_end (armI 2 6 9 g1 Foll.nil (mk [] rfl) rfl rfl rfl rfl rfl)
 refine ip 1 7 [(10, bv ((!(ref01_Check cp)) || (decide (cp < 32))))] (by kernel_rfl) ?_
 refine ior 7 0 10 17 ((decide ((127 : Int) ≤ cp)) && (decide (cp < 160))) rfl (by kernel_rfl) (fun g2 => ?_) ?_
 ·have g2p := g2; try simp at g2p
  refine ip 3 4 [(13, bv (decide ((127 : Int) ≤ cp)))] (by kernel_rfl) ?_
  refine iand 3 1 13 16 (decide (cp < 160)) rfl (by kernel_rfl) (fun g3 => ?_) ?_
  ·have g3p : (127 : Int) ≤ cp := by simpa using g3
   refine ip 3 0 [(16, bv (decide (cp < 160)))] (by kernel_rfl) ?_
   exact JI_end (armI 2 13 16 g3 Foll.nil (mk [] rfl) rfl rfl rfl rfl rfl)
  refine ip 1 0 [(17, bv ((decide ((127 : Int) ≤ cp)) && (decide (cp < 160))))] (by kernel_rfl) ?_
  exact JI_end (armI 4 10 17 g2 Foll.nil (mk [] rfl) rfl rfl rfl rfl rfl)
 refine ie ?_
 refine J_if rfl (fun h4 => ?_) (fun h4 => ?_)
 ·have h4p := h4; try simp at h4p
  replace hR := bt hR h4
  refine sr 1 rfl ?_
  refine ip 1 0 [(2, iv (-1))] (by kernel_rfl) ?_
  refine ie ?_
  refine J_ret ?_
  subst hR
  exact ends_ret rfl ⟨hr, hD⟩ (by simp [hD]) (res1 rfl (resV_tmp rfl)) () (by rfl) (mk [] rfl) Foll.nil
 ·have h4p := h4; try simp at h4p
  replace hR := bf hR h4
  refine J_skip ?_
  refine nx ?_
  refine J_seq ?_
  refine sr 3 rfl ?_
  have hQ := bindVx hR; clear hR; obtain ⟨y1, hy1, hR⟩ := hQ
  refine it rfl (tri_callN (L2 := []) (ref02_zero_c y1 hy1) rfl rfl rfl rfl rfl Foll.nil (List.Perm.refl _) (fun ⟨⟨q5, k6⟩, hp7⟩ => []) (fun _ => rfl)) fun ⟨⟨q5, k6⟩, hp7⟩ => ?_
  obtain ⟨hc8, hl9⟩ := hp7
  refine ip 1 1 [(19, iv cp)] (by kernel_rfl) ?_
  refine ixc rfl (det_call (ref02_in_c y1 cp q5 k6 (by first | omega | (simp <;> omega) | (dsimp only; omega) | decide) (by first | omega | (simp <;> omega) | (dsimp only; omega) | decide) _ rfl) rfl rfl rfl rfl rfl Foll.refl) ?_
  refine ie ?_
  refine J_if rfl (fun h10 => ?_) (fun h10 => ?_)
  ·replace hR := bt hR h10
   refine sr 1 rfl ?_
   refine ip 1 0 [(2, iv 0)] (by kernel_rfl) ?_
   refine ie ?_
   refine J_ret ?_
   subst hR
   exact ends_ret rfl ⟨hr, hD⟩ (by simp [hD]) (res1 rfl (resV_tmp rfl)) () (by rfl) (mk [] rfl) Foll.nil
  ·replace hR := bf hR h10
   refine J_skip ?_
   refine nx ?_
   refine J_seq ?_
   refine sr 3 rfl ?_
   have hQ := bindVx hR; clear hR; obtain ⟨y2, hy2, hR⟩ := hQ
   refine it rfl (tri_callN (L2 := []) (ref02_two_c y2 hy2) rfl rfl rfl rfl rfl Foll.nil (List.Perm.refl _) (fun ⟨⟨q11, k12⟩, hp13⟩ => []) (fun _ => rfl)) fun ⟨⟨q11, k12⟩, hp13⟩ => ?_
   obtain ⟨hc14, hl15⟩ := hp13
   refine ip 1 1 [(22, iv cp)] (by kernel_rfl) ?_
   refine ixc rfl (det_call (ref02_in_c y2 cp q11 k12 (by first | omega | (simp <;> omega) | (dsimp only; omega) | decide) (by first | omega | (simp <;> omega) | (dsimp only; omega) | decide) _ rfl) rfl rfl rfl rfl rfl (Foll.pick [0] rfl)) ?_
   refine ie ?_
   refine J_if rfl (fun h16 => ?_) (fun h16 => ?_)
   ·replace hR := bt hR h16
    refine sr 1 rfl ?_
    refine ip 1 0 [(2, iv 2)] (by kernel_rfl) ?_
    refine ie ?_
    refine J_ret ?_
    subst hR
    exact ends_ret rfl ⟨hr, hD⟩ (by simp [hD]) (res1 rfl (resV_tmp rfl)) () (by rfl) (mk [] rfl) Foll.nil
   ·replace hR := bf hR h16
    refine J_skip ?_
    refine nx ?_
    refine sr 1 rfl ?_
    refine ip 1 0 [(2, iv 1)] (by kernel_rfl) ?_
    refine ie ?_
    refine J_ret ?_
    subst hR
    exact ends_ret rfl ⟨hr, hD⟩ (by simp [hD]) (res1 rfl (resV_tmp rfl)) () (by rfl) (mk [] rfl) Foll.nil

def ref12_CheckCell (c : Cel) : Int :=
 (bif (!decide ((ref04_Check c.sty) = 0)) then 221 else (bif (ref12_Second c) then 0 else (bif ((!decide (c.marks.a = 0)) && ((!decide ((ref02_Of c.marks.a) = 0)) || false)) then 221 else (bif ((!decide (c.marks.b = 0)) && ((!decide ((ref02_Of c.marks.b) = 0)) || (decide (c.marks.a = 0)))) then 221 else (bif (((decide ((ref02_Of c.base) = 1)) && (decide (c.wide = 0))) || ((decide ((ref02_Of c.base) = 2)) && (decide (c.wide = 1)))) then 0 else 221)))))

theorem ref12_CheckCell_c (c : Cel) (R : Int) (hR : ref12_CheckCell c = R) : ConV Tryz.prog 167 [ag (cCel c)] [] (iv R) := by
 refine con_of_J (n := 59) Tryz.func167 rfl (by kernel_rfl) rfl rfl [(0, ag (cCel c))] ⟨rfl, trivial⟩ fun X hX hr hD => ?_
 replace hR := (ref12_CheckCell.eq_1 ..).symm.trans hR
 refine sr 2 rfl ?_
 refine it rfl (tri_box (cs := cCel c) rfl rfl rfl) fun b1 => ?_
 refine ip 1 0 [] (by kernel_rfl) ?_
 refine ie ?_
 refine J_seq ?_
 refine sr 4 rfl ?_
 refine ip 1 3 [(5, pt b1 4)] (by kernel_rfl) ?_
 refine ix rfl (det_own_agg (us := cSty c.sty) ty70 rfl rfl 0 rfl rfl rfl) ?_
 refine ixc rfl (det_call (ref04_Check_c c.sty _ rfl) rfl rfl rfl rfl rfl Foll.nil) ?_
 refine ip 1 0 [(8, bv (!decide ((ref04_Check c.sty) = 0)))] (by kernel_rfl) ?_
 refine ie ?_
 refine J_if rfl (fun h2 => ?_) (fun h2 => ?_)
 ·have h2p : ¬ (ref04_Check c.sty) = 0 := by simpa using h2
  replace hR := bt hR h2
  refine sr 1 rfl ?_
  refine ip 1 0 [(2, iv 221)] (by kernel_rfl) ?_
  refine ie ?_
  refine J_ret ?_
  subst hR
  exact ends_ret rfl ⟨hr, hD⟩ (by simp [hD]) (res1 rfl (resV_tmp rfl)) () (by rfl) (mk [false] rfl) Foll.nil
 ·have h2p : ¬ (¬ (ref04_Check c.sty) = 0) := by simpa using h2
  replace hR := bf hR h2
  refine J_skip ?_
  refine nx ?_
  refine J_seq ?_
  refine sr 2 rfl ?_
  refine ix rfl (det_own_agg (us := cCel c) ty72 rfl rfl 0 rfl rfl rfl) ?_
  refine ixc rfl (det_call (ref12_Second_c c _ rfl) rfl rfl rfl rfl rfl Foll.nil) ?_
  refine ie ?_
  refine J_if rfl (fun h3 => ?_) (fun h3 => ?_)
  ·replace hR := bt hR h3
   refine sr 1 rfl ?_
   refine ip 1 0 [(2, iv 0)] (by kernel_rfl) ?_
   refine ie ?_
   refine J_ret ?_
   subst hR
   exact ends_ret rfl ⟨hr, hD⟩ (by simp [hD]) (res1 rfl (resV_tmp rfl)) () (by rfl) (mk [false] rfl) Foll.nil
  ·replace hR := bf hR h3
   refine J_skip ?_
   refine nx ?_
   refine J_seq ?_
   refine sr 1 rfl ?_
   refine ip 1 0 [(3, iv 0)] (by kernel_rfl) ?_
   refine ie ?_
   refine J_block ?_
   refine J_rounds 3 ?_
   refine JR_succ ?_
   refine J_seq ?_
   refine sr 2 rfl ?_
   refine ip 2 0 [(12, bv true)] (by kernel_rfl) ?_
   refine ie ?_
   refine J_yes rfl ?_
   refine J_skip ?_
   refine nx ?_
   refine J_seq ?_
   refine J_block ?_
   refine sr 25 rfl ?_
   refine ip 2 23 [(15, iv 0), (16, pt b1 1)] (by kernel_rfl) ?_
   refine ix rfl (det_ix_own Tryz.underlying68 ty3 rfl rfl rfl 0 rfl rfl) ?_
   refine ix rfl (det_own_one (v := iv c.marks.a) ty3 rfl rfl 0 rfl rfl) ?_
   refine ip 2 19 [(20, bv (!decide (c.marks.a = 0)))] (by kernel_rfl) ?_
   refine iand 19 0 20 39 ((!decide ((ref02_Of c.marks.a) = 0)) || false) rfl (by kernel_rfl) (fun g4 => ?_) ?_
   ·have g4p : ¬ c.marks.a = 0 := by simpa using g4
    refine ip 2 17 [(21, iv 0), (22, pt b1 1)] (by kernel_rfl) ?_
    refine ix rfl (det_ix_own Tryz.underlying68 ty3 rfl rfl rfl 0 rfl rfl) ?_
    refine ix rfl (det_own_one (v := iv c.marks.a) ty3 rfl rfl 0 rfl rfl) ?_
    refine ixc rfl (det_call (ref02_Of_c c.marks.a _ rfl) rfl rfl rfl rfl rfl Foll.nil) ?_
    refine ip 2 12 [(27, bv (!decide ((ref02_Of c.marks.a) = 0)))] (by kernel_rfl) ?_
    refine ior 11 1 27 38 false rfl (by kernel_rfl) (fun g5 => ?_) ?_
    ·have g5p : ¬ (¬ (ref02_Of c.marks.a) = 0) := by simpa using g5
     refine ip 11 0 [(38, bv false)] (by kernel_rfl) ?_
     exact JI_end (armI 2 27 38 g5 Foll.nil (mk [true] rfl) rfl rfl rfl rfl rfl)
    refine ip 1 0 [(39, bv ((!decide ((ref02_Of c.marks.a) = 0)) || false))] (by kernel_rfl) ?_
    exact JI_end (armI 9 20 39 g4 Foll.nil (mk [true] rfl) rfl rfl rfl rfl rfl)
   refine ie ?_
   refine J_if rfl (fun h6 => ?_) (fun h6 => ?_)
   ·have h6p := h6; try simp at h6p
    replace hR := bt hR h6
    refine sr 1 rfl ?_
    refine ip 1 0 [(2, iv 221)] (by kernel_rfl) ?_
    refine ie ?_
    refine J_ret ?_
    subst hR
    exact ends_ret rfl ⟨hr, hD⟩ (by simp [hD]) (res1 rfl (resV_tmp rfl)) () (by rfl) (mk [false] rfl) Foll.nil
   ·have h6p := h6; try simp at h6p
    replace hR := bf hR h6
    refine J_skip ?_
    refine nx ?_
    refine J_region 3 rfl ?_
    refine ip 1 2 [(13, iv 0)] (by kernel_rfl) ?_
    refine ix rfl (det_add64 (c := 1) rfl rfl rfl rfl (by decide)) ?_
    refine ip 1 0 [(3, iv 1)] (by kernel_rfl) ?_
    refine JI_end ?_
    refine JR_succ ?_
    refine J_seq ?_
    refine sr 2 rfl ?_
    refine ip 2 0 [(12, bv true)] (by kernel_rfl) ?_
    refine ie ?_
    refine J_yes rfl ?_
    refine J_skip ?_
    refine nx ?_
    refine J_seq ?_
    refine J_block ?_
    refine sr 25 rfl ?_
    refine ip 2 23 [(15, iv 1), (16, pt b1 1)] (by kernel_rfl) ?_
    refine ix rfl (det_ix_own Tryz.underlying68 ty3 rfl rfl rfl 1 rfl rfl) ?_
    refine ix rfl (det_own_one (v := iv c.marks.b) ty3 rfl rfl 0 rfl rfl) ?_
    refine ip 2 19 [(20, bv (!decide (c.marks.b = 0)))] (by kernel_rfl) ?_
    refine iand 19 0 20 39 ((!decide ((ref02_Of c.marks.b) = 0)) || (decide (c.marks.a = 0))) rfl (by kernel_rfl) (fun g7 => ?_) ?_
    ·have g7p : ¬ c.marks.b = 0 := by simpa using g7
     refine ip 2 17 [(21, iv 1), (22, pt b1 1)] (by kernel_rfl) ?_
     refine ix rfl (det_ix_own Tryz.underlying68 ty3 rfl rfl rfl 1 rfl rfl) ?_
     refine ix rfl (det_own_one (v := iv c.marks.b) ty3 rfl rfl 0 rfl rfl) ?_
     refine ixc rfl (det_call (ref02_Of_c c.marks.b _ rfl) rfl rfl rfl rfl rfl Foll.nil) ?_
     refine ip 2 12 [(27, bv (!decide ((ref02_Of c.marks.b) = 0)))] (by kernel_rfl) ?_
     refine ior 11 1 27 38 (decide (c.marks.a = 0)) rfl (by kernel_rfl) (fun g8 => ?_) ?_
     ·have g8p : ¬ (¬ (ref02_Of c.marks.b) = 0) := by simpa using g8
      refine ip 4 7 [(30, bv true), (31, iv 1)] (by kernel_rfl) ?_
      refine ix rfl (det_sub64 (c := 0) rfl rfl rfl rfl (by decide)) ?_
      refine ip 1 5 [(33, pt b1 1)] (by kernel_rfl) ?_
      refine ix rfl (det_ix_own Tryz.underlying68 ty3 rfl rfl rfl 0 rfl rfl) ?_
      refine ix rfl (det_own_one (v := iv c.marks.a) ty3 rfl rfl 0 rfl rfl) ?_
      refine ip 3 0 [(38, bv (decide (c.marks.a = 0)))] (by kernel_rfl) ?_
      exact JI_end (armI 8 27 38 g8 Foll.nil (mk [true] rfl) rfl rfl rfl rfl rfl)
     refine ip 1 0 [(39, bv ((!decide ((ref02_Of c.marks.b) = 0)) || (decide (c.marks.a = 0))))] (by kernel_rfl) ?_
     exact JI_end (armI 9 20 39 g7 Foll.nil (mk [true] rfl) rfl rfl rfl rfl rfl)
    refine ie ?_
    refine J_if rfl (fun h9 => ?_) (fun h9 => ?_)
    ·have h9p : (¬ c.marks.b = 0) ∧ ((¬ (ref02_Of c.marks.b) = 0) ∨ (c.marks.a = 0)) := by simpa using h9
     replace hR := bt hR h9
     refine sr 1 rfl ?_
     refine ip 1 0 [(2, iv 221)] (by kernel_rfl) ?_
     refine ie ?_
     refine J_ret ?_
     subst hR
     exact ends_ret rfl ⟨hr, hD⟩ (by simp [hD]) (res1 rfl (resV_tmp rfl)) () (by rfl) (mk [false] rfl) Foll.nil
    ·have h9p : ¬ ((¬ c.marks.b = 0) ∧ ((¬ (ref02_Of c.marks.b) = 0) ∨ (c.marks.a = 0))) := by simpa using h9
     replace hR := bf hR h9
     refine J_skip ?_
     refine nx ?_
     refine J_region 3 rfl ?_
     refine ip 1 2 [(13, iv 1)] (by kernel_rfl) ?_
     refine ix rfl (det_add64 (c := 2) rfl rfl rfl rfl (by decide)) ?_
     refine ip 1 0 [(3, iv 2)] (by kernel_rfl) ?_
     refine JI_end ?_
     refine JR_succ ?_
     refine J_seq ?_
     refine sr 2 rfl ?_
     refine ip 2 0 [(12, bv false)] (by kernel_rfl) ?_
     refine ie ?_
     refine J_no rfl ?_
     refine J_exit ?_
     refine nx ?_
     refine sr 4 rfl ?_
     refine ip 1 3 [(40, pt b1 0)] (by kernel_rfl) ?_
     refine ix rfl (det_own_one (v := iv c.base) ty3 rfl rfl 0 rfl rfl) ?_
     refine ixc rfl (det_call (ref02_Of_c c.base _ rfl) rfl rfl rfl rfl rfl Foll.nil) ?_
     refine ip 1 0 [(4, iv (ref02_Of c.base))] (by kernel_rfl) ?_
     refine ie ?_
     refine J_seq ?_
     refine sr 16 rfl ?_
     refine ip 3 13 [(45, bv (decide ((ref02_Of c.base) = 1)))] (by kernel_rfl) ?_
     refine iand 4 9 45 49 (decide (c.wide = 0)) rfl (by kernel_rfl) (fun g10 => ?_) ?_
     ·have g10p : (ref02_Of c.base) = 1 := by simpa using g10
      refine ip 1 3 [(46, pt b1 3)] (by kernel_rfl) ?_
      refine ix rfl (det_own_one (v := iv c.wide) ty3 rfl rfl 0 rfl rfl) ?_
      refine ip 2 0 [(49, bv (decide (c.wide = 0)))] (by kernel_rfl) ?_
      exact JI_end (armI 4 45 49 g10 Foll.nil (mk [true] rfl) rfl rfl rfl rfl rfl)
     refine ip 1 8 [(50, bv ((decide ((ref02_Of c.base) = 1)) && (decide (c.wide = 0))))] (by kernel_rfl) ?_
     refine ior 8 0 50 58 ((decide ((ref02_Of c.base) = 2)) && (decide (c.wide = 1))) rfl (by kernel_rfl) (fun g11 => ?_) ?_
     ·have g11p : ¬ (((ref02_Of c.base) = 1) ∧ (c.wide = 0)) := by simpa using g11
      refine ip 3 5 [(53, bv (decide ((ref02_Of c.base) = 2)))] (by kernel_rfl) ?_
      refine iand 4 1 53 57 (decide (c.wide = 1)) rfl (by kernel_rfl) (fun g12 => ?_) ?_
      ·have g12p : (ref02_Of c.base) = 2 := by simpa using g12
       refine ip 1 3 [(54, pt b1 3)] (by kernel_rfl) ?_
       refine ix rfl (det_own_one (v := iv c.wide) ty3 rfl rfl 0 rfl rfl) ?_
       refine ip 2 0 [(57, bv (decide (c.wide = 1)))] (by kernel_rfl) ?_
       exact JI_end (armI 4 53 57 g12 Foll.nil (mk [true] rfl) rfl rfl rfl rfl rfl)
      refine ip 1 0 [(58, bv ((decide ((ref02_Of c.base) = 2)) && (decide (c.wide = 1))))] (by kernel_rfl) ?_
      exact JI_end (armI 4 50 58 g11 Foll.nil (mk [true] rfl) rfl rfl rfl rfl rfl)
     refine ie ?_
     refine J_if rfl (fun h13 => ?_) (fun h13 => ?_)
     ·have h13p : (((ref02_Of c.base) = 1) ∧ (c.wide = 0)) ∨ (((ref02_Of c.base) = 2) ∧ (c.wide = 1)) := by simpa using h13
      replace hR := bt hR h13
      refine sr 1 rfl ?_
      refine ip 1 0 [(2, iv 0)] (by kernel_rfl) ?_
      refine ie ?_
      refine J_ret ?_
      subst hR
      exact ends_ret rfl ⟨hr, hD⟩ (by simp [hD]) (res1 rfl (resV_tmp rfl)) () (by rfl) (mk [false] rfl) Foll.nil
     ·have h13p : ¬ ((((ref02_Of c.base) = 1) ∧ (c.wide = 0)) ∨ (((ref02_Of c.base) = 2) ∧ (c.wide = 1))) := by simpa using h13
      replace hR := bf hR h13
      refine J_skip ?_
      refine nx ?_
      refine sr 1 rfl ?_
      refine ip 1 0 [(2, iv 221)] (by kernel_rfl) ?_
      refine ie ?_
      refine J_ret ?_
      subst hR
      exact ends_ret rfl ⟨hr, hD⟩ (by simp [hD]) (res1 rfl (resV_tmp rfl)) () (by rfl) (mk [false] rfl) Foll.nil

def ref12_Check_l0 (rCells : List Cel) : List Cel → Nat → Int
 | [], i => 0
 | hd_l0 :: tl_l0, i => (bif (!decide ((ref12_CheckCell hd_l0) = 0)) then 220 else (bif (((!(((decide ((0 : Int) < (i : Int))) && (decide ((rCells.getD (i - 1) Cel.zero).wide = 1))) == (decide (hd_l0.wide = 2)))) || (((decide ((0 : Int) < (i : Int))) && (decide ((rCells.getD (i - 1) Cel.zero).wide = 1))) && (!(decide (hd_l0.sty = (rCells.getD (i - 1) Cel.zero).sty))))) || ((decide (hd_l0.wide = 1)) && (decide ((i : Int) = ((rCells.length : Int) - 1))))) then 220 else ref12_Check_l0 rCells tl_l0 (i + 1)))
def ref12_Check (rCells : List Cel) (rWrapped : Bool) : Int :=
 (bif ((decide ((rCells.length : Int) < 2)) || (decide ((80 : Int) < (rCells.length : Int)))) then 220 else ref12_Check_l0 rCells rCells 0)

theorem ref12_Check_c (rCells : List Cel) (rWrapped : Bool) (rCellsq : Option Addr) (rCellsk : Nat) (hlrCells : rCells.length ≤ 9223372036854775807) (hcrCells : rCells.length ≤ rCellsk) (R : Int) (hR : ref12_Check rCells rWrapped = R) : ConV Tryz.prog 126 [ag [.slice rCellsq rCells.length rCellsk, bv rWrapped]] [sl cCel rCellsq rCells] (iv R) := by
 refine con_of_J (n := 79) Tryz.func126 rfl (by kernel_rfl) rfl rfl [(0, ag [.slice rCellsq rCells.length rCellsk, bv rWrapped])] ⟨rfl, trivial⟩ fun X hX hr hD => ?_
 replace hR := (ref12_Check.eq_1 ..).symm.trans hR
 refine sr 2 rfl ?_
 refine it rfl (tri_box (cs := [.slice rCellsq rCells.length rCellsk, bv rWrapped]) rfl rfl rfl) fun b1 => ?_
 refine ip 1 0 [] (by kernel_rfl) ?_
 refine ie ?_
 refine sr 3 rfl ?_
 refine ip 1 2 [(6, pt b1 0)] (by kernel_rfl) ?_
 refine ix rfl (det_own_one (v := .slice rCellsq rCells.length rCellsk) ty67 rfl rfl 0 rfl rfl) ?_
 refine ip 1 0 [(3, .slice rCellsq rCells.length rCellsk)] (by kernel_rfl) ?_
 refine ie ?_
 refine J_seq ?_
 refine sr 8 rfl ?_
 refine ip 4 4 [(11, bv (decide ((rCells.length : Int) < 2)))] (by kernel_rfl) ?_
 refine ior 4 0 11 15 (decide ((80 : Int) < (rCells.length : Int))) rfl (by kernel_rfl) (fun g2 => ?_) ?_
 ·have g2p : ¬ ((rCells.length : Int) < 2) := by simpa using g2
  refine ip 4 0 [(15, bv (decide ((80 : Int) < (rCells.length : Int))))] (by kernel_rfl) ?_
  exact JI_end (armI 2 11 15 g2 Foll.refl (mk [true] rfl) rfl rfl rfl rfl rfl)
 refine ie ?_
 refine J_if rfl (fun h3 => ?_) (fun h3 => ?_)
 ·have h3p : ((rCells.length : Int) < 2) ∨ ((80 : Int) < (rCells.length : Int)) := by simpa using h3
  replace hR := bt hR h3
  refine sr 1 rfl ?_
  refine ip 1 0 [(2, iv 220)] (by kernel_rfl) ?_
  refine ie ?_
  refine J_ret ?_
  subst hR
  exact ends_ret rfl ⟨hr, hD⟩ (by simp [hD]) (res1 rfl (resV_tmp rfl)) () (by rfl) (mk [false] rfl) Foll.nil
 ·have h3p : ¬ (((rCells.length : Int) < 2) ∨ ((80 : Int) < (rCells.length : Int))) := by simpa using h3
  replace hR := bf hR h3
  refine J_skip ?_
  refine nx ?_
  refine J_seq ?_
  refine sr 1 rfl ?_
  refine ip 1 0 [(4, iv 0)] (by kernel_rfl) ?_
  refine ie ?_
  refine J_block ?_
  refine JL1 (fun (i : Nat) => i ≤ rCells.length ∧ ref12_Check_l0 rCells (rCells.drop i) i = R) (fun (i : Nat) => [(3, .slice rCellsq rCells.length rCellsk), (4, iv (i : Int))]) (fun (i : Nat) => [bx b1 [.slice rCellsq rCells.length rCellsk, bv rWrapped] 122]) (fun (i : Nat) => [sl cCel rCellsq rCells]) (fun (i : Nat) => rCells.length - i) 0 ⟨(by omega), hR⟩ ⟨rfl, (by first | rfl | (simp only [List.length_set]; rfl) | (simp; done) | (simp; omega)), trivial⟩ (mk [true] rfl) Foll.refl ?_
  rintro i ⟨hm4, hR⟩
  refine J_seq ?_
  refine sr 4 rfl ?_
  refine ip 4 0 [(19, bv (decide ((i : Int) < (rCells.length : Int))))] (by kernel_rfl) ?_
  refine ie ?_
  refine J_if rfl (fun h5 => ?_) (fun h5 => ?_)
  ·have h5p : (i : Int) < (rCells.length : Int) := by simpa using h5
   rw [dropc Cel.zero (show i < rCells.length by omega)] at hR; replace hR := (ref12_Check_l0.eq_2 ..).symm.trans hR
   refine J_skip ?_
   refine nx ?_
   refine J_seq ?_
   refine J_block ?_
   refine J_seq ?_
   refine sr 6 rfl ?_
   refine ip 2 4 [(22, .slice rCellsq rCells.length rCellsk), (23, iv (i : Int))] (by kernel_rfl) ?_
   refine JI_base 0 rfl (by omega) fun a6 hq7 => ?_
   refine ix rfl (det_ixq slt67 rfl rfl hq7 rfl i rfl (by omega)) ?_
   refine ix rfl (det_ld_agg (us := cCel (rCells.getD i Cel.zero)) ty72 rfl rfl (at_slq (c := cCel) (sz := 12) hq7 (fun _ => rfl) 0 rfl (gd Cel.zero (by omega))) rfl) ?_
   refine ixc rfl (det_call (ref12_CheckCell_c (rCells.getD i Cel.zero) _ rfl) rfl rfl rfl rfl rfl Foll.nil) ?_
   refine ip 1 0 [(27, bv (!decide ((ref12_CheckCell (rCells.getD i Cel.zero)) = 0)))] (by kernel_rfl) ?_
   refine ie ?_
   refine J_if rfl (fun h8 => ?_) (fun h8 => ?_)
   ·have h8p : ¬ (ref12_CheckCell (rCells.getD i Cel.zero)) = 0 := by simpa using h8
    replace hR := bt hR h8
    refine sr 1 rfl ?_
    refine ip 1 0 [(2, iv 220)] (by kernel_rfl) ?_
    refine ie ?_
    refine J_ret ?_
    subst hR
    exact ends_ret rfl ⟨hr, hD⟩ (by simp [hD]) (res1 rfl (resV_tmp rfl)) () (by rfl) (mk [false] rfl) Foll.nil
   ·have h8p : ¬ (¬ (ref12_CheckCell (rCells.getD i Cel.zero)) = 0) := by simpa using h8
    replace hR := bf hR h8
    refine J_skip ?_
    refine nx ?_
    refine sr 12 rfl ?_
    refine ip 3 9 [(30, bv (decide ((0 : Int) < (i : Int))))] (by kernel_rfl) ?_
    refine iand 8 1 30 38 (decide ((rCells.getD (i - 1) Cel.zero).wide = 1)) rfl (by kernel_rfl) (fun g9 => ?_) ?_
    ·have g9p : (0 : Int) < (i : Int) := by simpa using g9
     refine ip 2 6 [(31, .slice rCellsq rCells.length rCellsk), (32, iv (i : Int))] (by kernel_rfl) ?_
     refine ix rfl (det_sub64 rfl rfl rfl rfl (by omega)) ?_
     refine ix rfl (det_ixq slt67 rfl rfl hq7 rfl (i - 1) (by omega) (by omega)) ?_
     refine ip 1 3 [(35, pa ((Addr.add a6 ((i - 1) * 12)).add 3))] (by kernel_rfl) ?_
     refine ix rfl (det_ld_one (v := iv ((rCells.getD (i - 1) Cel.zero).wide)) (us := [iv ((rCells.getD (i - 1) Cel.zero).wide)]) ty3 rfl rfl (at_part (at_slq (c := cCel) (sz := 12) hq7 (fun _ => rfl) 0 rfl (gd Cel.zero (by omega))) (ws := [iv ((rCells.getD (i - 1) Cel.zero).wide)]) 3 1 rfl) rfl) ?_
     refine ip 2 0 [(38, bv (decide ((rCells.getD (i - 1) Cel.zero).wide = 1)))] (by kernel_rfl) ?_
     exact JI_end (armI 8 30 38 g9 Foll.refl (mk [true] rfl) rfl rfl rfl rfl rfl)
    refine ip 1 0 [(5, bv ((decide ((0 : Int) < (i : Int))) && (decide ((rCells.getD (i - 1) Cel.zero).wide = 1))))] (by kernel_rfl) ?_
    refine ie ?_
    refine sd 40 rfl (by kernel_rfl) rfl ?_
    refine dp 3 37 [(39, bv ((decide ((0 : Int) < (i : Int))) && (decide ((rCells.getD (i - 1) Cel.zero).wide = 1)))), (40, .slice rCellsq rCells.length rCellsk), (41, iv (i : Int))] (by kernel_rfl) ?_
    refine dd rfl (det_ixq slt67 rfl rfl hq7 rfl i rfl (by omega)) ?_
    refine dp 1 35 [(43, pa ((Addr.add a6 (i * 12)).add 3))] (by kernel_rfl) ?_
    refine dd rfl (det_ld_one (v := iv ((rCells.getD i Cel.zero).wide)) (us := [iv ((rCells.getD i Cel.zero).wide)]) ty3 rfl rfl (at_part (at_slq (c := cCel) (sz := 12) hq7 (fun _ => rfl) 0 rfl (gd Cel.zero (by omega))) (ws := [iv ((rCells.getD i Cel.zero).wide)]) 3 1 rfl) rfl) ?_
    refine dp 1 33 [(45, bv (decide ((rCells.getD i Cel.zero).wide = 2)))] (by kernel_rfl) ?_
    refine dd rfl (det_neb Tryz.underlying4 rfl rfl rfl) ?_
    refine dp 1 31 [(47, bv (!(((decide ((0 : Int) < (i : Int))) && (decide ((rCells.getD (i - 1) Cel.zero).wide = 1))) == (decide ((rCells.getD i Cel.zero).wide = 2)))))] (by kernel_rfl) ?_
    refine dor 16 15 47 63 (((decide ((0 : Int) < (i : Int))) && (decide ((rCells.getD (i - 1) Cel.zero).wide = 1))) && (!(decide ((rCells.getD i Cel.zero).sty = (rCells.getD (i - 1) Cel.zero).sty)))) rfl (by kernel_rfl) (fun g10 => ?_) ?_
    ·have g10p := g10; try simp at g10p
     refine dp 2 14 [(49, bv ((decide ((0 : Int) < (i : Int))) && (decide ((rCells.getD (i - 1) Cel.zero).wide = 1))))] (by kernel_rfl) ?_
     refine dand 13 1 49 62 (!(decide ((rCells.getD i Cel.zero).sty = (rCells.getD (i - 1) Cel.zero).sty))) rfl (by kernel_rfl) (fun g11 => ?_) ?_
     ·have g11p : ((0 : Int) < (i : Int)) ∧ ((rCells.getD (i - 1) Cel.zero).wide = 1) := by simpa using g11
      refine dp 2 11 [(50, .slice rCellsq rCells.length rCellsk), (51, iv (i : Int))] (by kernel_rfl) ?_
      refine dd rfl (det_ixq slt67 rfl rfl hq7 rfl i rfl (by omega)) ?_
      refine dp 1 9 [(53, pa ((Addr.add a6 (i * 12)).add 4))] (by kernel_rfl) ?_
      refine dd rfl (det_ld_agg (us := cSty ((rCells.getD i Cel.zero).sty)) ty70 rfl rfl (at_part (at_slq (c := cCel) (sz := 12) hq7 (fun _ => rfl) 0 rfl (gd Cel.zero (by omega))) (ws := cSty ((rCells.getD i Cel.zero).sty)) 4 8 rfl) rfl) ?_
      refine dp 2 6 [(55, .slice rCellsq rCells.length rCellsk), (56, iv (i : Int))] (by kernel_rfl) ?_
      refine dd rfl (det_sub64 rfl rfl rfl rfl (by omega)) ?_
      refine dd rfl (det_ixq slt67 rfl rfl hq7 rfl (i - 1) (by omega) (by omega)) ?_
      refine dp 1 3 [(59, pa ((Addr.add a6 ((i - 1) * 12)).add 4))] (by kernel_rfl) ?_
      refine dd rfl (det_ld_agg (us := cSty ((rCells.getD (i - 1) Cel.zero).sty)) ty70 rfl rfl (at_part (at_slq (c := cCel) (sz := 12) hq7 (fun _ => rfl) 0 rfl (gd Cel.zero (by omega))) (ws := cSty ((rCells.getD (i - 1) Cel.zero).sty)) 4 8 rfl) rfl) ?_
      refine dd rfl (det_nes (a := (rCells.getD i Cel.zero).sty) (b := (rCells.getD (i - 1) Cel.zero).sty) eqt70 rfl rfl rfl) ?_
      refine dp 1 0 [(62, bv (!(decide ((rCells.getD i Cel.zero).sty = (rCells.getD (i - 1) Cel.zero).sty))))] (by kernel_rfl) ?_
      exact JD_end (armD 14 49 62 g11 rfl rfl rfl rfl rfl)
     refine dp 1 0 [(63, bv (((decide ((0 : Int) < (i : Int))) && (decide ((rCells.getD (i - 1) Cel.zero).wide = 1))) && (!(decide ((rCells.getD i Cel.zero).sty = (rCells.getD (i - 1) Cel.zero).sty)))))] (by kernel_rfl) ?_
     exact JD_end (armD 4 47 63 g10 rfl rfl rfl rfl rfl)
    refine dp 1 14 [(64, bv ((!(((decide ((0 : Int) < (i : Int))) && (decide ((rCells.getD (i - 1) Cel.zero).wide = 1))) == (decide ((rCells.getD i Cel.zero).wide = 2)))) || (((decide ((0 : Int) < (i : Int))) && (decide ((rCells.getD (i - 1) Cel.zero).wide = 1))) && (!(decide ((rCells.getD i Cel.zero).sty = (rCells.getD (i - 1) Cel.zero).sty))))))] (by kernel_rfl) ?_
    refine dor 14 0 64 78 ((decide ((rCells.getD i Cel.zero).wide = 1)) && (decide ((i : Int) = ((rCells.length : Int) - 1)))) rfl (by kernel_rfl) (fun g12 => ?_) ?_
    ·have g12p := g12; try simp at g12p
     refine dp 2 12 [(65, .slice rCellsq rCells.length rCellsk), (66, iv (i : Int))] (by kernel_rfl) ?_
     refine dd rfl (det_ixq slt67 rfl rfl hq7 rfl i rfl (by omega)) ?_
     refine dp 1 10 [(68, pa ((Addr.add a6 (i * 12)).add 3))] (by kernel_rfl) ?_
     refine dd rfl (det_ld_one (v := iv ((rCells.getD i Cel.zero).wide)) (us := [iv ((rCells.getD i Cel.zero).wide)]) ty3 rfl rfl (at_part (at_slq (c := cCel) (sz := 12) hq7 (fun _ => rfl) 0 rfl (gd Cel.zero (by omega))) (ws := [iv ((rCells.getD i Cel.zero).wide)]) 3 1 rfl) rfl) ?_
     refine dp 2 7 [(71, bv (decide ((rCells.getD i Cel.zero).wide = 1)))] (by kernel_rfl) ?_
     refine dand 6 1 71 77 (decide ((i : Int) = ((rCells.length : Int) - 1))) rfl (by kernel_rfl) (fun g13 => ?_) ?_
     ·have g13p : (rCells.getD i Cel.zero).wide = 1 := by simpa using g13
      refine dp 3 3 [(72, iv (i : Int)), (74, iv (rCells.length : Int))] (by kernel_rfl) ?_
      refine dd rfl (det_sub64 rfl rfl rfl rfl (by omega)) ?_
      refine dp 2 0 [(77, bv (decide ((i : Int) = ((rCells.length : Int) - 1))))] (by kernel_rfl) ?_
      exact JD_end (armD 5 71 77 g13 rfl rfl rfl rfl rfl)
     refine dp 1 0 [(78, bv ((decide ((rCells.getD i Cel.zero).wide = 1)) && (decide ((i : Int) = ((rCells.length : Int) - 1)))))] (by kernel_rfl) ?_
     exact JD_end (armD 9 64 78 g12 rfl rfl rfl rfl rfl)
    refine de ?_
    refine J_if rfl (fun h14 => ?_) (fun h14 => ?_)
    ·have h14p := h14; try simp at h14p
     replace hR := bt hR h14
     refine sr 1 rfl ?_
     refine ip 1 0 [(2, iv 220)] (by kernel_rfl) ?_
     refine ie ?_
     refine J_ret ?_
     subst hR
     exact ends_ret rfl ⟨hr, hD⟩ (by simp [hD]) (res1 rfl (resV_tmp rfl)) () (by rfl) (mk [false] rfl) Foll.nil
    ·have h14p := h14; try simp at h14p
     replace hR := bf hR h14
     refine J_skip ?_
     refine nx ?_
     refine J_region 3 rfl ?_
     refine ip 1 2 [(20, iv (i : Int))] (by kernel_rfl) ?_
     refine ix rfl (det_add64 rfl rfl rfl rfl (by omega)) ?_
     refine ip 1 0 [(4, iv ((i : Int) + 1))] (by kernel_rfl) ?_
     refine JI_end ?_
     exact againL1 (z1 := i) (i + 1) ⟨(by omega), hR⟩ (by (try dsimp only); omega) ⟨rfl, (by first | rfl | (simp only [List.length_set]; rfl) | (simp; done) | (simp; omega)), trivial⟩ (mk [true] rfl) Foll.refl
  ·have h5p : ¬ ((i : Int) < (rCells.length : Int)) := by simpa using h5
   rw [dropn h5p] at hR; replace hR := (ref12_Check_l0.eq_1 ..).symm.trans hR
   refine J_exit ?_
   refine nx ?_
   refine sr 1 rfl ?_
   refine ip 1 0 [(2, iv 0)] (by kernel_rfl) ?_
   refine ie ?_
   refine J_ret ?_
   subst hR
   exact ends_ret rfl ⟨hr, hD⟩ (by simp [hD]) (res1 rfl (resV_tmp rfl)) () (by rfl) (mk [false] rfl) Foll.nil

def ref12_Right (rCells : List Cel) (rWrapped : Bool) : Bool :=
 (decide ((ref12_Check rCells rWrapped) = 0))

theorem ref12_Right_c (rCells : List Cel) (rWrapped : Bool) (rCellsq : Option Addr) (rCellsk : Nat) (hlrCells : rCells.length ≤ 9223372036854775807) (hcrCells : rCells.length ≤ rCellsk) (R : Bool) (hR : ref12_Right rCells rWrapped = R) : ConV Tryz.prog 68 [ag [.slice rCellsq rCells.length rCellsk, bv rWrapped]] [sl cCel rCellsq rCells] (bv R) := by
 refine con_of_J (n := 6) Tryz.func68 rfl (by kernel_rfl) rfl rfl [(0, ag [.slice rCellsq rCells.length rCellsk, bv rWrapped])] ⟨rfl, trivial⟩ fun X hX hr hD => ?_
 replace hR := (ref12_Right.eq_1 ..).symm.trans hR
 refine sr 2 rfl ?_
 refine it rfl (tri_box (cs := [.slice rCellsq rCells.length rCellsk, bv rWrapped]) rfl rfl rfl) fun b1 => ?_
 refine ip 1 0 [] (by kernel_rfl) ?_
 refine ie ?_
 refine sr 4 rfl ?_
 refine ix rfl (det_own_agg (us := [.slice rCellsq rCells.length rCellsk, bv rWrapped]) ty122 rfl rfl 0 rfl rfl rfl) ?_
 refine ixc rfl (det_call (ref12_Check_c rCells rWrapped rCellsq rCellsk (by first | omega | (simp <;> omega) | (dsimp only; omega) | decide) (by first | omega | (simp <;> omega) | (dsimp only; omega) | decide) _ rfl) rfl rfl rfl rfl rfl Foll.refl) ?_
 refine ip 2 0 [(2, bv (decide ((ref12_Check rCells rWrapped) = 0)))] (by kernel_rfl) ?_
 refine ie ?_
 refine J_ret ?_
 subst hR
 exact ends_ret rfl ⟨hr, hD⟩ (by simp [hD]) (res1 rfl (resV_tmp rfl)) () (by rfl) (mk [false] rfl) Foll.nil

def ref08_Print (an : Int) (am : Int) (acolor : Col) (atext : List UInt8) : List UInt8 × Int :=
 (bif ((decide ((⟨44, an, am, acolor, atext⟩ : Act) = { Act.zero with kind := 44, text := atext })) && (ref08_Title atext)) then ((([50, 59] : List UInt8) ++ atext), 0) else (([] : List UInt8), 2))

theorem ref08_Print_c (an : Int) (am : Int) (acolor : Col) (atext : List UInt8) (R : List UInt8 × Int) (hR : ref08_Print an am acolor atext = R) : ConV Tryz.prog 114 [ag (cAct (⟨44, an, am, acolor, atext⟩ : Act))] [] (.tuple #[sv R.1, iv R.2]) := by
 refine con_of_J (n := 81) Tryz.func114 rfl (by kernel_rfl) rfl rfl [(0, ag (cAct (⟨44, an, am, acolor, atext⟩ : Act)))] ⟨rfl, trivial⟩ fun X hX hr hD => ?_
 replace hR := (ref08_Print.eq_1 ..).symm.trans hR
 refine sr 3 rfl ?_
 refine it rfl (tri_box (cs := cAct (⟨44, an, am, acolor, atext⟩ : Act)) rfl rfl rfl) fun b1 => ?_
 refine ip 2 0 [] (by kernel_rfl) ?_
 refine ie ?_
 refine J_seq ?_
 refine J_block ?_
 refine sr 11 rfl ?_
 refine ix rfl (det_own_agg (us := cAct (⟨44, an, am, acolor, atext⟩ : Act)) ty26 rfl rfl 0 rfl rfl rfl) ?_
 refine ip 1 9 [(10, pt b1 5)] (by kernel_rfl) ?_
 refine ix rfl (det_own_one (v := sv atext) ty9 rfl rfl 0 rfl rfl) ?_
 refine ix rfl (det_build (cs := cAct ({ Act.zero with kind := 44, text := atext })) rfl rfl (by kernel_rfl)) ?_
 refine ix rfl (det_eqs (a := (⟨44, an, am, acolor, atext⟩ : Act)) (b := { Act.zero with kind := 44, text := atext }) eqt26 rfl rfl rfl) ?_
 refine ip 1 5 [(14, bv (decide ((⟨44, an, am, acolor, atext⟩ : Act) = { Act.zero with kind := 44, text := atext })))] (by kernel_rfl) ?_
 refine iand 4 1 14 18 (ref08_Title atext) rfl (by kernel_rfl) (fun g2 => ?_) ?_
 ·have g2p : (⟨44, an, am, acolor, atext⟩ : Act) = { Act.zero with kind := 44, text := atext } := by simpa using g2
  refine ip 1 3 [(15, pt b1 5)] (by kernel_rfl) ?_
  refine ix rfl (det_own_one (v := sv atext) ty9 rfl rfl 0 rfl rfl) ?_
  refine ixc rfl (det_call (ref08_Title_c atext _ rfl) rfl rfl rfl rfl rfl Foll.nil) ?_
  refine ip 1 0 [(18, bv (ref08_Title atext))] (by kernel_rfl) ?_
  exact JI_end (armI 5 14 18 g2 Foll.nil (mk [true] rfl) rfl rfl rfl rfl rfl)
 refine ip 1 0 [(8, bv ((decide ((⟨44, an, am, acolor, atext⟩ : Act) = { Act.zero with kind := 44, text := atext })) && (ref08_Title atext)))] (by kernel_rfl) ?_
 refine ie ?_
 refine J_if rfl (fun h3 => ?_) (fun h3 => ?_)
 ·have h3p := h3; try simp at h3p
  replace hR := bt hR h3
  have hti := ref08_Title_le atext (by have q := h3; rw [Bool.and_eq_true] at q; exact q.2)
  refine sr 5 rfl ?_
  refine ip 1 4 [(19, pt b1 5)] (by kernel_rfl) ?_
  refine ix rfl (det_own_one (v := sv atext) ty9 rfl rfl 0 rfl rfl) ?_
  refine ix rfl (det_stadd rfl rfl rfl (by first | omega | (simp <;> omega))) ?_
  refine ip 2 0 [(2, sv (([50, 59] : List UInt8) ++ atext)), (3, iv 0)] (by kernel_rfl) ?_
  refine ie ?_
  refine J_ret ?_
  subst hR
  exact ends_ret rfl ⟨hr, hD⟩ (by simp [hD]) (res2 rfl (resV_tmp rfl) (resV_tmp rfl)) () (by rfl) (mk [false] rfl) Foll.nil
 ·have h3p := h3; try simp at h3p
  replace hR := bf hR h3
  refine sr 24 rfl ?_
  refine ix rfl (det_own_agg (us := cAct (⟨44, an, am, acolor, atext⟩ : Act)) ty26 rfl rfl 0 rfl rfl rfl) ?_
  refine ip 1 22 [(24, pt b1 1)] (by kernel_rfl) ?_
  refine ix rfl (det_own_one (v := iv an) ty3 rfl rfl 0 rfl rfl) ?_
  refine ip 1 20 [(26, pt b1 3)] (by kernel_rfl) ?_
  refine ix rfl (det_own_agg (us := cCol acolor) ty24 rfl rfl 0 rfl rfl rfl) ?_
  refine ix rfl (det_build (cs := cAct ({ Act.zero with kind := 45, n := an, color := acolor })) rfl rfl (by kernel_rfl)) ?_
  refine ix rfl (det_eqs (a := (⟨44, an, am, acolor, atext⟩ : Act)) (b := { Act.zero with kind := 45, n := an, color := acolor }) eqt26 rfl rfl rfl) ?_
  refine ip 1 16 [(30, bv (decide ((⟨44, an, am, acolor, atext⟩ : Act) = { Act.zero with kind := 45, n := an, color := acolor })))] (by kernel_rfl) ?_
  refine iand 4 12 30 34 (decide ((0 : Int) ≤ an)) rfl (by kernel_rfl) (fun g4 => ?_) ?_
  ·have g4p : (⟨44, an, am, acolor, atext⟩ : Act) = { Act.zero with kind := 45, n := an, color := acolor } := by simpa using g4
   refine ip 1 3 [(31, pt b1 1)] (by kernel_rfl) ?_
   refine ix rfl (det_own_one (v := iv an) ty3 rfl rfl 0 rfl rfl) ?_
   refine ip 2 0 [(34, bv (decide ((0 : Int) ≤ an)))] (by kernel_rfl) ?_
   exact JI_end (armI 4 30 34 g4 Foll.nil (mk [true] rfl) rfl rfl rfl rfl rfl)
  refine ip 1 11 [(35, bv ((decide ((⟨44, an, am, acolor, atext⟩ : Act) = { Act.zero with kind := 45, n := an, color := acolor })) && (decide ((0 : Int) ≤ an))))] (by kernel_rfl) ?_
  refine iand 4 7 35 39 (decide (an ≤ 255)) rfl (by kernel_rfl) (fun g5 => ?_) ?_
  ·have g5p : ((⟨44, an, am, acolor, atext⟩ : Act) = { Act.zero with kind := 45, n := an, color := acolor }) ∧ ((0 : Int) ≤ an) := by simpa using g5
   refine ip 1 3 [(36, pt b1 1)] (by kernel_rfl) ?_
   refine ix rfl (det_own_one (v := iv an) ty3 rfl rfl 0 rfl rfl) ?_
   refine ip 2 0 [(39, bv (decide (an ≤ 255)))] (by kernel_rfl) ?_
   exact JI_end (armI 4 35 39 g5 Foll.nil (mk [true] rfl) rfl rfl rfl rfl rfl)
  refine ip 1 6 [(40, bv (((decide ((⟨44, an, am, acolor, atext⟩ : Act) = { Act.zero with kind := 45, n := an, color := acolor })) && (decide ((0 : Int) ≤ an))) && (decide (an ≤ 255))))] (by kernel_rfl) ?_
  refine iand 5 1 40 45 (decide (acolor.kind = 2)) rfl (by kernel_rfl) (fun g6 => ?_) ?_
  ·have g6p : (((⟨44, an, am, acolor, atext⟩ : Act) = { Act.zero with kind := 45, n := an, color := acolor }) ∧ ((0 : Int) ≤ an)) ∧ (an ≤ 255) := by simpa using g6
   refine ip 2 3 [(42, pt b1 3)] (by kernel_rfl) ?_
   refine ix rfl (det_own_one (v := iv acolor.kind) ty3 rfl rfl 0 rfl rfl) ?_
   refine ip 2 0 [(45, bv (decide (acolor.kind = 2)))] (by kernel_rfl) ?_
   exact JI_end (armI 4 40 45 g6 Foll.nil (mk [true] rfl) rfl rfl rfl rfl rfl)
  refine ip 1 0 [(22, bv ((((decide ((⟨44, an, am, acolor, atext⟩ : Act) = { Act.zero with kind := 45, n := an, color := acolor })) && (decide ((0 : Int) ≤ an))) && (decide (an ≤ 255))) && (decide (acolor.kind = 2))))] (by kernel_rfl) ?_
  refine ie ?_
  refine J_if rfl (fun h7 => ?_) (fun h7 => ?_)
  ·have h7p : ((((⟨44, an, am, acolor, atext⟩ : Act) = { Act.zero with kind := 45, n := an, color := acolor }) ∧ ((0 : Int) ≤ an)) ∧ (an ≤ 255)) ∧ (acolor.kind = 2) := by simpa using h7
   exfalso; simp [Act.zero] at h7
  ·have h7p : ¬ (((((⟨44, an, am, acolor, atext⟩ : Act) = { Act.zero with kind := 45, n := an, color := acolor }) ∧ ((0 : Int) ≤ an)) ∧ (an ≤ 255)) ∧ (acolor.kind = 2)) := by simpa using h7
   refine sr 12 rfl ?_
   refine ix rfl (det_own_agg (us := cAct (⟨44, an, am, acolor, atext⟩ : Act)) ty26 rfl rfl 0 rfl rfl rfl) ?_
   refine ip 1 10 [(63, pt b1 5)] (by kernel_rfl) ?_
   refine ix rfl (det_own_one (v := sv atext) ty9 rfl rfl 0 rfl rfl) ?_
   refine ix rfl (det_build (cs := cAct ({ Act.zero with kind := 46, text := atext })) rfl rfl (by kernel_rfl)) ?_
   refine ix rfl (det_eqs (a := (⟨44, an, am, acolor, atext⟩ : Act)) (b := { Act.zero with kind := 46, text := atext }) eqt26 rfl rfl rfl) ?_
   refine ip 1 6 [(67, bv (decide ((⟨44, an, am, acolor, atext⟩ : Act) = { Act.zero with kind := 46, text := atext })))] (by kernel_rfl) ?_
   refine iand 5 1 67 72 (decide ((atext.length : Int) ≤ 378)) rfl (by kernel_rfl) (fun g8 => ?_) ?_
   ·have g8p : (⟨44, an, am, acolor, atext⟩ : Act) = { Act.zero with kind := 46, text := atext } := by simpa using g8
    refine ip 1 4 [(68, pt b1 5)] (by kernel_rfl) ?_
    refine ix rfl (det_own_one (v := sv atext) ty9 rfl rfl 0 rfl rfl) ?_
    refine ip 3 0 [(72, bv (decide ((atext.length : Int) ≤ 378)))] (by kernel_rfl) ?_
    exact JI_end (armI 4 67 72 g8 Foll.nil (mk [true] rfl) rfl rfl rfl rfl rfl)
   refine ip 1 0 [(61, bv ((decide ((⟨44, an, am, acolor, atext⟩ : Act) = { Act.zero with kind := 46, text := atext })) && (decide ((atext.length : Int) ≤ 378))))] (by kernel_rfl) ?_
   refine ie ?_
   refine J_if rfl (fun h9 => ?_) (fun h9 => ?_)
   ·have h9p : ((⟨44, an, am, acolor, atext⟩ : Act) = { Act.zero with kind := 46, text := atext }) ∧ ((atext.length : Int) ≤ 378) := by simpa using h9
    exfalso; simp [Act.zero] at h9
   ·have h9p : ¬ (((⟨44, an, am, acolor, atext⟩ : Act) = { Act.zero with kind := 46, text := atext }) ∧ ((atext.length : Int) ≤ 378)) := by simpa using h9
    refine J_skip ?_
    refine nx ?_
    refine sr 2 rfl ?_
    refine ip 2 0 [(2, sv ([] : List UInt8)), (3, iv 2)] (by kernel_rfl) ?_
    refine ie ?_
    refine J_ret ?_
    subst hR
    exact ends_ret rfl ⟨hr, hD⟩ (by simp [hD]) (res2 rfl (resV_tmp rfl) (resV_tmp rfl)) () (by rfl) (mk [false] rfl) Foll.nil

def ref10_Right (an : Int) (am : Int) (acolor : Col) (atext : List UInt8) : Bool :=
 (bindV (ref08_Print an am acolor atext) fun (y0 : List UInt8 × Int) => (decide (y0.2 = 0)))

theorem ref10_Right_c (an : Int) (am : Int) (acolor : Col) (atext : List UInt8) (R : Bool) (hR : ref10_Right an am acolor atext = R) : ConV Tryz.prog 55 [ag (cAct (⟨44, an, am, acolor, atext⟩ : Act))] [] (bv R) := by
 refine con_of_J (n := 36) Tryz.func55 rfl (by kernel_rfl) rfl rfl [(0, ag (cAct (⟨44, an, am, acolor, atext⟩ : Act)))] ⟨rfl, trivial⟩ fun X hX hr hD => ?_
 replace hR := (ref10_Right.eq_1 ..).symm.trans hR
 refine sr 2 rfl ?_
 refine it rfl (tri_box (cs := cAct (⟨44, an, am, acolor, atext⟩ : Act)) rfl rfl rfl) fun b1 => ?_
 refine ip 1 0 [] (by kernel_rfl) ?_
 refine ie ?_
 refine J_seq ?_
 refine sr 2 rfl ?_
 refine ip 1 1 [(5, pt b1 0)] (by kernel_rfl) ?_
 refine ix rfl (det_own_one (v := iv 44) ty3 rfl rfl 0 rfl rfl) ?_
 refine ie ?_
 refine J_block ?_
 refine sr 2 rfl ?_
 refine ip 2 0 [(7, bv false)] (by kernel_rfl) ?_
 refine ie ?_
 refine J_no rfl ?_
 refine J_seq ?_
 refine sr 2 rfl ?_
 refine ip 2 0 [(12, bv true)] (by kernel_rfl) ?_
 refine ie ?_
 refine J_yes rfl ?_
 refine J_skip ?_
 refine nx ?_
 refine J_yes rfl ?_
 refine sr 7 rfl ?_
 refine ix rfl (det_own_agg (us := cAct (⟨44, an, am, acolor, atext⟩ : Act)) ty26 rfl rfl 0 rfl rfl rfl) ?_
 have hQ := bindVx hR; clear hR; obtain ⟨y0, hy0, hR⟩ := hQ
 refine ixc rfl (det_call (ref08_Print_c an am acolor atext y0 hy0) rfl rfl rfl rfl rfl Foll.nil) ?_
 refine ip 5 0 [(4, iv y0.2)] (by kernel_rfl) ?_
 refine ie ?_
 refine sr 3 rfl ?_
 refine ip 3 0 [(2, bv (decide (y0.2 = 0)))] (by kernel_rfl) ?_
 refine ie ?_
 refine J_ret ?_
 subst hR
 exact ends_ret rfl ⟨hr, hD⟩ (by simp [hD]) (res1 rfl (resV_tmp rfl)) () (by rfl) (mk [false] rfl) Foll.nil

def ref23_Right_l0 (fC : Int) (fT : List UInt8) : List (List Cel) → Nat → Bool
 | [], i => (ref10_Right 0 0 Col.zero fT)
 | hd_l0 :: tl_l0, i => (bif ((!decide ((hd_l0.length : Int) = fC)) || (!(ref12_Right hd_l0 false))) then false else ref23_Right_l0 fC fT tl_l0 (i + 1))
def ref23_Right (fC : Int) (fR : List (List Cel)) (fU : Plc) (fV : Bool) (fS : Int) (fT : List UInt8) : Bool :=
 (bif ((((((decide (fC < 2)) || (decide ((80 : Int) < fC))) || (decide ((fR.length : Int) < 1))) || (decide ((40 : Int) < (fR.length : Int)))) || (decide (fS < 0))) || (decide ((6 : Int) < fS))) then false else (bif ((((decide (fU.row < 0)) || (decide ((fR.length : Int) ≤ fU.row))) || (decide (fU.col < 0))) || (decide (fC ≤ fU.col))) then false else ref23_Right_l0 fC fT fR 0))

theorem ref23_Right_l0_ok (c : Int) (t : List UInt8) : ∀ (rows : List (List Cel)) (i : Nat), ref23_Right_l0 c t rows i = true → ∀ r ∈ rows, (r.length : Int) = c
 | [], i, _ => fun r hr => by cases hr
 | x :: rows, i, h => by
  simp only [ref23_Right_l0] at h
  generalize hc : ((!decide ((x.length : Int) = c)) || (!(ref12_Right x false))) = d at h
  cases d with
  | true => simp at h
  | false =>
   rw [cond_false] at h
   simp only [Bool.or_eq_false_iff, Bool.not_eq_false', decide_eq_true_eq] at hc
   intro r hr
   rcases List.mem_cons.1 hr with rfl | hr
   ·exact hc.1
   ·exact ref23_Right_l0_ok c t rows (i + 1) h r hr
theorem ref23_Right_ok {c : Int} {rows : List (List Cel)} {cu : Plc} {v : Bool} {sh : Int} {t : List UInt8} (h : ref23_Right c rows cu v sh t = true) : 2 ≤ c ∧ c ≤ 80 ∧ 1 ≤ rows.length ∧ rows.length ≤ 40 ∧ ∀ i, i < rows.length → ((rows.getD i []).length : Int) = c := by
 unfold ref23_Right at h
 generalize h1 : ((((((decide (c < 2)) || (decide ((80 : Int) < c))) || (decide ((rows.length : Int) < 1))) || (decide ((40 : Int) < (rows.length : Int)))) || (decide (sh < 0))) || (decide ((6 : Int) < sh))) = d1 at h
 cases d1 with
 | true => simp at h
 | false =>
  rw [cond_false] at h
  simp only [Bool.or_eq_false_iff, decide_eq_false_iff_not] at h1
  generalize ((((decide (cu.row < 0)) || (decide ((rows.length : Int) ≤ cu.row))) || (decide (cu.col < 0))) || (decide (c ≤ cu.col))) = d2 at h
  cases d2 with
  | true => simp at h
  | false =>
   rw [cond_false] at h
   refine ⟨by omega, by omega, by omega, by omega, fun i hi => ?_⟩
   refine ref23_Right_l0_ok c t rows 0 h _ ?_
   rw [List.getD_eq_getElem?_getD, List.getElem?_eq_getElem hi]
   exact List.getElem_mem hi

theorem ref23_Right_c (fC : Int) (fR : List (List Cel)) (fU : Plc) (fV : Bool) (fS : Int) (fT : List UInt8) (fQ : Option Addr) (fZ : List Slc) (fK : Nat) (hrowsfRowsrs : RowsOk fZ fR) (hlfRows : fR.length ≤ 9223372036854775807) (hcfRows : fR.length ≤ fK) (R : Bool) (hR : ref23_Right fC fR fU fV fS fT = R) : ConV Tryz.prog 31 [ag [iv fC, .slice fQ fR.length fK, iv fU.row, iv fU.col, bv fV, iv fS, sv fT]] [sl cSlc fQ fZ, rowsF cCel fZ fR] (bv R) := by
 refine con_of_J (n := 91) Tryz.func31 rfl (by kernel_rfl) rfl rfl [(0, ag [iv fC, .slice fQ fR.length fK, iv fU.row, iv fU.col, bv fV, iv fS, sv fT])] ⟨rfl, trivial⟩ fun X hX hr hD => ?_
 replace hR := (ref23_Right.eq_1 ..).symm.trans hR
 have := hrowsfRowsrs.1
 refine sr 2 rfl ?_
 refine it rfl (tri_box (cs := [iv fC, .slice fQ fR.length fK, iv fU.row, iv fU.col, bv fV, iv fS, sv fT]) rfl rfl rfl) fun b1 => ?_
 refine ip 1 0 [] (by kernel_rfl) ?_
 refine ie ?_
 refine J_seq ?_
 refine sr 30 rfl ?_
 refine ip 1 29 [(4, pt b1 0)] (by kernel_rfl) ?_
 refine ix rfl (det_own_one (v := iv fC) ty3 rfl rfl 0 rfl rfl) ?_
 refine ip 2 26 [(7, bv (decide (fC < 2)))] (by kernel_rfl) ?_
 refine ior 4 22 7 11 (decide ((80 : Int) < fC)) rfl (by kernel_rfl) (fun g2 => ?_) ?_
 ·have g2p : ¬ (fC < 2) := by simpa using g2
  refine ip 1 3 [(8, pt b1 0)] (by kernel_rfl) ?_
  refine ix rfl (det_own_one (v := iv fC) ty3 rfl rfl 0 rfl rfl) ?_
  refine ip 2 0 [(11, bv (decide ((80 : Int) < fC)))] (by kernel_rfl) ?_
  exact JI_end (armI 4 7 11 g2 Foll.refl (mk [true] rfl) rfl rfl rfl rfl rfl)
 refine ip 1 21 [(12, bv ((decide (fC < 2)) || (decide ((80 : Int) < fC))))] (by kernel_rfl) ?_
 refine ior 5 16 12 17 (decide ((fR.length : Int) < 1)) rfl (by kernel_rfl) (fun g3 => ?_) ?_
 ·have g3p : ¬ ((fC < 2) ∨ ((80 : Int) < fC)) := by simpa using g3
  refine ip 1 4 [(13, pt b1 1)] (by kernel_rfl) ?_
  refine ix rfl (det_own_one (v := .slice fQ fR.length fK) ty49 rfl rfl 0 rfl rfl) ?_
  refine ip 3 0 [(17, bv (decide ((fR.length : Int) < 1)))] (by kernel_rfl) ?_
  exact JI_end (armI 4 12 17 g3 Foll.refl (mk [true] rfl) rfl rfl rfl rfl rfl)
 refine ip 1 15 [(18, bv (((decide (fC < 2)) || (decide ((80 : Int) < fC))) || (decide ((fR.length : Int) < 1))))] (by kernel_rfl) ?_
 refine ior 5 10 18 23 (decide ((40 : Int) < (fR.length : Int))) rfl (by kernel_rfl) (fun g4 => ?_) ?_
 ·have g4p : ¬ (((fC < 2) ∨ ((80 : Int) < fC)) ∨ ((fR.length : Int) < 1)) := by simpa using g4
  refine ip 1 4 [(19, pt b1 1)] (by kernel_rfl) ?_
  refine ix rfl (det_own_one (v := .slice fQ fR.length fK) ty49 rfl rfl 0 rfl rfl) ?_
  refine ip 3 0 [(23, bv (decide ((40 : Int) < (fR.length : Int))))] (by kernel_rfl) ?_
  exact JI_end (armI 4 18 23 g4 Foll.refl (mk [true] rfl) rfl rfl rfl rfl rfl)
 refine ip 1 9 [(24, bv ((((decide (fC < 2)) || (decide ((80 : Int) < fC))) || (decide ((fR.length : Int) < 1))) || (decide ((40 : Int) < (fR.length : Int)))))] (by kernel_rfl) ?_
 refine ior 4 5 24 28 (decide (fS < 0)) rfl (by kernel_rfl) (fun g5 => ?_) ?_
 ·have g5p : ¬ ((((fC < 2) ∨ ((80 : Int) < fC)) ∨ ((fR.length : Int) < 1)) ∨ ((40 : Int) < (fR.length : Int))) := by simpa using g5
  refine ip 1 3 [(25, pt b1 5)] (by kernel_rfl) ?_
  refine ix rfl (det_own_one (v := iv fS) ty3 rfl rfl 0 rfl rfl) ?_
  refine ip 2 0 [(28, bv (decide (fS < 0)))] (by kernel_rfl) ?_
  exact JI_end (armI 4 24 28 g5 Foll.refl (mk [true] rfl) rfl rfl rfl rfl rfl)
 refine ip 1 4 [(29, bv (((((decide (fC < 2)) || (decide ((80 : Int) < fC))) || (decide ((fR.length : Int) < 1))) || (decide ((40 : Int) < (fR.length : Int)))) || (decide (fS < 0))))] (by kernel_rfl) ?_
 refine ior 4 0 29 33 (decide ((6 : Int) < fS)) rfl (by kernel_rfl) (fun g6 => ?_) ?_
 ·have g6p : ¬ (((((fC < 2) ∨ ((80 : Int) < fC)) ∨ ((fR.length : Int) < 1)) ∨ ((40 : Int) < (fR.length : Int))) ∨ (fS < 0)) := by simpa using g6
  refine ip 1 3 [(30, pt b1 5)] (by kernel_rfl) ?_
  refine ix rfl (det_own_one (v := iv fS) ty3 rfl rfl 0 rfl rfl) ?_
  refine ip 2 0 [(33, bv (decide ((6 : Int) < fS)))] (by kernel_rfl) ?_
  exact JI_end (armI 4 29 33 g6 Foll.refl (mk [true] rfl) rfl rfl rfl rfl rfl)
 refine ie ?_
 refine J_if rfl (fun h7 => ?_) (fun h7 => ?_)
 ·have h7p : (((((fC < 2) ∨ ((80 : Int) < fC)) ∨ ((fR.length : Int) < 1)) ∨ ((40 : Int) < (fR.length : Int))) ∨ (fS < 0)) ∨ ((6 : Int) < fS) := by simpa using h7
  replace hR := bt hR h7
  refine sr 1 rfl ?_
  refine ip 1 0 [(2, bv false)] (by kernel_rfl) ?_
  refine ie ?_
  refine J_ret ?_
  subst hR
  exact ends_ret rfl ⟨hr, hD⟩ (by simp [hD]) (res1 rfl (resV_tmp rfl)) () (by rfl) (mk [false] rfl) Foll.nil
 ·have h7p : ¬ ((((((fC < 2) ∨ ((80 : Int) < fC)) ∨ ((fR.length : Int) < 1)) ∨ ((40 : Int) < (fR.length : Int))) ∨ (fS < 0)) ∨ ((6 : Int) < fS)) := by simpa using h7
  replace hR := bf hR h7
  refine J_skip ?_
  refine nx ?_
  refine J_seq ?_
  refine sr 27 rfl ?_
  refine ip 2 25 [(35, pt b1 2)] (by kernel_rfl) ?_
  refine ix rfl (det_own_one (v := iv fU.row) ty3 rfl rfl 0 rfl rfl) ?_
  refine ip 2 22 [(38, bv (decide (fU.row < 0)))] (by kernel_rfl) ?_
  refine ior 8 14 38 46 (decide ((fR.length : Int) ≤ fU.row)) rfl (by kernel_rfl) (fun g8 => ?_) ?_
  ·have g8p : ¬ (fU.row < 0) := by simpa using g8
   refine ip 2 6 [(40, pt b1 2)] (by kernel_rfl) ?_
   refine ix rfl (det_own_one (v := iv fU.row) ty3 rfl rfl 0 rfl rfl) ?_
   refine ip 1 4 [(42, pt b1 1)] (by kernel_rfl) ?_
   refine ix rfl (det_own_one (v := .slice fQ fR.length fK) ty49 rfl rfl 0 rfl rfl) ?_
   refine ip 3 0 [(46, bv (decide ((fR.length : Int) ≤ fU.row)))] (by kernel_rfl) ?_
   exact JI_end (armI 6 38 46 g8 Foll.refl (mk [true] rfl) rfl rfl rfl rfl rfl)
  refine ip 1 13 [(47, bv ((decide (fU.row < 0)) || (decide ((fR.length : Int) ≤ fU.row))))] (by kernel_rfl) ?_
  refine ior 5 8 47 52 (decide (fU.col < 0)) rfl (by kernel_rfl) (fun g9 => ?_) ?_
  ·have g9p : ¬ ((fU.row < 0) ∨ ((fR.length : Int) ≤ fU.row)) := by simpa using g9
   refine ip 2 3 [(49, pt b1 3)] (by kernel_rfl) ?_
   refine ix rfl (det_own_one (v := iv fU.col) ty3 rfl rfl 0 rfl rfl) ?_
   refine ip 2 0 [(52, bv (decide (fU.col < 0)))] (by kernel_rfl) ?_
   exact JI_end (armI 4 47 52 g9 Foll.refl (mk [true] rfl) rfl rfl rfl rfl rfl)
  refine ip 1 7 [(53, bv (((decide (fU.row < 0)) || (decide ((fR.length : Int) ≤ fU.row))) || (decide (fU.col < 0))))] (by kernel_rfl) ?_
  refine ior 7 0 53 60 (decide (fC ≤ fU.col)) rfl (by kernel_rfl) (fun g10 => ?_) ?_
  ·have g10p : ¬ (((fU.row < 0) ∨ ((fR.length : Int) ≤ fU.row)) ∨ (fU.col < 0)) := by simpa using g10
   refine ip 2 5 [(55, pt b1 3)] (by kernel_rfl) ?_
   refine ix rfl (det_own_one (v := iv fU.col) ty3 rfl rfl 0 rfl rfl) ?_
   refine ip 1 3 [(57, pt b1 0)] (by kernel_rfl) ?_
   refine ix rfl (det_own_one (v := iv fC) ty3 rfl rfl 0 rfl rfl) ?_
   refine ip 2 0 [(60, bv (decide (fC ≤ fU.col)))] (by kernel_rfl) ?_
   exact JI_end (armI 6 53 60 g10 Foll.refl (mk [true] rfl) rfl rfl rfl rfl rfl)
  refine ie ?_
  refine J_if rfl (fun h11 => ?_) (fun h11 => ?_)
  ·have h11p : (((fU.row < 0) ∨ ((fR.length : Int) ≤ fU.row)) ∨ (fU.col < 0)) ∨ (fC ≤ fU.col) := by simpa using h11
   replace hR := bt hR h11
   refine sr 1 rfl ?_
   refine ip 1 0 [(2, bv false)] (by kernel_rfl) ?_
   refine ie ?_
   refine J_ret ?_
   subst hR
   exact ends_ret rfl ⟨hr, hD⟩ (by simp [hD]) (res1 rfl (resV_tmp rfl)) () (by rfl) (mk [false] rfl) Foll.nil
  ·have h11p : ¬ ((((fU.row < 0) ∨ ((fR.length : Int) ≤ fU.row)) ∨ (fU.col < 0)) ∨ (fC ≤ fU.col)) := by simpa using h11
   replace hR := bf hR h11
   refine J_skip ?_
   refine nx ?_
   refine J_seq ?_
   refine sr 1 rfl ?_
   refine ip 1 0 [(3, iv 0)] (by kernel_rfl) ?_
   refine ie ?_
   refine J_block ?_
   refine JL1 (fun (i : Nat) => i ≤ fR.length ∧ ref23_Right_l0 fC fT (fR.drop i) i = R) (fun (i : Nat) => [(1, pt b1 0), (3, iv (i : Int))]) (fun (i : Nat) => [bx b1 [iv fC, .slice fQ fR.length fK, iv fU.row, iv fU.col, bv fV, iv fS, sv fT] 53]) (fun (i : Nat) => [sl cSlc fQ fZ, rowsF cCel fZ fR]) (fun (i : Nat) => fR.length - i) 0 ⟨(by omega), hR⟩ ⟨rfl, (by first | rfl | (simp only [List.length_set]; rfl) | (simp; done) | (simp; omega)), trivial⟩ (mk [true] rfl) Foll.refl ?_
   rintro i ⟨hm12, hR⟩
   refine J_seq ?_
   refine sr 5 rfl ?_
   refine ip 2 3 [(61, iv (i : Int)), (62, pt b1 1)] (by kernel_rfl) ?_
   refine ix rfl (det_own_one (v := .slice fQ fR.length fK) ty49 rfl rfl 0 rfl rfl) ?_
   refine ip 2 0 [(65, bv (decide ((i : Int) < (fR.length : Int))))] (by kernel_rfl) ?_
   refine ie ?_
   refine J_if rfl (fun h13 => ?_) (fun h13 => ?_)
   ·have h13p : (i : Int) < (fR.length : Int) := by simpa using h13
    rw [dropc [] (show i < fR.length by omega)] at hR; replace hR := (ref23_Right_l0.eq_2 ..).symm.trans hR
    refine J_skip ?_
    refine nx ?_
    refine J_seq ?_
    refine J_block ?_
    refine sd 19 rfl (by kernel_rfl) rfl ?_
    refine dp 1 18 [(68, pt b1 1)] (by kernel_rfl) ?_
    refine dd rfl (det_own_one (v := .slice fQ fR.length fK) ty49 rfl rfl 0 rfl rfl) ?_
    refine dp 1 16 [(70, iv (i : Int))] (by kernel_rfl) ?_
    refine JD_base 0 rfl (by omega) fun a14 hq15 => ?_
    refine JD_fact1 (rows_atD (k := i) (d := (⟨none, 0, 0⟩ : Slc)) hrowsfRowsrs 1 rfl (by have := hrowsfRowsrs.1; omega)) ?_
    have := rows_cap hrowsfRowsrs (k := i) (d := (⟨none, 0, 0⟩ : Slc)) (by have := hrowsfRowsrs.1; omega)
    refine dd rfl (det_ixq slt49 rfl rfl hq15 rfl i rfl (by omega)) ?_
    refine dd rfl (det_conv (det_ld_one (v := .slice ((fZ.getD i (⟨none, 0, 0⟩ : Slc)).q) ((fZ.getD i (⟨none, 0, 0⟩ : Slc)).n) ((fZ.getD i (⟨none, 0, 0⟩ : Slc)).k)) (us := [.slice ((fZ.getD i (⟨none, 0, 0⟩ : Slc)).q) ((fZ.getD i (⟨none, 0, 0⟩ : Slc)).n) ((fZ.getD i (⟨none, 0, 0⟩ : Slc)).k)]) ty67 rfl rfl (at_slq (c := cSlc) (sz := 1) hq15 (fun _ => rfl) 1 rfl (gd (⟨none, 0, 0⟩ : Slc) (by have := hrowsfRowsrs.1; omega))) rfl) (rows_val hrowsfRowsrs (by have := hrowsfRowsrs.1; omega))) ?_
    refine dp 2 12 [(73, iv ((fR.getD i []).length : Int)), (74, pt b1 0)] (by kernel_rfl) ?_
    refine dd rfl (det_own_one (v := iv fC) ty3 rfl rfl 0 rfl rfl) ?_
    refine dp 2 9 [(77, bv (!decide (((fR.getD i []).length : Int) = fC)))] (by kernel_rfl) ?_
    refine dor 9 0 77 86 (!(ref12_Right (fR.getD i []) false)) rfl (by kernel_rfl) (fun g16 => ?_) ?_
    ·have g16p : ¬ (¬ ((fR.getD i []).length : Int) = fC) := by simpa using g16
     refine dp 1 8 [(78, pt b1 1)] (by kernel_rfl) ?_
     refine dd rfl (det_own_one (v := .slice fQ fR.length fK) ty49 rfl rfl 0 rfl rfl) ?_
     refine dp 1 6 [(80, iv (i : Int))] (by kernel_rfl) ?_
     refine dd rfl (det_ixq slt49 rfl rfl hq15 rfl i rfl (by omega)) ?_
     refine dd rfl (det_conv (det_ld_one (v := .slice ((fZ.getD i (⟨none, 0, 0⟩ : Slc)).q) ((fZ.getD i (⟨none, 0, 0⟩ : Slc)).n) ((fZ.getD i (⟨none, 0, 0⟩ : Slc)).k)) (us := [.slice ((fZ.getD i (⟨none, 0, 0⟩ : Slc)).q) ((fZ.getD i (⟨none, 0, 0⟩ : Slc)).n) ((fZ.getD i (⟨none, 0, 0⟩ : Slc)).k)]) ty67 rfl rfl (at_slq (c := cSlc) (sz := 1) hq15 (fun _ => rfl) 1 rfl (gd (⟨none, 0, 0⟩ : Slc) (by have := hrowsfRowsrs.1; omega))) rfl) (rows_val hrowsfRowsrs (by have := hrowsfRowsrs.1; omega))) ?_
     refine dd rfl (det_build (cs := [.slice ((fZ.getD i (⟨none, 0, 0⟩ : Slc)).q) ((fR.getD i []).length) ((fZ.getD i (⟨none, 0, 0⟩ : Slc)).k), bv false]) rfl rfl (by kernel_rfl)) ?_
     refine ddc rfl (det_call (ref12_Right_c (fR.getD i []) false ((fZ.getD i (⟨none, 0, 0⟩ : Slc)).q) ((fZ.getD i (⟨none, 0, 0⟩ : Slc)).k) (by first | omega | (simp <;> omega) | (dsimp only; omega) | decide) (by first | omega | (simp <;> omega) | (dsimp only; omega) | decide) _ rfl) rfl rfl rfl rfl rfl (Foll.pick [0] rfl)) ?_
     refine dp 2 0 [(86, bv (!(ref12_Right (fR.getD i []) false)))] (by kernel_rfl) ?_
     exact JD_end (armD 9 77 86 g16 rfl rfl rfl rfl rfl)
    refine de ?_
    refine J_if rfl (fun h17 => ?_) (fun h17 => ?_)
    ·have h17p := h17; try simp at h17p
     replace hR := bt hR h17
     refine sr 1 rfl ?_
     refine ip 1 0 [(2, bv false)] (by kernel_rfl) ?_
     refine ie ?_
     refine J_ret ?_
     subst hR
     exact ends_ret rfl ⟨hr, hD⟩ (by simp [hD]) (res1 rfl (resV_tmp rfl)) () (by rfl) (mk [false] rfl) Foll.nil
    ·have h17p := h17; try simp at h17p
     replace hR := bf hR h17
     refine J_skip ?_
     refine nx ?_
     refine J_region 3 rfl ?_
     refine ip 1 2 [(66, iv (i : Int))] (by kernel_rfl) ?_
     refine ix rfl (det_add64 rfl rfl rfl rfl (by omega)) ?_
     refine ip 1 0 [(3, iv ((i : Int) + 1))] (by kernel_rfl) ?_
     refine JI_end ?_
     exact againL1 (z1 := i) (i + 1) ⟨(by omega), hR⟩ (by (try dsimp only); omega) ⟨rfl, (by first | rfl | (simp only [List.length_set]; rfl) | (simp; done) | (simp; omega)), trivial⟩ (mk [true] rfl) (Foll.pick [1, 2] rfl)
   ·have h13p : ¬ ((i : Int) < (fR.length : Int)) := by simpa using h13
    rw [dropn h13p] at hR; replace hR := (ref23_Right_l0.eq_1 ..).symm.trans hR
    refine J_exit ?_
    refine nx ?_
    refine sr 5 rfl ?_
    refine ip 1 4 [(87, pt b1 6)] (by kernel_rfl) ?_
    refine ix rfl (det_own_one (v := sv fT) ty9 rfl rfl 0 rfl rfl) ?_
    refine ix rfl (det_build (cs := cAct ({ Act.zero with kind := 44, text := fT })) rfl rfl (by kernel_rfl)) ?_
    refine ixc rfl (det_call (ref10_Right_c 0 0 Col.zero fT _ rfl) rfl rfl rfl rfl rfl Foll.nil) ?_
    refine ip 1 0 [(2, bv (ref10_Right 0 0 Col.zero fT))] (by kernel_rfl) ?_
    refine ie ?_
    refine J_ret ?_
    subst hR
    exact ends_ret rfl ⟨hr, hD⟩ (by simp [hD]) (res1 rfl (resV_tmp rfl)) () (by rfl) (mk [false] rfl) Foll.nil

def ref24_Sizes (aC : Int) (aR : List (List Cel)) (aU : Plc) (aV : Bool) (aS : Int) (aT : List UInt8) (bC : Int) (bR : List (List Cel)) (bU : Plc) (bV : Bool) (bS : Int) (bT : List UInt8) : Bool :=
 ((decide (aC = bC)) && (decide ((aR.length : Int) = (bR.length : Int))))

theorem ref24_Sizes_c (aC : Int) (aR : List (List Cel)) (aU : Plc) (aV : Bool) (aS : Int) (aT : List UInt8) (bC : Int) (bR : List (List Cel)) (bU : Plc) (bV : Bool) (bS : Int) (bT : List UInt8) (aQ : Option Addr) (aZ : List Slc) (aK : Nat) (bQ : Option Addr) (bZ : List Slc) (bK : Nat) (hrowsaRowsrs : RowsOk aZ aR) (hlaRows : aR.length ≤ 9223372036854775807) (hcaRows : aR.length ≤ aK) (hrowsbRowsrs : RowsOk bZ bR) (hlbRows : bR.length ≤ 9223372036854775807) (hcbRows : bR.length ≤ bK) (R : Bool) (hR : ref24_Sizes aC aR aU aV aS aT bC bR bU bV bS bT = R) : ConV Tryz.prog 36 [ag [iv aC, .slice aQ aR.length aK, iv aU.row, iv aU.col, bv aV, iv aS, sv aT], ag [iv bC, .slice bQ bR.length bK, iv bU.row, iv bU.col, bv bV, iv bS, sv bT]] [sl cSlc aQ aZ, rowsF cCel aZ aR, sl cSlc bQ bZ, rowsF cCel bZ bR] (bv R) := by
 refine con_of_J (n := 19) Tryz.func36 rfl (by kernel_rfl) rfl rfl [(0, ag [iv aC, .slice aQ aR.length aK, iv aU.row, iv aU.col, bv aV, iv aS, sv aT]), (1, ag [iv bC, .slice bQ bR.length bK, iv bU.row, iv bU.col, bv bV, iv bS, sv bT])] ⟨rfl, rfl, trivial⟩ fun X hX hr hD => ?_
 replace hR := (ref24_Sizes.eq_1 ..).symm.trans hR
 have := hrowsaRowsrs.1
 have := hrowsbRowsrs.1
 refine sr 3 rfl ?_
 refine it rfl (tri_box (cs := [iv aC, .slice aQ aR.length aK, iv aU.row, iv aU.col, bv aV, iv aS, sv aT]) rfl rfl rfl) fun b1 => ?_
 refine it rfl (tri_box (cs := [iv bC, .slice bQ bR.length bK, iv bU.row, iv bU.col, bv bV, iv bS, sv bT]) rfl rfl rfl) fun b2 => ?_
 refine ip 1 0 [] (by kernel_rfl) ?_
 refine ie ?_
 refine sr 15 rfl ?_
 refine ip 1 14 [(5, pt b1 0)] (by kernel_rfl) ?_
 refine ix rfl (det_own_one (v := iv aC) ty3 rfl rfl 1 rfl rfl) ?_
 refine ip 1 12 [(7, pt b2 0)] (by kernel_rfl) ?_
 refine ix rfl (det_own_one (v := iv bC) ty3 rfl rfl 0 rfl rfl) ?_
 refine ip 2 9 [(10, bv (decide (aC = bC)))] (by kernel_rfl) ?_
 refine iand 8 1 10 18 (decide ((aR.length : Int) = (bR.length : Int))) rfl (by kernel_rfl) (fun g3 => ?_) ?_
 ·have g3p : aC = bC := by simpa using g3
  refine ip 1 7 [(11, pt b1 1)] (by kernel_rfl) ?_
  refine ix rfl (det_own_one (v := .slice aQ aR.length aK) ty49 rfl rfl 1 rfl rfl) ?_
  refine ip 2 4 [(13, iv (aR.length : Int)), (14, pt b2 1)] (by kernel_rfl) ?_
  refine ix rfl (det_own_one (v := .slice bQ bR.length bK) ty49 rfl rfl 0 rfl rfl) ?_
  refine ip 3 0 [(18, bv (decide ((aR.length : Int) = (bR.length : Int))))] (by kernel_rfl) ?_
  exact JI_end (armI 7 10 18 g3 Foll.refl (mk [true, true] rfl) rfl rfl rfl rfl rfl)
 refine ip 1 0 [(4, bv ((decide (aC = bC)) && (decide ((aR.length : Int) = (bR.length : Int)))))] (by kernel_rfl) ?_
 refine ie ?_
 refine J_ret ?_
 subst hR
 exact ends_ret rfl ⟨hr, hD⟩ (by simp [hD]) (res1 rfl (resV_tmp rfl)) () (by rfl) (mk [false, false] rfl) Foll.nil

end Go.Proofs.YtinkdfnpmoljfaaGreatDoor

