import Derived.Test.YtinkdfnpmoljfaaGreatDoorD2
import Derived.Test.YtinkdfnpmoljfaaGreatDoorFenX
import Derived.Test.YtinkdfnpmoljfaaGreatDoorIto
import Derived.Test.YtinkdfnpmoljfaaGreatDoorProg
import Derived.Test.YtinkdfnpmoljfaaGreatDoorP1
import Derived.Test.YtinkdfnpmoljfaaGreatDoorP2
import Derived.Test.YtinkdfnpmoljfaaGreatDoorP3
import Derived.Test.YtinkdfnpmoljfaaGreatDoorP4
import Derived.Test.YtinkdfnpmoljfaaGreatDoorP5
set_option linter.unusedVariables false
set_option linter.unusedSimpArgs false
set_option linter.unnecessarySimpa false
set_option maxRecDepth 100000
namespace Go.Proofs.YtinkdfnpmoljfaaGreatDoor
open Go Go.Fen
theorem eqt26 : EqT Tryz.prog 26 cAct := EqT.of 20 rfl (by kernel_rfl) (by kernel_rfl) (fun _ _ => by kernel_rfl) cAct.inj
def ref26_Same_l0 (b : List Act) : List Act → Nat → Bool
 | [], i => true
 | hd_l0 :: tl_l0, i => (bif (!(decide (hd_l0 = (b.getD i Act.zero)))) then false else ref26_Same_l0 b tl_l0 (i + 1))
def ref26_Same (a : List Act) (b : List Act) : Bool :=
 (bif (!decide ((a.length : Int) = (b.length : Int))) then false else ref26_Same_l0 b a 0)

theorem ref26_Same_c (a : List Act) (b : List Act) (aq : Option Addr) (ak : Nat) (bq : Option Addr) (bk : Nat) (hla : a.length ≤ 9223372036854775807) (hca : a.length ≤ ak) (hlb : b.length ≤ 9223372036854775807) (hcb : b.length ≤ bk) (R : Bool) (hR : ref26_Same a b = R) : ConV Tryz.prog 29 [.slice aq a.length ak, .slice bq b.length bk] [sl cAct aq a, sl cAct bq b] (bv R) := by
 refine con_of_J (n := 26) Tryz.func29 rfl (by kernel_rfl) rfl rfl [(0, .slice aq a.length ak), (1, .slice bq b.length bk)] ⟨rfl, rfl, trivial⟩ fun X hX hr hD => ?_
 replace hR := (ref26_Same.eq_1 ..).symm.trans hR
 refine sr 1 rfl ?_
 refine ip 1 0 [] (by kernel_rfl) ?_
 refine ie ?_
 refine J_seq ?_
 refine sr 5 rfl ?_
 refine ip 5 0 [(10, bv (!decide ((a.length : Int) = (b.length : Int))))] (by kernel_rfl) ?_
 refine ie ?_
 refine J_if rfl (fun h1 => ?_) (fun h1 => ?_)
 ·have h1p : ¬ (a.length : Int) = (b.length : Int) := by simpa using h1
  replace hR := bt hR h1
  refine sr 1 rfl ?_
  refine ip 1 0 [(4, bv false)] (by kernel_rfl) ?_
  refine ie ?_
  refine J_ret ?_
  subst hR
  exact ends_ret rfl ⟨hr, hD⟩ (by simp [hD]) (res1 rfl (resV_tmp rfl)) () (by rfl) (mk [] rfl) Foll.nil
 ·have h1p : ¬ (¬ (a.length : Int) = (b.length : Int)) := by simpa using h1
  replace hR := bf hR h1
  refine J_skip ?_
  refine nx ?_
  refine J_seq ?_
  refine sr 1 rfl ?_
  refine ip 1 0 [(5, iv 0)] (by kernel_rfl) ?_
  refine ie ?_
  refine J_block ?_
  refine JL1 (fun (i : Nat) => i ≤ a.length ∧ ref26_Same_l0 b (a.drop i) i = R) (fun (i : Nat) => [(0, .slice aq a.length ak), (1, .slice bq b.length bk), (5, iv (i : Int))]) (fun (i : Nat) => []) (fun (i : Nat) => [sl cAct aq a, sl cAct bq b]) (fun (i : Nat) => a.length - i) 0 ⟨(by omega), hR⟩ ⟨rfl, rfl, (by first | rfl | (simp only [List.length_set]; rfl) | (simp; done) | (simp; omega)), trivial⟩ (mk [] rfl) Foll.refl ?_
  rintro i ⟨hm2, hR⟩
  refine J_seq ?_
  refine sr 4 rfl ?_
  refine ip 4 0 [(14, bv (decide ((i : Int) < (a.length : Int))))] (by kernel_rfl) ?_
  refine ie ?_
  refine J_if rfl (fun h3 => ?_) (fun h3 => ?_)
  ·have h3p : (i : Int) < (a.length : Int) := by simpa using h3
   rw [dropc Act.zero (show i < a.length by omega)] at hR; replace hR := (ref26_Same_l0.eq_2 ..).symm.trans hR
   refine J_skip ?_
   refine nx ?_
   refine J_seq ?_
   refine J_block ?_
   refine sd 9 rfl (by kernel_rfl) rfl ?_
   refine dp 2 7 [(17, .slice aq a.length ak), (18, iv (i : Int))] (by kernel_rfl) ?_
   refine JD_base 0 rfl (by omega) fun a4 hq5 => ?_
   refine dd rfl (det_ixq slt27 rfl rfl hq5 rfl i rfl (by omega)) ?_
   refine dd rfl (det_ld_agg (us := cAct (a.getD i Act.zero)) ty26 rfl rfl (at_slq (c := cAct) (sz := 6) hq5 (fun _ => rfl) 0 rfl (gd Act.zero (by omega))) rfl) ?_
   refine dp 2 3 [(21, .slice bq b.length bk), (22, iv (i : Int))] (by kernel_rfl) ?_
   refine JD_base 1 rfl (by omega) fun a6 hq7 => ?_
   refine dd rfl (det_ixq slt27 rfl rfl hq7 rfl i rfl (by omega)) ?_
   refine dd rfl (det_ld_agg (us := cAct (b.getD i Act.zero)) ty26 rfl rfl (at_slq (c := cAct) (sz := 6) hq7 (fun _ => rfl) 1 rfl (gd Act.zero (by omega))) rfl) ?_
   refine dd rfl (det_nes (a := (a.getD i Act.zero)) (b := (b.getD i Act.zero)) eqt26 rfl rfl rfl) ?_
   refine de ?_
   refine J_if rfl (fun h8 => ?_) (fun h8 => ?_)
   ·have h8p : ¬ (a.getD i Act.zero) = (b.getD i Act.zero) := by simpa using h8
    replace hR := bt hR h8
    refine sr 1 rfl ?_
    refine ip 1 0 [(4, bv false)] (by kernel_rfl) ?_
    refine ie ?_
    refine J_ret ?_
    subst hR
    exact ends_ret rfl ⟨hr, hD⟩ (by simp [hD]) (res1 rfl (resV_tmp rfl)) () (by rfl) (mk [] rfl) Foll.nil
   ·have h8p : ¬ (¬ (a.getD i Act.zero) = (b.getD i Act.zero)) := by simpa using h8
    replace hR := bf hR h8
    refine J_skip ?_
    refine nx ?_
    refine J_region 3 rfl ?_
    refine ip 1 2 [(15, iv (i : Int))] (by kernel_rfl) ?_
    refine ix rfl (det_add64 rfl rfl rfl rfl (by omega)) ?_
    refine ip 1 0 [(5, iv ((i : Int) + 1))] (by kernel_rfl) ?_
    refine JI_end ?_
    exact againL1 (z1 := i) (i + 1) ⟨(by omega), hR⟩ (by (try dsimp only); omega) ⟨rfl, rfl, (by first | rfl | (simp only [List.length_set]; rfl) | (simp; done) | (simp; omega)), trivial⟩ (mk [] rfl) Foll.refl
  ·have h3p : ¬ ((i : Int) < (a.length : Int)) := by simpa using h3
   rw [dropn h3p] at hR; replace hR := (ref26_Same_l0.eq_1 ..).symm.trans hR
   refine J_exit ?_
   refine nx ?_
   refine sr 1 rfl ?_
   refine ip 1 0 [(4, bv true)] (by kernel_rfl) ?_
   refine ie ?_
   refine J_ret ?_
   subst hR
   exact ends_ret rfl ⟨hr, hD⟩ (by simp [hD]) (res1 rfl (resV_tmp rfl)) () (by rfl) (mk [] rfl) Foll.nil

def ref03_Check (c : Col) : Int :=
 (bif (decide (c.kind = 0)) then (bif (decide (c.n = 0)) then 0 else 130) else (bif (decide (c.kind = 1)) then (bif ((decide ((0 : Int) ≤ c.n)) && (decide (c.n ≤ 255))) then 0 else 130) else (bif (decide (c.kind = 2)) then (bif ((decide ((0 : Int) ≤ c.n)) && (decide (c.n ≤ 16777215))) then 0 else 130) else 130)))

def ref04_Check (s : Sty) : Int :=
 (bif ((((decide (s.attr < 0)) || (decide ((255 : Int) < s.attr))) || (decide (s.under < 0))) || (decide ((5 : Int) < s.under))) then 140 else (bif (!decide ((ref03_Check s.fore) = 0)) then (ref03_Check s.fore) else (bif (!decide ((ref03_Check s.back) = 0)) then (ref03_Check s.back) else (bif (!decide ((ref03_Check s.line) = 0)) then (ref03_Check s.line) else 0))))

end Go.Proofs.YtinkdfnpmoljfaaGreatDoor

