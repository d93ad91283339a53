import Derived.Test.YtinkdfnpmoljfaaGreatDoorD2
import Derived.Test.YtinkdfnpmoljfaaGreatDoorFenX
import Derived.Test.YtinkdfnpmoljfaaGreatDoorIto
import Derived.Test.YtinkdfnpmoljfaaGreatDoorProg
import Derived.Test.YtinkdfnpmoljfaaGreatDoorP1
import Derived.Test.YtinkdfnpmoljfaaGreatDoorP2
import Derived.Test.YtinkdfnpmoljfaaGreatDoorP3
import Derived.Test.YtinkdfnpmoljfaaGreatDoorP4
import Derived.Test.YtinkdfnpmoljfaaGreatDoorP5
import Derived.Test.YtinkdfnpmoljfaaGreatDoorP6
import Derived.Test.YtinkdfnpmoljfaaGreatDoorP7
import Derived.Test.YtinkdfnpmoljfaaGreatDoorP9
set_option linter.unusedVariables false
set_option linter.unusedSimpArgs false
set_option linter.unnecessarySimpa false
set_option maxRecDepth 100000
namespace Go.Proofs.YtinkdfnpmoljfaaGreatDoor
open Go Go.Fen

def ref10_Right (an : Int) (am : Int) (acolor : Col) (atext : List UInt8) : Bool :=
 (decide ((ref04_CheckPen (⟨39, an, am, acolor, atext⟩ : Act)) = 0))

theorem ref10_Right_c (an : Int) (am : Int) (acolor : Col) (atext : List UInt8) (R : Bool) (hR : ref10_Right an am acolor atext = R) : ConV Tryz.prog 55 [ag (cAct (⟨39, an, am, acolor, atext⟩ : Act))] [] (bv R) := by
 refine con_of_J (n := 36) Tryz.func55 rfl (by kernel_rfl) rfl rfl [(0, ag (cAct (⟨39, an, am, acolor, atext⟩ : Act)))] ⟨rfl, trivial⟩ fun X hX hr hD => ?_
 replace hR := (ref10_Right.eq_1 ..).symm.trans hR
 refine sr 2 rfl ?_
 refine it rfl (tri_box (cs := cAct (⟨39, an, am, acolor, atext⟩ : Act)) rfl rfl rfl) fun b1 => ?_
 refine ip 1 0 [] (by kernel_rfl) ?_
 refine ie ?_
 refine J_seq ?_
 refine sr 2 rfl ?_
 refine ip 1 1 [(5, pt b1 0)] (by kernel_rfl) ?_
 refine ix rfl (det_own_one (v := iv 39) ty3 rfl rfl 0 rfl rfl) ?_
 refine ie ?_
 refine J_block ?_
 refine sr 2 rfl ?_
 refine ip 2 0 [(7, bv true)] (by kernel_rfl) ?_
 refine ie ?_
 refine J_yes rfl ?_
 refine sr 4 rfl ?_
 refine ix rfl (det_own_agg (us := cAct (⟨39, an, am, acolor, atext⟩ : Act)) ty26 rfl rfl 0 rfl rfl rfl) ?_
 refine ixc rfl (det_call (ref04_CheckPen_c (⟨39, an, am, acolor, atext⟩ : Act) _ rfl) rfl rfl rfl rfl rfl Foll.nil) ?_
 refine ip 2 0 [(2, bv (decide ((ref04_CheckPen (⟨39, an, am, acolor, atext⟩ : Act)) = 0)))] (by kernel_rfl) ?_
 refine ie ?_
 refine J_ret ?_
 subst hR
 exact ends_ret rfl ⟨hr, hD⟩ (by simp [hD]) (res1 rfl (resV_tmp rfl)) () (by rfl) (mk [false] rfl) Foll.nil

def ref11_pens (l : List Act) : List UInt8 :=
 (bindV (ref09_Params l) fun (y3 : List (List Int) × Int) => (bindV (ref05_Print y3.1) fun (y2 : List UInt8 × Int) => ((([27, 91] : List UInt8) ++ y2.1) ++ ([109] : List UInt8))))

theorem ref11_pens_len (l : List Act) : (ref11_pens l).length ≤ 961603 := by
 have := ref05_Print_len (ref09_Params l).1
 unfold ref11_pens; simp only [bindV, List.length_append, List.length_cons, List.length_nil]; omega

theorem ref11_pens_c (l : List Act) (lq : Option Addr) (lk : Nat) (hll : l.length ≤ 9223372036854775807) (hcl : l.length ≤ lk) (hlen : l.length ≤ 2000) (R : List UInt8) (hR : ref11_pens l = R) : ConV Tryz.prog 56 [.slice lq l.length lk] [sl cAct lq l] (sv R) := by
 refine con_of_J (n := 20) Tryz.func56 rfl (by kernel_rfl) rfl rfl [(0, .slice lq l.length lk)] ⟨rfl, trivial⟩ fun X hX hr hD => ?_
 replace hR := (ref11_pens.eq_1 ..).symm.trans hR
 refine sr 1 rfl ?_
 refine ip 1 0 [] (by kernel_rfl) ?_
 refine ie ?_
 refine sr 7 rfl ?_
 refine ip 1 6 [(8, .slice lq l.length lk)] (by kernel_rfl) ?_
 have hQ := bindVx hR; clear hR; obtain ⟨y3, hy3, hR⟩ := hQ
 refine it rfl (tri_callN (L2 := []) (ref09_Params_c l lq lk (by first | omega | (simp <;> omega) | (dsimp only; omega) | decide) (by first | omega | (simp <;> omega) | (dsimp only; omega) | decide) (by first | omega | (simp <;> omega)) y3 hy3) rfl rfl rfl rfl rfl Foll.refl (List.Perm.refl _) (fun ⟨⟨r1, rs2⟩, hp5⟩ => ((vo cSlc 217 r1 rs2) ++ ([]))) (fun _ => by first | rfl | simp only [List.append_nil, List.cons_append, List.nil_append, List.append_assoc])) fun ⟨⟨r1, rs2⟩, hp5⟩ => ?_
 try dsimp only at hp5
 obtain ⟨hk3, hw4⟩ := hp5
 have := VOk.le hk3
 have := VOk.cap hk3
 have := hw4.1
 refine ip 5 0 [(3, .slice (va r1.q) y3.1.length r1.k)] (by kernel_rfl) ?_
 refine ie ?_
 refine sr 7 rfl ?_
 refine ip 1 6 [(13, .slice (va r1.q) y3.1.length r1.k)] (by kernel_rfl) ?_
 have := VOk.cap hk3
 have := VOk.le hk3
 refine JI_seal [] [] (T := 217) (c := cSlc) (r := r1) (xs := rs2) (VOk.cast hk3 (by rw [hw4.1])) (by first | rfl | simp only [List.cons_append, List.append_assoc, List.nil_append, List.append_nil]) ?_
 have hQ := bindVx hR; clear hR; obtain ⟨y2, hy2, hR⟩ := hQ
 refine ixc rfl (det_call (ref05_Print_c y3.1 (va r1.q) rs2 r1.k hw4 (by first | omega | (simp <;> omega) | (dsimp only; omega) | decide) (by first | omega | (simp <;> omega) | (dsimp only; omega) | decide) y2 hy2) rfl rfl rfl rfl rfl (Foll.pick [0, 1] rfl)) ?_
 have := ref05_Print_len y3.1; try rw [hy2] at this
 refine ip 5 0 [(5, sv y2.1)] (by kernel_rfl) ?_
 refine ie ?_
 refine sr 4 rfl ?_
 refine ip 1 3 [(17, sv y2.1)] (by kernel_rfl) ?_
 refine ix rfl (det_stadd rfl rfl rfl (by first | omega | (simp <;> omega))) ?_
 refine ix rfl (det_stadd rfl rfl rfl (by first | omega | (simp <;> omega))) ?_
 refine ip 1 0 [(2, sv ((([27, 91] : List UInt8) ++ y2.1) ++ ([109] : List UInt8)))] (by kernel_rfl) ?_
 refine ie ?_
 refine J_ret ?_
 subst hR
 exact ends_ret rfl ⟨hr, hD⟩ (by simp [hD]) (res1 rfl (resV_tmp rfl)) () (by rfl) (mk [] rfl) Foll.nil

def ref11_All_l5 (l1 : List Act) (out : List UInt8) (ag_ref11_All_l4 : List Act → List UInt8 → (List UInt8 × Int)) : Nat → Nat → (List UInt8 × Int)
 | 0, _ => ([], 0)
 | fu3 + 1, n => (bif (((decide ((n : Int) < (l1.length : Int))) && (decide ((n : Int) < 16))) && true) then ref11_All_l5 l1 out ag_ref11_All_l4 fu3 (n + 1) else (bindV (ref11_pens (l1.take n)) fun (y0 : List UInt8) => ag_ref11_All_l4 (l1.drop n) (out ++ y0)))
def ref11_All_l4 : Nat → List Act → List UInt8 → (List UInt8 × Int)
 | 0, _, _ => ([], 0)
 | fu1 + 1, l1, out => (bif (decide ((0 : Int) < (l1.length : Int))) then ref11_All_l5 l1 out (ref11_All_l4 fu1) ((l1.length - 0) + 1) 0 else (out, 0))
def ref11_All_l0 (l : List Act) : List Act → Nat → (List UInt8 × Int)
 | [], i => ref11_All_l4 (l.length + 1) l ([] : List UInt8)
 | hd_l0 :: tl_l0, i => (bif (!(ref10_Right (hd_l0.n) (hd_l0.m) (hd_l0.color) ([] : List UInt8))) then (([] : List UInt8), 200) else ref11_All_l0 l tl_l0 (i + 1))
def ref11_All (l : List Act) : List UInt8 × Int :=
 (bif (decide ((131072 : Int) < (l.length : Int))) then (([] : List UInt8), 3) else ref11_All_l0 l l 0)

theorem ref11_All_c (l : List Act) (lq : Option Addr) (lk : Nat) (hll : l.length ≤ 9223372036854775807) (hcl : l.length ≤ lk) (hpen : ∀ a ∈ l, penA a) (hlen : l.length ≤ 2000) (R : List UInt8 × Int) (hR : ref11_All l = R) : Con Tryz.prog 17 [.slice lq l.length lk] [] [sl cAct lq l] ({r : VR // VOk 1 R.1.length r}) (fun x => .tuple #[.slice (va x.1.q) R.1.length x.1.k, iv R.2]) (fun x => ((vo cU8 5 x.1 R.1) ++ ([]))) (fun x => []) := by
 refine con_of_J (n := 63) Tryz.func17 rfl (by kernel_rfl) rfl rfl [(0, .slice lq l.length lk)] ⟨rfl, trivial⟩ fun X hX hr hD => ?_
 replace hR := (ref11_All.eq_1 ..).symm.trans hR
 refine sr 2 rfl ?_
 refine ip 2 0 [] (by kernel_rfl) ?_
 refine ie ?_
 refine J_seq ?_
 refine sr 3 rfl ?_
 refine ip 3 0 [(9, bv (decide ((131072 : Int) < (l.length : Int))))] (by kernel_rfl) ?_
 refine ie ?_
 refine J_if rfl (fun h1 => ?_) (fun h1 => ?_)
 ·have h1p : (131072 : Int) < (l.length : Int) := by simpa using h1
  replace hR := bt hR h1
  refine sr 2 rfl ?_
  refine ip 2 0 [(2, .slice none 0 0), (3, iv 3)] (by kernel_rfl) ?_
  refine ie ?_
  refine J_ret ?_
  subst hR
  exact ends_ret rfl ⟨hr, hD⟩ (by simp [hD]) (res2 rfl (resV_tmp rfl) (resV_tmp rfl)) ⟨VR.nil, VOk.nil⟩ (by rfl) (mc [vo cU8 5 VR.nil ([] : List UInt8)] [true] rfl (by first | rfl | (simp only [List.length_set] <;> rfl))) Foll.nil
 ·have h1p : ¬ ((131072 : Int) < (l.length : Int)) := by simpa using h1
  replace hR := bf hR h1
  refine J_skip ?_
  refine nx ?_
  refine J_seq ?_
  refine sr 1 rfl ?_
  refine ip 1 0 [(4, iv 0)] (by kernel_rfl) ?_
  refine ie ?_
  refine J_block ?_
  refine JL1 (fun (i : Nat) => i ≤ l.length ∧ ref11_All_l0 l (l.drop i) i = R) (fun (i : Nat) => [(0, .slice lq l.length lk), (4, iv (i : Int))]) (fun (i : Nat) => []) (fun (i : Nat) => [sl cAct lq l]) (fun (i : Nat) => l.length - i) 0 ⟨(by omega), hR⟩ ⟨rfl, (by first | rfl | (simp only [List.length_set]; rfl) | (simp; done) | (simp; omega)), trivial⟩ (mk [] rfl) Foll.refl ?_
  rintro i ⟨hm2, hR⟩
  refine J_seq ?_
  refine sr 4 rfl ?_
  refine ip 4 0 [(13, bv (decide ((i : Int) < (l.length : Int))))] (by kernel_rfl) ?_
  refine ie ?_
  refine J_if rfl (fun h3 => ?_) (fun h3 => ?_)
  ·have h3p : (i : Int) < (l.length : Int) := by simpa using h3
   rw [dropc Act.zero (show i < l.length by omega)] at hR; replace hR := (ref11_All_l0.eq_2 ..).symm.trans hR
   refine J_skip ?_
   refine nx ?_
   refine J_seq ?_
   refine J_block ?_
   refine sr 6 rfl ?_
   refine ip 2 4 [(16, .slice lq l.length lk), (17, iv (i : Int))] (by kernel_rfl) ?_
   refine JI_base 0 rfl (by omega) fun a4 hq5 => ?_
   refine ix rfl (det_ixq slt27 rfl rfl hq5 rfl i rfl (by omega)) ?_
   refine ix rfl (det_conv (det_ld_agg (us := cAct (l.getD i Act.zero)) ty26 rfl rfl (at_slq (c := cAct) (sz := 6) hq5 (fun _ => rfl) 0 rfl (gd Act.zero (by omega))) rfl) (congrArg (fun z => ag (cAct z)) (pen_at hpen (k := i) (by omega)))) ?_
   refine ixc rfl (det_call (ref10_Right_c ((l.getD i Act.zero).n) ((l.getD i Act.zero).m) ((l.getD i Act.zero).color) ([] : List UInt8) _ rfl) rfl rfl rfl rfl rfl Foll.nil) ?_
   refine ip 1 0 [(21, bv (!(ref10_Right ((l.getD i Act.zero).n) ((l.getD i Act.zero).m) ((l.getD i Act.zero).color) ([] : List UInt8))))] (by kernel_rfl) ?_
   refine ie ?_
   refine J_if rfl (fun h6 => ?_) (fun h6 => ?_)
   ·replace hR := bt hR h6
    refine sr 2 rfl ?_
    refine ip 2 0 [(2, .slice none 0 0), (3, iv 200)] (by kernel_rfl) ?_
    refine ie ?_
    refine J_ret ?_
    subst hR
    exact ends_ret rfl ⟨hr, hD⟩ (by simp [hD]) (res2 rfl (resV_tmp rfl) (resV_tmp rfl)) ⟨VR.nil, VOk.nil⟩ (by rfl) (mc [vo cU8 5 VR.nil ([] : List UInt8)] [true] rfl (by first | rfl | (simp only [List.length_set] <;> rfl))) Foll.nil
   ·replace hR := bf hR h6
    refine J_skip ?_
    refine nx ?_
    refine J_region 3 rfl ?_
    refine ip 1 2 [(14, iv (i : Int))] (by kernel_rfl) ?_
    refine ix rfl (det_add64 rfl rfl rfl rfl (by omega)) ?_
    refine ip 1 0 [(4, iv ((i : Int) + 1))] (by kernel_rfl) ?_
    refine JI_end ?_
    exact againL1 (z1 := i) (i + 1) ⟨(by omega), hR⟩ (by (try dsimp only); omega) ⟨rfl, (by first | rfl | (simp only [List.length_set]; rfl) | (simp; done) | (simp; omega)), trivial⟩ (mk [] rfl) Foll.refl
  ·have h3p : ¬ ((i : Int) < (l.length : Int)) := by simpa using h3
   rw [dropn h3p] at hR; replace hR := (ref11_All_l0.eq_1 ..).symm.trans hR
   refine J_exit ?_
   refine nx ?_
   refine sr 1 rfl ?_
   refine ip 1 0 [(5, .slice none 0 0)] (by kernel_rfl) ?_
   refine ie ?_
   refine J_seq ?_
   refine J_block ?_
   refine JL6 (fun (fu : Nat) (l1 : List Act) (lq1 : Option Addr) (lk1 : Nat) (out : List UInt8) (outr : VR) => l1.length < fu ∧ ref11_All_l4 fu l1 out = R ∧ l1.length ≤ lk1 ∧ l1.length ≤ 9223372036854775807 ∧ VOk 1 out.length outr ∧ (∀ a ∈ l1, penA a) ∧ out.length + 1000000 * l1.length ≤ 4000000000) (fun (fu : Nat) (l1 : List Act) (lq1 : Option Addr) (lk1 : Nat) (out : List UInt8) (outr : VR) => [(0, .slice lq1 l1.length lk1), (5, .slice (va outr.q) out.length outr.k)]) (fun (fu : Nat) (l1 : List Act) (lq1 : Option Addr) (lk1 : Nat) (out : List UInt8) (outr : VR) => ((vo cU8 5 outr out) ++ ([]))) (fun (fu : Nat) (l1 : List Act) (lq1 : Option Addr) (lk1 : Nat) (out : List UInt8) (outr : VR) => [sl cAct lq l, sl cAct lq1 l1]) (fun (fu : Nat) (l1 : List Act) (lq1 : Option Addr) (lk1 : Nat) (out : List UInt8) (outr : VR) => fu) (l.length + 1) l lq lk ([] : List UInt8) VR.nil ⟨(Nat.lt_succ_self _), hR, (by first | omega | (simp <;> omega) | (dsimp only; omega) | decide), (by first | omega | (simp <;> omega) | (dsimp only; omega) | decide), VOk.nil, (by exact hpen), (by (simp <;> omega))⟩ ⟨(by first | rfl | (simp only [List.length_set]; rfl) | (simp; done) | (simp; omega)), (by first | rfl | (simp only [List.length_set]; rfl) | (simp; done) | (simp; omega)), trivial⟩ (mc [vo cU8 5 VR.nil ([] : List UInt8)] [true] rfl (by first | rfl | (simp only [List.length_set] <;> rfl))) (Foll.pick [0, 0] rfl) ?_
   rintro fu l1 lq1 lk1 out outr ⟨hm7, hR, hcl1, hll1, hokoutr, hp1, hb⟩
   have := VOk.le hokoutr
   obtain ⟨fu1, rfl⟩ : ∃ m, fu = m + 1 := ⟨fu - 1, by omega⟩
   replace hR := (ref11_All_l4.eq_2 ..).symm.trans hR
   refine J_seq ?_
   refine sr 3 rfl ?_
   refine ip 3 0 [(24, bv (decide ((0 : Int) < (l1.length : Int))))] (by kernel_rfl) ?_
   refine ie ?_
   refine J_if rfl (fun h8 => ?_) (fun h8 => ?_)
   ·have h8p : (0 : Int) < (l1.length : Int) := by simpa using h8
    replace hR := bt hR h8
    refine J_skip ?_
    refine nx ?_
    refine J_block ?_
    refine sr 1 rfl ?_
    refine ip 1 0 [(6, iv 0)] (by kernel_rfl) ?_
    refine ie ?_
    refine J_seq ?_
    refine J_block ?_
    refine JL2 (fun (fu2 : Nat) (n : Nat) => (l1.length - n) < fu2 ∧ ref11_All_l5 l1 out (ref11_All_l4 fu1) fu2 n = R ∧ n ≤ 16 ∧ n ≤ l1.length) (fun (fu2 : Nat) (n : Nat) => [(0, .slice lq1 l1.length lk1), (5, .slice (va outr.q) out.length outr.k), (6, iv (n : Int))]) (fun (fu2 : Nat) (n : Nat) => ((vo cU8 5 outr out) ++ ([]))) (fun (fu2 : Nat) (n : Nat) => [sl cAct lq l, sl cAct lq1 l1]) (fun (fu2 : Nat) (n : Nat) => fu2) ((l1.length - 0) + 1) 0 ⟨(Nat.lt_succ_self _), hR, (by omega)⟩ ⟨rfl, rfl, (by first | rfl | (simp only [List.length_set]; rfl) | (simp; done) | (simp; omega)), trivial⟩ (mc [vo cU8 5 outr out] [true] rfl (by first | rfl | (simp only [List.length_set] <;> rfl))) Foll.refl ?_
    rintro fu2 n ⟨hm9, hR, hn⟩
    obtain ⟨fu3, rfl⟩ : ∃ m, fu2 = m + 1 := ⟨fu2 - 1, by omega⟩
    replace hR := (ref11_All_l5.eq_2 ..).symm.trans hR
    refine J_seq ?_
    refine sr 16 rfl ?_
    refine ip 5 11 [(29, bv (decide ((n : Int) < (l1.length : Int))))] (by kernel_rfl) ?_
    refine iand 3 8 29 32 (decide ((n : Int) < 16)) rfl (by kernel_rfl) (fun g10 => ?_) ?_
    ·have g10p : (n : Int) < (l1.length : Int) := by simpa using g10
     refine ip 3 0 [(32, bv (decide ((n : Int) < 16)))] (by kernel_rfl) ?_
     exact JI_end (armI 2 29 32 g10 Foll.refl (mc [vo cU8 5 outr out] [true] rfl (by first | rfl | (simp only [List.length_set] <;> rfl))) rfl rfl rfl rfl rfl)
    refine ip 1 7 [(33, bv ((decide ((n : Int) < (l1.length : Int))) && (decide ((n : Int) < 16))))] (by kernel_rfl) ?_
    refine iand 7 0 33 40 true rfl (by kernel_rfl) (fun g11 => ?_) ?_
    ·have g11p : ((n : Int) < (l1.length : Int)) ∧ ((n : Int) < 16) := by simpa using g11
     refine ip 2 5 [(34, .slice lq1 l1.length lk1), (35, iv (n : Int))] (by kernel_rfl) ?_
     refine JI_base 1 rfl (by omega) fun a12 hq13 => ?_
     refine ix rfl (det_ixq slt27 rfl rfl hq13 rfl n rfl (by omega)) ?_
     refine ip 1 3 [(37, pa (Addr.add a12 (n * 6)))] (by kernel_rfl) ?_
     refine ix rfl (det_conv (det_ld_one (v := iv ((l1.getD n Act.zero).kind)) (us := [iv ((l1.getD n Act.zero).kind)]) ty3 rfl rfl (at_part0 (at_slq (c := cAct) (sz := 6) hq13 (fun _ => rfl) 1 rfl (gd Act.zero (by omega))) (ws := [iv ((l1.getD n Act.zero).kind)]) 1 rfl) rfl) (congrArg (fun z => (Value.int .i64 z)) (congrArg Act.kind (pen_at hp1 (k := n) (by omega))))) ?_
     refine ip 2 0 [(40, bv true)] (by kernel_rfl) ?_
     exact JI_end (armI 7 33 40 g11 Foll.refl (mc [vo cU8 5 outr out] [true] rfl (by first | rfl | (simp only [List.length_set] <;> rfl))) rfl rfl rfl rfl rfl)
    refine ie ?_
    refine J_if rfl (fun h14 => ?_) (fun h14 => ?_)
    ·have h14p := h14; try simp at h14p
     replace hR := bt hR h14
     refine J_skip ?_
     refine nx ?_
     refine J_block ?_
     refine J_region 3 rfl ?_
     refine ip 1 2 [(41, iv (n : Int))] (by kernel_rfl) ?_
     refine ix rfl (det_add64 rfl rfl rfl rfl (by omega)) ?_
     refine ip 1 0 [(6, iv ((n : Int) + 1))] (by kernel_rfl) ?_
     refine JI_end ?_
     exact againL2 (z1 := (fu3 + 1)) (z2 := n) fu3 (n + 1) ⟨(by omega), hR, (by omega)⟩ (Nat.lt_succ_self _) ⟨rfl, rfl, (by first | rfl | (simp only [List.length_set]; rfl) | (simp; done) | (simp; omega)), trivial⟩ (mc [vo cU8 5 outr out] [true] rfl (by first | rfl | (simp only [List.length_set] <;> rfl))) Foll.refl
    ·have h14p := h14; try simp at h14p
     replace hR := bf hR h14
     refine J_exit ?_
     refine nx ?_
     refine J_seq ?_
     refine sr 2 rfl ?_
     refine ip 2 0 [(44, bv (decide ((0 : Int) < (n : Int))))] (by kernel_rfl) ?_
     refine ie ?_
     refine J_if rfl (fun h15 => ?_) (fun h15 => ?_)
     ·have h15p : (0 : Int) < (n : Int) := by simpa using h15
      refine sr 7 rfl ?_
      refine ip 3 4 [(45, .slice (va outr.q) out.length outr.k), (46, .slice lq1 l1.length lk1), (47, iv (n : Int))] (by kernel_rfl) ?_
      refine JI_fact1 (sl_take (at_of 1 rfl) n) ?_
      refine ix rfl (det_slc0 (n' := (l1.take n).length) slt27 rfl rfl n lk1 (sb_some rfl rfl) sb_none (by omega) (by omega) (by first | rfl | omega | (simp <;> omega) | (simp; done)) rfl) ?_
      have : (l1.take n).length = min n l1.length := List.length_take
      have hQ := bindVx hR; clear hR; obtain ⟨y0, hy0, hR⟩ := hQ
      refine ixc rfl (det_call (ref11_pens_c (l1.take n) lq1 lk1 (by first | omega | (simp <;> omega) | (dsimp only; omega) | decide) (by first | omega | (simp <;> omega) | (dsimp only; omega) | decide) (by first | omega | (simp <;> omega)) y0 hy0) rfl rfl rfl rfl rfl (Foll.pick [0] rfl)) ?_
      have := ref11_pens_len (l1.take n); try rw [hy0] at this
      refine it rfl (tri_app_str (r := outr) (xs := out) (s := y0) (pre := []) (post := []) apt30 (by kernel_rfl) Tryz.underlying9 rfl rfl rfl rfl rfl rfl rfl hokoutr (by first | omega | (simp <;> omega))) fun ⟨r16, hr17⟩ => ?_
      have : (out ++ y0).length = out.length + y0.length := List.length_append
      have := VOk.le hr17
      have := VOk.cap hr17
      refine ip 1 0 [(5, .slice (va r16.q) ((out ++ y0).length) r16.k)] (by kernel_rfl) ?_
      refine ie ?_
      refine sr 4 rfl ?_
      refine ip 2 2 [(51, .slice lq1 l1.length lk1), (52, iv (n : Int))] (by kernel_rfl) ?_
      refine JI_fact1 (sl_drop (c := cAct) (sz := 6) (xs := l1) (at_of 2 rfl) n lk1 (fun _ => rfl) (by omega) (by omega)) ?_
      refine ix rfl (det_slc (n' := (l1.drop n).length) slt27 rfl rfl n l1.length lk1 (sb_some rfl rfl) sb_none sb_none (by omega) (by omega) (by omega) (by first | rfl | omega | (simp <;> omega) | (simp; done)) rfl) ?_
      have : (l1.drop n).length = l1.length - n := List.length_drop
      refine ip 1 0 [(0, .slice (subq lq1 n 6 lk1) ((l1.drop n).length) (lk1 - n))] (by kernel_rfl) ?_
      refine ie ?_
      refine J_exit ?_
      exact againL6 (z1 := (fu1 + 1)) (z2 := l1) (z3 := lq1) (z4 := lk1) (z5 := out) (z6 := outr) fu1 (l1.drop n) (subq lq1 n 6 lk1) (lk1 - n) (out ++ y0) r16 ⟨(by omega), hR, (by first | omega | (simp <;> omega) | (dsimp only; omega) | decide), (by first | omega | (simp <;> omega) | (dsimp only; omega) | decide), hr17, (by exact fun a ha => hp1 a (List.mem_of_mem_drop ha)), (by first | omega | (simp <;> omega))⟩ (Nat.lt_succ_self _) ⟨(by first | rfl | (simp only [List.length_set]; rfl) | (simp; done) | (simp; omega)), (by first | rfl | (simp only [List.length_set]; rfl) | (simp; done) | (simp; omega)), trivial⟩ (mc [vo cU8 5 r16 (out ++ y0)] [true] rfl (by first | rfl | (simp only [List.length_set] <;> rfl))) (Foll.pick [2, 0] rfl)
     ·have h15p : ¬ ((0 : Int) < (n : Int)) := by simpa using h15
      exfalso; try simp only [Bool.and_true, Bool.and_eq_false_iff, decide_eq_false_iff_not] at *; omega
   ·have h8p : ¬ ((0 : Int) < (l1.length : Int)) := by simpa using h8
    replace hR := bf hR h8
    refine J_exit ?_
    refine nx ?_
    refine sr 3 rfl ?_
    refine ip 3 0 [(2, .slice (va outr.q) out.length outr.k), (3, iv 0)] (by kernel_rfl) ?_
    refine ie ?_
    refine J_ret ?_
    subst hR
    exact ends_ret rfl ⟨hr, hD⟩ (by simp [hD]) (res2 rfl (resV_tmp rfl) (resV_tmp rfl)) ⟨outr, hokoutr⟩ (by rfl) (mc [vo cU8 5 outr out] [true] rfl (by first | rfl | (simp only [List.length_set] <;> rfl))) Foll.nil

def ref11_Bytes (l : List Act) : List UInt8 :=
 (bindV (ref11_All l) fun (y1 : List UInt8 × Int) => y1.1)

theorem ref11_Bytes_c (l : List Act) (lq : Option Addr) (lk : Nat) (hll : l.length ≤ 9223372036854775807) (hcl : l.length ≤ lk) (hpen : ∀ a ∈ l, penA a) (hlen : l.length ≤ 2000) (R : List UInt8) (hR : ref11_Bytes l = R) : Con Tryz.prog 79 [.slice lq l.length lk] [] [sl cAct lq l] ({r : VR // VOk 1 R.length r}) (fun x => .slice (va x.1.q) R.length x.1.k) (fun x => ((vo cU8 5 x.1 R) ++ ([]))) (fun x => []) := by
 refine con_of_J (n := 11) Tryz.func79 rfl (by kernel_rfl) rfl rfl [(0, .slice lq l.length lk)] ⟨rfl, trivial⟩ fun X hX hr hD => ?_
 replace hR := (ref11_Bytes.eq_1 ..).symm.trans hR
 refine sr 1 rfl ?_
 refine ip 1 0 [] (by kernel_rfl) ?_
 refine ie ?_
 refine sr 7 rfl ?_
 refine ip 1 6 [(6, .slice lq l.length lk)] (by kernel_rfl) ?_
 have hQ := bindVx hR; clear hR; obtain ⟨y1, hy1, hR⟩ := hQ
 refine it rfl (tri_callN (L2 := []) (ref11_All_c l lq lk (by first | omega | (simp <;> omega) | (dsimp only; omega) | decide) (by first | omega | (simp <;> omega) | (dsimp only; omega) | decide) (by first | assumption | omega) (by first | omega | (simp <;> omega)) y1 hy1) rfl rfl rfl rfl rfl Foll.refl (List.Perm.refl _) (fun ⟨r1, hk2⟩ => ((vo cU8 5 r1 y1.1) ++ ([]))) (fun _ => by first | rfl | simp only [List.append_nil, List.cons_append, List.nil_append, List.append_assoc])) fun ⟨r1, hk2⟩ => ?_
 have := VOk.le hk2
 have := VOk.cap hk2
 refine ip 5 0 [(3, .slice (va r1.q) y1.1.length r1.k)] (by kernel_rfl) ?_
 refine ie ?_
 refine sr 2 rfl ?_
 refine ip 2 0 [(2, .slice (va r1.q) y1.1.length r1.k)] (by kernel_rfl) ?_
 refine ie ?_
 refine J_ret ?_
 subst hR
 exact ends_ret rfl ⟨hr, hD⟩ (by simp [hD]) (res1 rfl (resV_tmp rfl)) ⟨r1, hk2⟩ (by rfl) (mc [vo cU8 5 r1 y1.1] [true] rfl (by first | rfl | (simp only [List.length_set] <;> rfl))) Foll.nil

end Go.Proofs.YtinkdfnpmoljfaaGreatDoor

