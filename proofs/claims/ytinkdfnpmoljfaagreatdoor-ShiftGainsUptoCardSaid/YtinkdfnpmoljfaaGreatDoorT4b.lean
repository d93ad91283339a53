import Derived.Test.YtinkdfnpmoljfaaGreatDoorD2
import Derived.Test.YtinkdfnpmoljfaaGreatDoorFenX
import Derived.Test.YtinkdfnpmoljfaaGreatDoorProg
import Derived.Test.YtinkdfnpmoljfaaGreatDoorT4a
set_option linter.unusedVariables false
set_option linter.unusedSimpArgs false
set_option linter.unnecessarySimpa false
set_option maxRecDepth 100000
namespace Go.Proofs.YtinkdfnpmoljfaaGreatDoor
open Go Go.Fen
theorem apt174 : ApTy Tryz.prog 174 242 3 24 := ⟨by kernel_rfl, by kernel_rfl, rfl⟩
theorem eqt70 : EqT Tryz.prog 70 cSty := EqT.of 20 rfl (by kernel_rfl) (by kernel_rfl) (fun _ _ => by kernel_rfl) cSty.inj
theorem eqt72 : EqT Tryz.prog 72 cCel := EqT.of 20 rfl (by kernel_rfl) (by kernel_rfl) (fun _ _ => by kernel_rfl) cCel.inj
theorem slt49 : SlTy Tryz.prog 49 67 1 := ⟨by kernel_rfl, by kernel_rfl⟩
theorem slt67 : SlTy Tryz.prog 67 72 12 := ⟨by kernel_rfl, by kernel_rfl⟩
theorem slt174 : SlTy Tryz.prog 174 242 3 := ⟨by kernel_rfl, by kernel_rfl⟩
theorem slt196 : SlTy Tryz.prog 196 194 2 := ⟨by kernel_rfl, by kernel_rfl⟩
theorem ty24 : Ty Tryz.prog 24 2 true := ⟨by kernel_rfl⟩
theorem ty49 : Ty Tryz.prog 49 1 false := ⟨by kernel_rfl⟩
theorem ty53 : Ty Tryz.prog 53 7 true := ⟨by kernel_rfl⟩
theorem ty67 : Ty Tryz.prog 67 1 false := ⟨by kernel_rfl⟩
theorem ty68 : Ty Tryz.prog 68 2 true := ⟨by kernel_rfl⟩
theorem ty70 : Ty Tryz.prog 70 8 true := ⟨by kernel_rfl⟩
theorem ty72 : Ty Tryz.prog 72 12 true := ⟨by kernel_rfl⟩
theorem ty174 : Ty Tryz.prog 174 1 false := ⟨by kernel_rfl⟩
theorem ty189 : Ty Tryz.prog 189 3 true := ⟨by kernel_rfl⟩
theorem ty194 : Ty Tryz.prog 194 2 true := ⟨by kernel_rfl⟩
theorem ty233 : Ty Tryz.prog 233 1 false := ⟨by kernel_rfl⟩
theorem ty242 : Ty Tryz.prog 242 3 true := ⟨by kernel_rfl⟩
theorem zero24 : Zero Tryz.prog 24 (cCol Col.zero) := ⟨by kernel_rfl⟩
theorem zero53 : Zero Tryz.prog 53 [iv 0, .slice none 0 0, iv 0, iv 0, bv false, iv 0, sv ([] : List UInt8)] := ⟨by kernel_rfl⟩
theorem zero72 : Zero Tryz.prog 72 (cCel Cel.zero) := ⟨by kernel_rfl⟩
theorem zero189 : Zero Tryz.prog 189 (cAr3 Ar3.zero) := ⟨by kernel_rfl⟩
theorem zero194 : Zero Tryz.prog 194 (cSpn Spn.zero) := ⟨by kernel_rfl⟩
theorem zero233 : Zero Tryz.prog 233 [.pointer none] := ⟨by kernel_rfl⟩
theorem zero242 : Zero Tryz.prog 242 (cSp3 Sp3.zero) := ⟨by kernel_rfl⟩
def osc_prints : Unit :=
 ()

theorem osc_prints_c (R : Unit) (hR : osc_prints = R) : Con Tryz.prog 141 [] [] [] (Nat) (fun x => .map (some x)) (fun x => [(x, .map #[⟨iv 44, .func (.func 188) #[] #[], 0⟩, ⟨iv 45, .func (.func 191) #[] #[], 1⟩, ⟨iv 46, .func (.func 194) #[] #[], 2⟩] 3)]) (fun x => []) := by
 refine con_of_J (n := 3) Tryz.func141 rfl (by kernel_rfl) rfl rfl [] trivial fun X hX hr hD => ?_
 replace hR := (osc_prints.eq_1 ..).symm.trans hR
 refine sr 1 rfl ?_
 refine ip 1 0 [] (by kernel_rfl) ?_
 refine ie ?_
 refine sr 6 rfl ?_
 refine it rfl (tri_makeMap rfl) fun b1 => ?_
 refine it rfl (tri_insert (⟨by kernel_rfl, by kernel_rfl, rfl⟩ : MapTy Tryz.prog 207 3 99 (.int .i64)) (.inl rfl) rfl rfl rfl 0 rfl (by kernel_rfl) rfl) fun _ => ?_
 refine it rfl (tri_insert (⟨by kernel_rfl, by kernel_rfl, rfl⟩ : MapTy Tryz.prog 207 3 99 (.int .i64)) (.inl rfl) rfl rfl rfl 0 rfl (by kernel_rfl) rfl) fun _ => ?_
 refine it rfl (tri_insert (⟨by kernel_rfl, by kernel_rfl, rfl⟩ : MapTy Tryz.prog 207 3 99 (.int .i64)) (.inl rfl) rfl rfl rfl 0 rfl (by kernel_rfl) rfl) fun _ => ?_
 refine ip 2 0 [(0, .map (some b1))] (by kernel_rfl) ?_
 refine ie ?_
 refine J_ret ?_
 subst hR
 exact ends_ret rfl ⟨hr, hD⟩ (by simp [hD]) (res1 rfl (resV_tmp rfl)) b1 (by rfl) (mk [true] rfl) Foll.nil

def osc_Print_1 (p0n : Int) (p0m : Int) (p0color : Col) (p0text : List UInt8) : Option (List UInt8) :=
 (Option.bind (osc_must true) fun (r : Unit) => (Option.bind (osc_prints_1 (⟨44, p0n, p0m, p0color, p0text⟩ : Act)) fun (r1 : List UInt8) => (some r1)))

theorem osc_Print_1_c (p0n : Int) (p0m : Int) (p0color : Col) (p0text : List UInt8) (p0p : Addr) (hs : p0text.length ≤ 100000000) (R : Option (List UInt8)) (hR : osc_Print_1 p0n p0m p0color p0text = R) : ConO Tryz.prog 140 [pa p0p] [] [at_ p0p (cAct (⟨44, p0n, p0m, p0color, p0text⟩ : Act))] nonePanic R (fun r => sv r) := by
 refine conO_of_J (n := 16) Tryz.func140 rfl (by kernel_rfl) rfl rfl [(0, pa p0p)] ⟨rfl, trivial⟩ fun X hX hr hD => ?_
 replace hR := (osc_Print_1.eq_1 ..).symm.trans hR
 refine sr 1 rfl ?_
 refine ip 1 0 [] (by kernel_rfl) ?_
 refine ie ?_
 refine sh 9 [] [at_ p0p (cAct (⟨44, p0n, p0m, p0color, p0text⟩ : Act))] [] #[false, false, false, false, false, false, false, false, false] (by kernel_rfl) rfl (by kernel_rfl) (by kernel_rfl) (by kernel_rfl) (mk [] rfl) Foll.refl ?_
 refine hpur [1] 8 #[false, true, false, false, false, false, false, false, false] [(6, pa p0p)] (by kernel_rfl) ?_
 refine htak 2 [] #[false, true, true, false, false, false, false, false, false] rfl rfl rfl (by kernel_rfl) (by kernel_rfl) (by kernel_rfl) (det_ld_one (v := iv 44) (us := [iv 44]) ty3 rfl rfl (at_part0 (at_of 0 rfl) (ws := [iv 44]) 1 rfl) rfl) ?_
 refine hone 0 [] #[true, true, true, false, false, false, false, false, false] rfl rfl rfl (by kernel_rfl) (by kernel_rfl) (by kernel_rfl) (tri_callN (L2 := []) (osc_prints_c _ rfl) rfl rfl rfl rfl rfl Foll.nil (List.Perm.refl _) (fun b1 => [(b1, .map #[⟨iv 44, .func (.func 188) #[] #[], 0⟩, ⟨iv 45, .func (.func 191) #[] #[], 1⟩, ⟨iv 46, .func (.func 194) #[] #[], 2⟩] 3)]) (fun _ => rfl)) (fun b1 => (mk [false] rfl)) (fun b1 => Foll.refl) fun b1 => ?_
 refine hone 3 [] #[true, true, true, true, false, false, false, false, false] rfl rfl rfl (by kernel_rfl) (by kernel_rfl) (by kernel_rfl) (Det.tri (DetR.det (det_lookup (v := .func (.func 188) #[] #[]) (j := 0) (⟨by kernel_rfl, by kernel_rfl, rfl⟩ : MapTy Tryz.prog 207 3 99 (.int .i64)) rfl rfl rfl 0 rfl (by kernel_rfl)))) (fun _ => (mk [false] rfl)) (fun _ => Foll.refl) fun _ => ?_
 refine hpur [4, 5, 6, 7, 8] 0 #[true, true, true, true, true, true, true, true, true] [(2, .func (.func 188) #[] #[]), (3, bv true)] (by kernel_rfl) ?_
 refine hend (by kernel_rfl) ?_
 refine sr 2 rfl ?_
 refine ip 1 1 [(11, bv true)] (by kernel_rfl) ?_
 refine JI_callO (L2 := [(b1, .map #[⟨iv 44, .func (.func 188) #[] #[], 0⟩, ⟨iv 45, .func (.func 191) #[] #[], 1⟩, ⟨iv 46, .func (.func 194) #[] #[], 2⟩] 3)]) (osc_must_c true _ rfl) rfl rfl rfl rfl rfl rfl Foll.nil (List.Perm.refl _) (fun r hs2 => ?_) (fun hn3 => ?_)
 ·replace hR := bindS hR hs2
  refine ie ?_
  refine sr 4 rfl ?_
  refine ip 1 3 [(13, .func (.func 188) #[] #[])] (by kernel_rfl) ?_
  refine ix rfl (det_ld_agg (us := cAct (⟨44, p0n, p0m, p0color, p0text⟩ : Act)) ty26 rfl rfl (at_of 0 rfl) rfl) ?_
  refine JI_callO (L2 := [(b1, .map #[⟨iv 44, .func (.func 188) #[] #[], 0⟩, ⟨iv 45, .func (.func 191) #[] #[], 1⟩, ⟨iv 46, .func (.func 194) #[] #[], 2⟩] 3)]) (osc_prints_1_c (⟨44, p0n, p0m, p0color, p0text⟩ : Act) (by first | omega | (dsimp only; omega)) _ rfl) rfl rfl rfl rfl rfl rfl Foll.nil (List.Perm.refl _) (fun r1 hs4 => ?_) (fun hn5 => ?_)
  ·replace hR := bindS hR hs4
   refine ip 1 0 [(1, sv r1)] (by kernel_rfl) ?_
   refine ie ?_
   refine J_ret ?_
   exact endsO_ret rfl ⟨hr, hD⟩ (by simp [hD]) (res1 rfl (resV_tmp rfl)) hR.symm rfl
  ·replace hR := bindN hR hn5
   exact endsO_panic ⟨hr, hD⟩ hR.symm
 ·replace hR := bindN hR hn3
  exact endsO_panic ⟨hr, hD⟩ hR.symm

def osc_Print (an : Int) (am : Int) (acolor : Col) (atext : List UInt8) : List UInt8 × Int :=
 (bif (!((doneV (osc_Print_1 an am acolor atext)).2)) then (([] : List UInt8), 2) else ((doneV (osc_Print_1 an am acolor atext)).1, 0))

theorem osc_Print_c (an : Int) (am : Int) (acolor : Col) (atext : List UInt8) (hs : atext.length ≤ 100000000) (R : List UInt8 × Int) (hR : osc_Print an am acolor atext = R) : ConV Tryz.prog 88 [ag (cAct (⟨44, an, am, acolor, atext⟩ : Act))] [] (.tuple #[sv R.1, iv R.2]) := by
 refine con_of_J (n := 14) Tryz.func88 rfl (by kernel_rfl) rfl rfl [(0, ag (cAct (⟨44, an, am, acolor, atext⟩ : Act)))] ⟨rfl, trivial⟩ fun X hX hr hD => ?_
 replace hR := (osc_Print.eq_1 ..).symm.trans hR
 refine sr 3 rfl ?_
 refine it rfl (tri_box (cs := cAct (⟨44, an, am, acolor, atext⟩ : Act)) rfl rfl rfl) fun b1 => ?_
 refine JI_fix 0 rfl ?_
 refine ip 2 0 [] (by kernel_rfl) ?_
 refine ie ?_
 refine sr 7 rfl ?_
 refine ip 1 6 [(7, .func (.func 140) #[] #[pa ⟨b1, 0, none⟩])] (by kernel_rfl) ?_
 refine ixc rfl (det_call (done_c (cap := [pa ⟨b1, 0, none⟩]) _ (osc_Print_1_c an am acolor atext ⟨b1, 0, none⟩ (by omega) _ rfl)) rfl rfl rfl rfl rfl Foll.refl) ?_
 refine ip 5 0 [(4, sv ((doneV (osc_Print_1 an am acolor atext)).1)), (5, bv ((doneV (osc_Print_1 an am acolor atext)).2))] (by kernel_rfl) ?_
 refine ie ?_
 refine J_seq ?_
 refine sr 2 rfl ?_
 refine ip 2 0 [(12, bv (!((doneV (osc_Print_1 an am acolor atext)).2)))] (by kernel_rfl) ?_
 refine ie ?_
 refine J_if rfl (fun h2 => ?_) (fun h2 => ?_)
 ·replace hR := bt hR h2
  refine sr 2 rfl ?_
  refine ip 2 0 [(2, sv ([] : List UInt8)), (3, iv 2)] (by kernel_rfl) ?_
  refine ie ?_
  refine J_ret ?_
  subst hR
  exact ends_ret rfl ⟨hr, hD⟩ (by simp [hD]) (res2 rfl (resV_tmp rfl) (resV_tmp rfl)) () (by rfl) (mk [] rfl) Foll.nil
 ·replace hR := bf hR h2
  refine J_skip ?_
  refine nx ?_
  refine sr 3 rfl ?_
  refine ip 3 0 [(2, sv ((doneV (osc_Print_1 an am acolor atext)).1)), (3, iv 0)] (by kernel_rfl) ?_
  refine ie ?_
  refine J_ret ?_
  subst hR
  exact ends_ret rfl ⟨hr, hD⟩ (by simp [hD]) (res2 rfl (resV_tmp rfl) (resV_tmp rfl)) () (by rfl) (mk [] rfl) Foll.nil

def action_Check (an : Int) (am : Int) (acolor : Col) (atext : List UInt8) : Int :=
 (bindV (osc_Print an am acolor atext) fun (y1 : List UInt8 × Int) => (bif (!decide (y1.2 = 0)) then 200 else 0))

theorem action_Check_c (an : Int) (am : Int) (acolor : Col) (atext : List UInt8) (hs : atext.length ≤ 100000000) (R : Int) (hR : action_Check an am acolor atext = R) : ConV Tryz.prog 52 [ag (cAct (⟨44, an, am, acolor, atext⟩ : Act))] [] (iv R) := by
 refine con_of_J (n := 74) Tryz.func52 rfl (by kernel_rfl) rfl rfl [(0, ag (cAct (⟨44, an, am, acolor, atext⟩ : Act)))] ⟨rfl, trivial⟩ fun X hX hr hD => ?_
 replace hR := (action_Check.eq_1 ..).symm.trans hR
 refine sr 2 rfl ?_
 refine it rfl (tri_box (cs := cAct (⟨44, an, am, acolor, atext⟩ : Act)) rfl rfl rfl) fun b1 => ?_
 refine ip 1 0 [] (by kernel_rfl) ?_
 refine ie ?_
 refine sr 1 rfl ?_
 refine ip 1 0 [(3, iv 0)] (by kernel_rfl) ?_
 refine ie ?_
 refine J_seq ?_
 refine sr 2 rfl ?_
 refine ip 1 1 [(6, pt b1 0)] (by kernel_rfl) ?_
 refine ix rfl (det_own_one (v := iv 44) ty3 rfl rfl 0 rfl rfl) ?_
 refine ie ?_
 refine J_block ?_
 refine sr 2 rfl ?_
 refine ip 2 0 [(44, bv false)] (by kernel_rfl) ?_
 refine ie ?_
 refine J_no rfl ?_
 refine sr 2 rfl ?_
 refine ip 2 0 [(59, bv false)] (by kernel_rfl) ?_
 refine ie ?_
 refine J_no rfl ?_
 refine J_seq ?_
 refine sr 2 rfl ?_
 refine ip 2 0 [(63, bv true)] (by kernel_rfl) ?_
 refine ie ?_
 refine J_yes rfl ?_
 refine J_skip ?_
 refine nx ?_
 refine J_yes rfl ?_
 refine J_region 6 rfl ?_
 refine ix rfl (det_own_agg (us := cAct (⟨44, an, am, acolor, atext⟩ : Act)) ty26 rfl rfl 0 rfl rfl rfl) ?_
 have hQ := bindVx hR; clear hR; obtain ⟨y1, hy1, hR⟩ := hQ
 refine ixc rfl (det_call (osc_Print_c an am acolor atext (by first | omega | (simp <;> omega)) y1 hy1) rfl rfl rfl rfl rfl Foll.nil) ?_
 refine ip 4 0 [(3, iv y1.2)] (by kernel_rfl) ?_
 refine JI_end ?_
 refine nx ?_
 refine J_seq ?_
 refine sr 2 rfl ?_
 refine ip 2 0 [(73, bv (!decide (y1.2 = 0)))] (by kernel_rfl) ?_
 refine ie ?_
 refine J_if rfl (fun h2 => ?_) (fun h2 => ?_)
 ·have h2p : ¬ y1.2 = 0 := by simpa using h2
  replace hR := bt hR h2
  refine sr 1 rfl ?_
  refine ip 1 0 [(2, iv 200)] (by kernel_rfl) ?_
  refine ie ?_
  refine J_ret ?_
  subst hR
  exact ends_ret rfl ⟨hr, hD⟩ (by simp [hD]) (res1 rfl (resV_tmp rfl)) () (by rfl) (mk [false] rfl) Foll.nil
 ·have h2p : ¬ (¬ y1.2 = 0) := by simpa using h2
  replace hR := bf hR h2
  refine J_skip ?_
  refine nx ?_
  refine sr 1 rfl ?_
  refine ip 1 0 [(2, iv 0)] (by kernel_rfl) ?_
  refine ie ?_
  refine J_ret ?_
  subst hR
  exact ends_ret rfl ⟨hr, hD⟩ (by simp [hD]) (res1 rfl (resV_tmp rfl)) () (by rfl) (mk [false] rfl) Foll.nil

def row_half (c : Cel) : Bool :=
 (decide (c = { Cel.zero with wide := 2, sty := c.sty }))

theorem row_half_c (c : Cel) (R : Bool) (hR : row_half c = R) : ConV Tryz.prog 172 [ag (cCel c)] [] (bv R) := by
 refine con_of_J (n := 8) Tryz.func172 rfl (by kernel_rfl) rfl rfl [(0, ag (cCel c))] ⟨rfl, trivial⟩ fun X hX hr hD => ?_
 replace hR := (row_half.eq_1 ..).symm.trans hR
 refine sr 2 rfl ?_
 refine it rfl (tri_box (cs := cCel c) rfl rfl rfl) fun b1 => ?_
 refine ip 1 0 [] (by kernel_rfl) ?_
 refine ie ?_
 refine sr 6 rfl ?_
 refine ix rfl (det_own_agg (us := cCel c) ty72 rfl rfl 0 rfl rfl rfl) ?_
 refine ip 1 4 [(4, pt b1 4)] (by kernel_rfl) ?_
 refine ix rfl (det_own_agg (us := cSty c.sty) ty70 rfl rfl 0 rfl rfl rfl) ?_
 refine ix rfl (det_build (cs := cCel ({ Cel.zero with wide := 2, sty := c.sty })) rfl rfl (by kernel_rfl)) ?_
 refine ix rfl (det_eqs (a := c) (b := { Cel.zero with wide := 2, sty := c.sty }) eqt72 rfl rfl rfl) ?_
 refine ip 1 0 [(2, bv (decide (c = { Cel.zero with wide := 2, sty := c.sty })))] (by kernel_rfl) ?_
 refine ie ?_
 refine J_ret ?_
 subst hR
 exact ends_ret rfl ⟨hr, hD⟩ (by simp [hD]) (res1 rfl (resV_tmp rfl)) () (by rfl) (mk [false] rfl) Foll.nil

def width_in_l0 (cp : Int) : List Spn → Nat → Bool
 | [], t9 => false
 | hd_l0 :: tl_l0, t9 => (bif ((decide (hd_l0.lo ≤ cp)) && (decide (cp ≤ hd_l0.hi))) then true else width_in_l0 cp tl_l0 (t9 + 1))
def width_in (cp : Int) (l : List Spn) : Bool :=
 width_in_l0 cp l 0

theorem width_in_c (cp : Int) (l : List Spn) (lq : Option Addr) (lk : Nat) (hll : l.length ≤ 9223372036854775807) (hcl : l.length ≤ lk) (R : Bool) (hR : width_in cp l = R) : ConV Tryz.prog 137 [iv cp, .slice lq l.length lk] [sl cSpn lq l] (bv R) := by
 refine con_of_J (n := 24) Tryz.func137 rfl (by kernel_rfl) rfl rfl [(0, iv cp), (1, .slice lq l.length lk)] ⟨rfl, rfl, trivial⟩ fun X hX hr hD => ?_
 replace hR := (width_in.eq_1 ..).symm.trans hR
 refine sr 1 rfl ?_
 refine ip 1 0 [] (by kernel_rfl) ?_
 refine ie ?_
 refine J_seq ?_
 refine sr 3 rfl ?_
 refine ip 3 0 [(7, .slice lq l.length lk), (8, iv (l.length : Int)), (9, iv 0)] (by kernel_rfl) ?_
 refine ie ?_
 refine J_block ?_
 refine JL1 (fun (t9 : Nat) => t9 ≤ l.length ∧ width_in_l0 cp (l.drop t9) t9 = R) (fun (t9 : Nat) => [(0, iv cp), (7, .slice lq l.length lk), (8, iv (l.length : Int)), (9, iv (t9 : Int))]) (fun (t9 : Nat) => []) (fun (t9 : Nat) => [sl cSpn lq l]) (fun (t9 : Nat) => l.length - t9) 0 ⟨(by omega), hR⟩ ⟨rfl, rfl, rfl, (by first | rfl | (simp only [List.length_set]; rfl) | (simp; done) | (simp; omega)), trivial⟩ (mk [] rfl) Foll.refl ?_
 rintro t9 ⟨hm1, hR⟩
 refine sr 1 rfl ?_
 refine ip 1 0 [(10, bv (decide ((t9 : Int) < (l.length : Int))))] (by kernel_rfl) ?_
 refine ie ?_
 refine J_seq ?_
 refine J_if rfl (fun h2 => ?_) (fun h2 => ?_)
 ·have h2p : (t9 : Int) < (l.length : Int) := by simpa using h2
  rw [dropc Spn.zero (show t9 < l.length by omega)] at hR; replace hR := (width_in_l0.eq_2 ..).symm.trans hR
  refine J_skip ?_
  refine nx ?_
  refine J_seq ?_
  refine J_block ?_
  refine sr 4 rfl ?_
  refine JI_base 0 rfl (by omega) fun a3 hq4 => ?_
  refine ix rfl (det_ixq slt196 rfl rfl hq4 rfl t9 rfl (by omega)) ?_
  refine ix rfl (det_ld_agg (us := cSpn (l.getD t9 Spn.zero)) ty194 rfl rfl (at_slq (c := cSpn) (sz := 2) hq4 (fun _ => rfl) 0 rfl (gd Spn.zero (by omega))) rfl) ?_
  refine it rfl (tri_alloc (cs := cSpn Spn.zero) zero194 rfl) fun b5 => ?_
  refine it rfl (tri_store (us := cSpn (l.getD t9 Spn.zero)) (cs' := cSpn (l.getD t9 Spn.zero)) ty194 rfl rfl rfl 0 rfl rfl rfl rfl rfl rfl) fun _ => ?_
  refine ie ?_
  refine sr 10 rfl ?_
  refine ip 2 8 [(13, iv cp), (14, pt b5 0)] (by kernel_rfl) ?_
  refine ix rfl (det_own_one (v := iv ((l.getD t9 Spn.zero).lo)) ty3 rfl rfl 0 rfl rfl) ?_
  refine ip 2 5 [(17, bv (decide ((l.getD t9 Spn.zero).lo ≤ cp)))] (by kernel_rfl) ?_
  refine iand 5 0 17 22 (decide (cp ≤ (l.getD t9 Spn.zero).hi)) rfl (by kernel_rfl) (fun g6 => ?_) ?_
  ·have g6p : (l.getD t9 Spn.zero).lo ≤ cp := by simpa using g6
   refine ip 2 3 [(18, iv cp), (19, pt b5 1)] (by kernel_rfl) ?_
   refine ix rfl (det_own_one (v := iv ((l.getD t9 Spn.zero).hi)) ty3 rfl rfl 0 rfl rfl) ?_
   refine ip 2 0 [(22, bv (decide (cp ≤ (l.getD t9 Spn.zero).hi)))] (by kernel_rfl) ?_
   exact JI_end (armI 5 17 22 g6 Foll.refl (mk [true] rfl) rfl rfl rfl rfl rfl)
  refine ie ?_
  refine J_if rfl (fun h7 => ?_) (fun h7 => ?_)
  ·have h7p : ((l.getD t9 Spn.zero).lo ≤ cp) ∧ (cp ≤ (l.getD t9 Spn.zero).hi) := by simpa using h7
   replace hR := bt hR h7
   refine sr 1 rfl ?_
   refine ip 1 0 [(4, bv true)] (by kernel_rfl) ?_
   refine ie ?_
   refine J_ret ?_
   subst hR
   exact ends_ret rfl ⟨hr, hD⟩ (by simp [hD]) (res1 rfl (resV_tmp rfl)) () (by rfl) (mk [false] rfl) Foll.nil
  ·have h7p : ¬ (((l.getD t9 Spn.zero).lo ≤ cp) ∧ (cp ≤ (l.getD t9 Spn.zero).hi)) := by simpa using h7
   replace hR := bf hR h7
   refine J_skip ?_
   refine nx ?_
   refine J_region 2 rfl ?_
   refine ix rfl (det_add64 rfl rfl rfl rfl (by omega)) ?_
   refine ip 1 0 [(9, iv ((t9 : Int) + 1))] (by kernel_rfl) ?_
   refine JI_end ?_
   exact againL1 (z1 := t9) (t9 + 1) ⟨(by omega), hR⟩ (by (try dsimp only); omega) ⟨rfl, rfl, rfl, (by first | rfl | (simp only [List.length_set]; rfl) | (simp; done) | (simp; omega)), trivial⟩ (mk [false] rfl) Foll.refl
 ·have h2p : ¬ ((t9 : Int) < (l.length : Int)) := by simpa using h2
  rw [dropn h2p] at hR; replace hR := (width_in_l0.eq_1 ..).symm.trans hR
  refine J_exit ?_
  refine nx ?_
  refine sr 1 rfl ?_
  refine ip 1 0 [(4, bv false)] (by kernel_rfl) ?_
  refine ie ?_
  refine J_ret ?_
  subst hR
  exact ends_ret rfl ⟨hr, hD⟩ (by simp [hD]) (res1 rfl (resV_tmp rfl)) () (by rfl) (mk [] rfl) Foll.nil

def width_Of (cp : Int) : Int :=
 (bif ((!(utf_Check cp)) || (width_in cp ([{ Spn.zero with lo := 0, hi := 31 }, { Spn.zero with lo := 127, hi := 159 }] : List Spn))) then (-1) else (bif (decide (cp < (tab0.getD 0 Spn.zero).lo)) then 1 else (bif (width_in cp tab0) then 0 else (bif (width_in cp tab1) then 2 else 1))))

theorem width_Of_c (cp : Int) (R : Int) (hR : width_Of cp = R) : ConV Tryz.prog 85 [iv cp] [sl cSpn (some ⟨0, 0, none⟩) tab0, sl cSpn (some ⟨1, 0, none⟩) tab1] (iv R) := by
 refine con_of_J (n := 28) Tryz.func85 rfl (by kernel_rfl) rfl rfl [(0, iv cp)] ⟨rfl, trivial⟩ fun X hX hr hD => ?_
 replace hR := (width_Of.eq_1 ..).symm.trans hR
 refine sr 1 rfl ?_
 refine ip 1 0 [] (by kernel_rfl) ?_
 refine ie ?_
 refine J_seq ?_
 refine J_block ?_
 refine sr 11 rfl ?_
 refine ip 1 10 [(4, iv cp)] (by kernel_rfl) ?_
 refine ixc rfl (det_call (utf_Check_c cp _ rfl) rfl rfl rfl rfl rfl Foll.nil) ?_
 refine ip 2 7 [(7, bv (!(utf_Check cp)))] (by kernel_rfl) ?_
 refine ior 6 1 7 13 (width_in cp ([{ Spn.zero with lo := 0, hi := 31 }, { Spn.zero with lo := 127, hi := 159 }] : List Spn)) rfl (by kernel_rfl) (fun g1 => ?_) ?_
 ·refine ip 1 5 [(8, iv cp)] (by kernel_rfl) ?_
  refine ix rfl (det_build (cs := cSpn ({ Spn.zero with lo := 0, hi := 31 })) rfl rfl (by kernel_rfl)) ?_
  refine ix rfl (det_build (cs := cSpn ({ Spn.zero with lo := 127, hi := 159 })) rfl rfl (by kernel_rfl)) ?_
  refine it rfl (tri_buildSl (c := cSpn) (xs := ([{ Spn.zero with lo := 0, hi := 31 }, { Spn.zero with lo := 127, hi := 159 }] : List Spn)) slt196 rfl rfl rfl (by kernel_rfl)) fun b2 => ?_
  have : ([{ Spn.zero with lo := 0, hi := 31 }, { Spn.zero with lo := 127, hi := 159 }] : List Spn).length = 2 := rfl
  refine ixc rfl (det_call (width_in_c cp ([{ Spn.zero with lo := 0, hi := 31 }, { Spn.zero with lo := 127, hi := 159 }] : List Spn) (some ⟨b2, 0, none⟩) 2 (by first | omega | (simp <;> omega) | (dsimp only; omega) | decide) (by first | omega | (simp <;> omega) | (dsimp only; omega) | decide) _ rfl) rfl rfl rfl rfl rfl (Foll.pick [0] rfl)) ?_
  refine ip 1 0 [(13, bv (width_in cp ([{ Spn.zero with lo := 0, hi := 31 }, { Spn.zero with lo := 127, hi := 159 }] : List Spn)))] (by kernel_rfl) ?_
  exact JI_end (armI 7 7 13 g1 (Foll.pick [1, 2] rfl) (mk [] rfl) rfl rfl rfl rfl rfl)
 refine ip 1 0 [(3, bv ((!(utf_Check cp)) || (width_in cp ([{ Spn.zero with lo := 0, hi := 31 }, { Spn.zero with lo := 127, hi := 159 }] : List Spn))))] (by kernel_rfl) ?_
 refine ie ?_
 refine J_if rfl (fun h3 => ?_) (fun h3 => ?_)
 ·have h3p := h3; try simp at h3p
  replace hR := bt hR h3
  refine sr 1 rfl ?_
  refine ip 1 0 [(2, iv (-1))] (by kernel_rfl) ?_
  refine ie ?_
  refine J_ret ?_
  subst hR
  exact ends_ret rfl ⟨hr, hD⟩ (by simp [hD]) (res1 rfl (resV_tmp rfl)) () (by rfl) (mk [] rfl) Foll.nil
 ·have h3p := h3; try simp at h3p
  replace hR := bf hR h3
  refine sr 6 rfl ?_
  refine ip 1 5 [(15, iv cp)] (by kernel_rfl) ?_
  refine ix rfl (det_ix_arr Tryz.underlying195 ty194 rfl rfl rfl 0 rfl (by first | decide | omega)) ?_
  refine ip 1 3 [(17, pa (Addr.add ⟨0, 0, none⟩ (0 * 2)))] (by kernel_rfl) ?_
  refine ix rfl (det_ld_one (v := iv ((tab0.getD 0 Spn.zero).lo)) (us := [iv ((tab0.getD 0 Spn.zero).lo)]) ty3 rfl rfl (at_part0 (at_slq (c := cSpn) (sz := 2) rfl (fun _ => rfl) 0 rfl (gd Spn.zero (by first | decide | (simp only [tab0, List.length_cons, List.length_nil]; omega)))) (ws := [iv ((tab0.getD 0 Spn.zero).lo)]) 1 rfl) rfl) ?_
  refine ip 2 0 [(14, bv (decide (cp < (tab0.getD 0 Spn.zero).lo)))] (by kernel_rfl) ?_
  refine ie ?_
  refine J_if rfl (fun h4 => ?_) (fun h4 => ?_)
  ·have h4p : cp < (tab0.getD 0 Spn.zero).lo := by simpa using h4
   replace hR := bt hR h4
   refine sr 1 rfl ?_
   refine ip 1 0 [(2, iv 1)] (by kernel_rfl) ?_
   refine ie ?_
   refine J_ret ?_
   subst hR
   exact ends_ret rfl ⟨hr, hD⟩ (by simp [hD]) (res1 rfl (resV_tmp rfl)) () (by rfl) (mk [] rfl) Foll.nil
  ·have h4p : ¬ (cp < (tab0.getD 0 Spn.zero).lo) := by simpa using h4
   replace hR := bf hR h4
   refine sr 4 rfl ?_
   refine ip 1 3 [(21, iv cp)] (by kernel_rfl) ?_
   refine ix rfl (det_sl_arr Tryz.underlying195 ty194 rfl rfl) ?_
   refine ixc rfl (det_call (width_in_c cp tab0 (some ⟨0, 0, none⟩) 11 (by first | omega | (simp <;> omega) | (dsimp only; omega) | decide) (by first | omega | (simp <;> omega) | (dsimp only; omega) | decide) _ rfl) rfl rfl rfl rfl rfl (Foll.pick [0] rfl)) ?_
   refine ip 1 0 [(20, bv (width_in cp tab0))] (by kernel_rfl) ?_
   refine ie ?_
   refine J_if rfl (fun h5 => ?_) (fun h5 => ?_)
   ·replace hR := bt hR h5
    refine sr 1 rfl ?_
    refine ip 1 0 [(2, iv 0)] (by kernel_rfl) ?_
    refine ie ?_
    refine J_ret ?_
    subst hR
    exact ends_ret rfl ⟨hr, hD⟩ (by simp [hD]) (res1 rfl (resV_tmp rfl)) () (by rfl) (mk [] rfl) Foll.nil
   ·replace hR := bf hR h5
    refine sr 4 rfl ?_
    refine ip 1 3 [(25, iv cp)] (by kernel_rfl) ?_
    refine ix rfl (det_sl_arr Tryz.underlying197 ty194 rfl rfl) ?_
    refine ixc rfl (det_call (width_in_c cp tab1 (some ⟨1, 0, none⟩) 13 (by first | omega | (simp <;> omega) | (dsimp only; omega) | decide) (by first | omega | (simp <;> omega) | (dsimp only; omega) | decide) _ rfl) rfl rfl rfl rfl rfl (Foll.pick [1] rfl)) ?_
    refine ip 1 0 [(24, bv (width_in cp tab1))] (by kernel_rfl) ?_
    refine ie ?_
    refine J_if rfl (fun h6 => ?_) (fun h6 => ?_)
    ·replace hR := bt hR h6
     refine sr 1 rfl ?_
     refine ip 1 0 [(2, iv 2)] (by kernel_rfl) ?_
     refine ie ?_
     refine J_ret ?_
     subst hR
     exact ends_ret rfl ⟨hr, hD⟩ (by simp [hD]) (res1 rfl (resV_tmp rfl)) () (by rfl) (mk [] rfl) Foll.nil
    ·replace hR := bf hR h6
     refine J_skip ?_
     refine nx ?_
     refine sr 1 rfl ?_
     refine ip 1 0 [(2, iv 1)] (by kernel_rfl) ?_
     refine ie ?_
     refine J_ret ?_
     subst hR
     exact ends_ret rfl ⟨hr, hD⟩ (by simp [hD]) (res1 rfl (resV_tmp rfl)) () (by rfl) (mk [] rfl) Foll.nil

def row_marked (l : Ar2) : Bool :=
 (bif ((!decide (l.a = 0)) && (!decide ((width_Of l.a) = 0))) then false else (bif ((!decide (l.b = 0)) && ((decide (l.a = 0)) || (!decide ((width_Of l.b) = 0)))) then false else true))

theorem row_marked_c (l : Ar2) (R : Bool) (hR : row_marked l = R) : ConV Tryz.prog 173 [ag (cAr2 l)] [sl cSpn (some ⟨0, 0, none⟩) tab0, sl cSpn (some ⟨1, 0, none⟩) tab1] (bv R) := by
 refine con_of_J (n := 26) Tryz.func173 rfl (by kernel_rfl) rfl rfl [(0, ag (cAr2 l))] ⟨rfl, trivial⟩ fun X hX hr hD => ?_
 replace hR := (row_marked.eq_1 ..).symm.trans hR
 refine sr 2 rfl ?_
 refine it rfl (tri_box (cs := cAr2 l) rfl rfl rfl) fun b1 => ?_
 refine ip 1 0 [] (by kernel_rfl) ?_
 refine ie ?_
 refine sr 1 rfl ?_
 refine ip 1 0 [(3, bv false)] (by kernel_rfl) ?_
 refine ie ?_
 refine J_seq ?_
 refine sr 2 rfl ?_
 refine ix rfl (det_own_agg (us := cAr2 l) ty68 rfl rfl 0 rfl rfl rfl) ?_
 refine ip 1 0 [(7, iv 0)] (by kernel_rfl) ?_
 refine ie ?_
 refine J_block ?_
 refine J_rounds 4 ?_
 refine JR_succ ?_
 refine sr 1 rfl ?_
 refine ip 1 0 [(8, bv true)] (by kernel_rfl) ?_
 refine ie ?_
 refine J_seq ?_
 refine J_yes rfl ?_
 refine J_skip ?_
 refine nx ?_
 refine J_seq ?_
 refine J_block ?_
 refine sr 2 rfl ?_
 refine ix rfl (det_index (v := iv l.a) (us := [iv l.a]) Tryz.underlying68 ty3 rfl rfl rfl 0 rfl (by decide) rfl rfl rfl) ?_
 refine ip 1 0 [(5, iv l.a)] (by kernel_rfl) ?_
 refine ie ?_
 refine J_seq ?_
 refine sr 10 rfl ?_
 refine ip 3 7 [(12, bv (!decide (l.a = 0)))] (by kernel_rfl) ?_
 refine iand 7 0 12 19 (!decide ((width_Of l.a) = 0)) rfl (by kernel_rfl) (fun g2 => ?_) ?_
 ·have g2p : ¬ l.a = 0 := by simpa using g2
  refine ip 3 4 [(14, bv false), (15, iv l.a)] (by kernel_rfl) ?_
  refine ixc rfl (det_call (width_Of_c l.a _ rfl) rfl rfl rfl rfl rfl Foll.refl) ?_
  refine ip 3 0 [(19, bv (!decide ((width_Of l.a) = 0)))] (by kernel_rfl) ?_
  exact JI_end (armI 5 12 19 g2 Foll.refl (mk [true] rfl) rfl rfl rfl rfl rfl)
 refine ie ?_
 refine J_if rfl (fun h3 => ?_) (fun h3 => ?_)
 ·have h3p : (¬ l.a = 0) ∧ (¬ (width_Of l.a) = 0) := by simpa using h3
  replace hR := bt hR h3
  refine sr 1 rfl ?_
  refine ip 1 0 [(2, bv false)] (by kernel_rfl) ?_
  refine ie ?_
  refine J_ret ?_
  subst hR
  exact ends_ret rfl ⟨hr, hD⟩ (by simp [hD]) (res1 rfl (resV_tmp rfl)) () (by rfl) (mk [false] rfl) Foll.nil
 ·have h3p : ¬ ((¬ l.a = 0) ∧ (¬ (width_Of l.a) = 0)) := by simpa using h3
  replace hR := bf hR h3
  refine J_skip ?_
  refine nx ?_
  refine J_region 6 rfl ?_
  refine ip 6 0 [(3, bv (decide (l.a = 0)))] (by kernel_rfl) ?_
  refine JI_end ?_
  refine nx ?_
  refine J_region 2 rfl ?_
  refine ix rfl (det_add64 (c := 1) rfl rfl rfl rfl (by decide)) ?_
  refine ip 1 0 [(7, iv 1)] (by kernel_rfl) ?_
  refine JI_end ?_
  refine JR_succ ?_
  refine sr 1 rfl ?_
  refine ip 1 0 [(8, bv true)] (by kernel_rfl) ?_
  refine ie ?_
  refine J_seq ?_
  refine J_yes rfl ?_
  refine J_skip ?_
  refine nx ?_
  refine J_seq ?_
  refine J_block ?_
  refine sr 2 rfl ?_
  refine ix rfl (det_index (v := iv l.b) (us := [iv l.b]) Tryz.underlying68 ty3 rfl rfl rfl 1 rfl (by decide) rfl rfl rfl) ?_
  refine ip 1 0 [(5, iv l.b)] (by kernel_rfl) ?_
  refine ie ?_
  refine J_seq ?_
  refine sr 10 rfl ?_
  refine ip 3 7 [(12, bv (!decide (l.b = 0)))] (by kernel_rfl) ?_
  refine iand 7 0 12 19 ((decide (l.a = 0)) || (!decide ((width_Of l.b) = 0))) rfl (by kernel_rfl) (fun g4 => ?_) ?_
  ·have g4p : ¬ l.b = 0 := by simpa using g4
   refine ip 2 5 [(14, bv (decide (l.a = 0)))] (by kernel_rfl) ?_
   refine ior 4 1 14 18 (!decide ((width_Of l.b) = 0)) rfl (by kernel_rfl) (fun g5 => ?_) ?_
   ·have g5p : ¬ (l.a = 0) := by simpa using g5
    refine ip 1 3 [(15, iv l.b)] (by kernel_rfl) ?_
    refine ixc rfl (det_call (width_Of_c l.b _ rfl) rfl rfl rfl rfl rfl Foll.refl) ?_
    refine ip 2 0 [(18, bv (!decide ((width_Of l.b) = 0)))] (by kernel_rfl) ?_
    exact JI_end (armI 4 14 18 g5 Foll.refl (mk [true] rfl) rfl rfl rfl rfl rfl)
   refine ip 1 0 [(19, bv ((decide (l.a = 0)) || (!decide ((width_Of l.b) = 0))))] (by kernel_rfl) ?_
   exact JI_end (armI 4 12 19 g4 Foll.refl (mk [true] rfl) rfl rfl rfl rfl rfl)
  refine ie ?_
  refine J_if rfl (fun h6 => ?_) (fun h6 => ?_)
  ·have h6p : (¬ l.b = 0) ∧ ((l.a = 0) ∨ (¬ (width_Of l.b) = 0)) := by simpa using h6
   replace hR := bt hR h6
   refine sr 1 rfl ?_
   refine ip 1 0 [(2, bv false)] (by kernel_rfl) ?_
   refine ie ?_
   refine J_ret ?_
   subst hR
   exact ends_ret rfl ⟨hr, hD⟩ (by simp [hD]) (res1 rfl (resV_tmp rfl)) () (by rfl) (mk [false] rfl) Foll.nil
  ·have h6p : ¬ ((¬ l.b = 0) ∧ ((l.a = 0) ∨ (¬ (width_Of l.b) = 0))) := by simpa using h6
   replace hR := bf hR h6
   refine J_skip ?_
   refine nx ?_
   refine J_region 6 rfl ?_
   refine ip 2 4 [(21, bv (decide (l.a = 0)))] (by kernel_rfl) ?_
   refine ior 3 1 21 24 (decide (l.b = 0)) rfl (by kernel_rfl) (fun g7 => ?_) ?_
   ·have g7p : ¬ (l.a = 0) := by simpa using g7
    refine ip 3 0 [(24, bv (decide (l.b = 0)))] (by kernel_rfl) ?_
    exact JI_end (armI 2 21 24 g7 Foll.refl (mk [true] rfl) rfl rfl rfl rfl rfl)
   refine ip 1 0 [(3, bv ((decide (l.a = 0)) || (decide (l.b = 0))))] (by kernel_rfl) ?_
   refine JI_end ?_
   refine nx ?_
   refine J_region 2 rfl ?_
   refine ix rfl (det_add64 (c := 2) rfl rfl rfl rfl (by decide)) ?_
   refine ip 1 0 [(7, iv 2)] (by kernel_rfl) ?_
   refine JI_end ?_
   refine JR_succ ?_
   refine sr 1 rfl ?_
   refine ip 1 0 [(8, bv false)] (by kernel_rfl) ?_
   refine ie ?_
   refine J_seq ?_
   refine J_no rfl ?_
   refine J_exit ?_
   refine nx ?_
   refine sr 1 rfl ?_
   refine ip 1 0 [(2, bv true)] (by kernel_rfl) ?_
   refine ie ?_
   refine J_ret ?_
   subst hR
   exact ends_ret rfl ⟨hr, hD⟩ (by simp [hD]) (res1 rfl (resV_tmp rfl)) () (by rfl) (mk [false] rfl) Foll.nil

def color_limits : Ar3 :=
 { Ar3.zero with b := 255, c := 16777215 }

theorem color_limits_c (R : Ar3) (hR : color_limits = R) : ConV Tryz.prog 134 [] [] (ag (cAr3 R)) := by
 refine con_of_J (n := 2) Tryz.func134 rfl (by kernel_rfl) rfl rfl [] trivial fun X hX hr hD => ?_
 replace hR := (color_limits.eq_1 ..).symm.trans hR
 refine sr 1 rfl ?_
 refine it rfl (tri_alloc (cs := cAr3 Ar3.zero) zero189 rfl) fun b1 => ?_
 refine ie ?_
 refine sr 2 rfl ?_
 refine ix rfl (det_build (cs := cAr3 ({ Ar3.zero with b := 255, c := 16777215 })) rfl rfl (by kernel_rfl)) ?_
 refine it rfl (tri_store (us := cAr3 ({ Ar3.zero with b := 255, c := 16777215 })) (cs' := cAr3 ({ Ar3.zero with b := 255, c := 16777215 })) ty189 rfl rfl rfl 0 rfl rfl rfl rfl rfl rfl) fun _ => ?_
 refine ie ?_
 refine J_ret ?_
 subst hR
 exact ends_ret rfl ⟨hr, hD⟩ (by simp [hD]) (res1 rfl (resV_cell (us := cAr3 ({ Ar3.zero with b := 255, c := 16777215 })) ty189 rfl 0 rfl rfl rfl)) () (by rfl) (mk [false] rfl) Foll.nil

def color_Check (c : Col) : Int :=
 (bif ((((decide (c.kind < 0)) || (decide ((3 : Int) ≤ c.kind))) || (decide (c.n < 0))) || (decide ((([color_limits.a, color_limits.b, color_limits.c] : List Int).getD ((c.kind).toNat) 0) < c.n))) then 130 else 0)

theorem color_Check_c (c : Col) (R : Int) (hR : color_Check c = R) : ConV Tryz.prog 81 [ag (cCol c)] [] (iv R) := by
 refine con_of_J (n := 27) Tryz.func81 rfl (by kernel_rfl) rfl rfl [(0, ag (cCol c))] ⟨rfl, trivial⟩ fun X hX hr hD => ?_
 replace hR := (color_Check.eq_1 ..).symm.trans hR
 refine sr 2 rfl ?_
 refine it rfl (tri_box (cs := cCol c) rfl rfl rfl) fun b1 => ?_
 refine ip 1 0 [] (by kernel_rfl) ?_
 refine ie ?_
 refine J_seq ?_
 refine sr 3 rfl ?_
 refine ixc rfl (det_call (color_limits_c _ rfl) rfl rfl rfl rfl rfl Foll.nil) ?_
 refine it rfl (tri_alloc (cs := cAr3 Ar3.zero) zero189 rfl) fun b2 => ?_
 refine it rfl (tri_store (us := cAr3 color_limits) (cs' := cAr3 color_limits) ty189 rfl rfl rfl 0 rfl rfl rfl rfl rfl rfl) fun _ => ?_
 refine ie ?_
 refine sd 22 rfl (by kernel_rfl) rfl ?_
 refine dp 1 21 [(5, pt b1 0)] (by kernel_rfl) ?_
 refine dd rfl (det_own_one (v := iv c.kind) ty3 rfl rfl 1 rfl rfl) ?_
 refine dp 2 18 [(8, bv (decide (c.kind < 0)))] (by kernel_rfl) ?_
 refine dor 4 14 8 12 (decide ((3 : Int) ≤ c.kind)) rfl (by kernel_rfl) (fun g3 => ?_) ?_
 ·have g3p : ¬ (c.kind < 0) := by simpa using g3
  refine dp 1 3 [(9, pt b1 0)] (by kernel_rfl) ?_
  refine dd rfl (det_own_one (v := iv c.kind) ty3 rfl rfl 1 rfl rfl) ?_
  refine dp 2 0 [(12, bv (decide ((3 : Int) ≤ c.kind)))] (by kernel_rfl) ?_
  exact JD_end (armD 4 8 12 g3 rfl rfl rfl rfl rfl)
 refine dp 1 13 [(13, bv ((decide (c.kind < 0)) || (decide ((3 : Int) ≤ c.kind))))] (by kernel_rfl) ?_
 refine dor 4 9 13 17 (decide (c.n < 0)) rfl (by kernel_rfl) (fun g4 => ?_) ?_
 ·have g4p : ¬ ((c.kind < 0) ∨ ((3 : Int) ≤ c.kind)) := by simpa using g4
  refine dp 1 3 [(14, pt b1 1)] (by kernel_rfl) ?_
  refine dd rfl (det_own_one (v := iv c.n) ty3 rfl rfl 1 rfl rfl) ?_
  refine dp 2 0 [(17, bv (decide (c.n < 0)))] (by kernel_rfl) ?_
  exact JD_end (armD 4 13 17 g4 rfl rfl rfl rfl rfl)
 refine dp 1 8 [(18, bv (((decide (c.kind < 0)) || (decide ((3 : Int) ≤ c.kind))) || (decide (c.n < 0))))] (by kernel_rfl) ?_
 refine dor 8 0 18 26 (decide ((([color_limits.a, color_limits.b, color_limits.c] : List Int).getD ((c.kind).toNat) 0) < c.n)) rfl (by kernel_rfl) (fun g5 => ?_) ?_
 ·have g5p : ¬ (((c.kind < 0) ∨ ((3 : Int) ≤ c.kind)) ∨ (c.n < 0)) := by simpa using g5
  refine dp 1 7 [(19, pt b1 1)] (by kernel_rfl) ?_
  refine dd rfl (det_own_one (v := iv c.n) ty3 rfl rfl 1 rfl rfl) ?_
  refine dp 1 5 [(21, pt b1 0)] (by kernel_rfl) ?_
  refine dd rfl (det_own_one (v := iv c.kind) ty3 rfl rfl 1 rfl rfl) ?_
  refine dd rfl (det_ix_ownk Tryz.underlying189 ty3 rfl rfl rfl ((c.kind).toNat) (by omega) (by omega)) ?_
  refine dd rfl (det_vec_one (u := iv (([color_limits.a, color_limits.b, color_limits.c] : List Int).getD ((c.kind).toNat) 0)) (c := cInt) (xs := ([color_limits.a, color_limits.b, color_limits.c] : List Int)) (j := []) (sz := 1) ty3 (fun _ => rfl) rfl rfl 0 rfl ((c.kind).toNat) 0 rfl (gd 0 (by simp only [List.length_cons, List.length_nil]; omega)) rfl) ?_
  refine dp 2 0 [(26, bv (decide ((([color_limits.a, color_limits.b, color_limits.c] : List Int).getD ((c.kind).toNat) 0) < c.n)))] (by kernel_rfl) ?_
  exact JD_end (armD 8 18 26 g5 rfl rfl rfl rfl rfl)
 refine de ?_
 refine J_if rfl (fun h6 => ?_) (fun h6 => ?_)
 ·have h6p : (((c.kind < 0) ∨ ((3 : Int) ≤ c.kind)) ∨ (c.n < 0)) ∨ ((([color_limits.a, color_limits.b, color_limits.c] : List Int).getD ((c.kind).toNat) 0) < c.n) := by simpa using h6
  replace hR := bt hR h6
  refine sr 1 rfl ?_
  refine ip 1 0 [(2, iv 130)] (by kernel_rfl) ?_
  refine ie ?_
  refine J_ret ?_
  subst hR
  exact ends_ret rfl ⟨hr, hD⟩ (by simp [hD]) (res1 rfl (resV_tmp rfl)) () (by rfl) (mk [false, false] rfl) Foll.nil
 ·have h6p : ¬ ((((c.kind < 0) ∨ ((3 : Int) ≤ c.kind)) ∨ (c.n < 0)) ∨ ((([color_limits.a, color_limits.b, color_limits.c] : List Int).getD ((c.kind).toNat) 0) < c.n)) := by simpa using h6
  replace hR := bf hR h6
  refine J_skip ?_
  refine nx ?_
  refine sr 1 rfl ?_
  refine ip 1 0 [(2, iv 0)] (by kernel_rfl) ?_
  refine ie ?_
  refine J_ret ?_
  subst hR
  exact ends_ret rfl ⟨hr, hD⟩ (by simp [hD]) (res1 rfl (resV_tmp rfl)) () (by rfl) (mk [false, false] rfl) Foll.nil

def style_Check (s : Sty) : Int :=
 (bif (((!decide ((bOp .andNot .i64 s.attr 255) = 0)) || (decide (s.under < 0))) || (decide ((5 : Int) < s.under))) then 140 else (bif (!decide ((color_Check s.fore) = 0)) then (color_Check s.fore) else (bif (!decide ((color_Check s.back) = 0)) then (color_Check s.back) else (bif (!decide ((color_Check s.line) = 0)) then (color_Check s.line) else 0))))

theorem style_Check_c (s : Sty) (R : Int) (hR : style_Check s = R) : ConV Tryz.prog 48 [ag (cSty s)] [] (iv R) := by
 refine con_of_J (n := 36) Tryz.func48 rfl (by kernel_rfl) rfl rfl [(0, ag (cSty s))] ⟨rfl, trivial⟩ fun X hX hr hD => ?_
 replace hR := (style_Check.eq_1 ..).symm.trans hR
 refine sr 2 rfl ?_
 refine it rfl (tri_box (cs := cSty s) rfl rfl rfl) fun b1 => ?_
 refine ip 1 0 [] (by kernel_rfl) ?_
 refine ie ?_
 refine J_seq ?_
 refine sr 14 rfl ?_
 refine ip 1 13 [(6, pt b1 0)] (by kernel_rfl) ?_
 refine ix rfl (det_own_one (v := iv s.attr) ty3 rfl rfl 0 rfl rfl) ?_
 refine ip 3 9 [(10, bv (!decide ((bOp .andNot .i64 s.attr 255) = 0)))] (by kernel_rfl) ?_
 refine ior 4 5 10 14 (decide (s.under < 0)) rfl (by kernel_rfl) (fun g2 => ?_) ?_
 ·have g2p : ¬ (¬ (bOp .andNot .i64 s.attr 255) = 0) := by simpa using g2
  refine ip 1 3 [(11, pt b1 1)] (by kernel_rfl) ?_
  refine ix rfl (det_own_one (v := iv s.under) ty3 rfl rfl 0 rfl rfl) ?_
  refine ip 2 0 [(14, bv (decide (s.under < 0)))] (by kernel_rfl) ?_
  exact JI_end (armI 4 10 14 g2 Foll.nil (mk [true] rfl) rfl rfl rfl rfl rfl)
 refine ip 1 4 [(15, bv ((!decide ((bOp .andNot .i64 s.attr 255) = 0)) || (decide (s.under < 0))))] (by kernel_rfl) ?_
 refine ior 4 0 15 19 (decide ((5 : Int) < s.under)) rfl (by kernel_rfl) (fun g3 => ?_) ?_
 ·have g3p : ¬ ((¬ (bOp .andNot .i64 s.attr 255) = 0) ∨ (s.under < 0)) := by simpa using g3
  refine ip 1 3 [(16, pt b1 1)] (by kernel_rfl) ?_
  refine ix rfl (det_own_one (v := iv s.under) ty3 rfl rfl 0 rfl rfl) ?_
  refine ip 2 0 [(19, bv (decide ((5 : Int) < s.under)))] (by kernel_rfl) ?_
  exact JI_end (armI 4 15 19 g3 Foll.nil (mk [true] rfl) rfl rfl rfl rfl rfl)
 refine ie ?_
 refine J_if rfl (fun h4 => ?_) (fun h4 => ?_)
 ·have h4p : ((¬ (bOp .andNot .i64 s.attr 255) = 0) ∨ (s.under < 0)) ∨ ((5 : Int) < s.under) := by simpa using h4
  replace hR := bt hR h4
  refine sr 1 rfl ?_
  refine ip 1 0 [(2, iv 140)] (by kernel_rfl) ?_
  refine ie ?_
  refine J_ret ?_
  subst hR
  exact ends_ret rfl ⟨hr, hD⟩ (by simp [hD]) (res1 rfl (resV_tmp rfl)) () (by rfl) (mk [false] rfl) Foll.nil
 ·have h4p : ¬ (((¬ (bOp .andNot .i64 s.attr 255) = 0) ∨ (s.under < 0)) ∨ ((5 : Int) < s.under)) := by simpa using h4
  replace hR := bf hR h4
  refine J_skip ?_
  refine nx ?_
  refine J_seq ?_
  refine sr 8 rfl ?_
  refine ip 1 7 [(20, pt b1 2)] (by kernel_rfl) ?_
  refine ix rfl (det_own_agg (us := cCol s.fore) ty24 rfl rfl 0 rfl rfl rfl) ?_
  refine ip 1 5 [(22, pt b1 4)] (by kernel_rfl) ?_
  refine ix rfl (det_own_agg (us := cCol s.back) ty24 rfl rfl 0 rfl rfl rfl) ?_
  refine ip 1 3 [(24, pt b1 6)] (by kernel_rfl) ?_
  refine ix rfl (det_own_agg (us := cCol s.line) ty24 rfl rfl 0 rfl rfl rfl) ?_
  refine ix rfl (det_build (cs := [iv s.fore.kind, iv s.fore.n, iv s.back.kind, iv s.back.n, iv s.line.kind, iv s.line.n]) rfl rfl (by kernel_rfl)) ?_
  refine ip 1 0 [(27, iv 0)] (by kernel_rfl) ?_
  refine ie ?_
  refine J_block ?_
  refine J_rounds 5 ?_
  refine JR_succ ?_
  refine sr 1 rfl ?_
  refine ip 1 0 [(28, bv true)] (by kernel_rfl) ?_
  refine ie ?_
  refine J_seq ?_
  refine J_yes rfl ?_
  refine J_skip ?_
  refine nx ?_
  refine J_seq ?_
  refine J_block ?_
  refine sr 3 rfl ?_
  refine ix rfl (det_index (v := ag [iv s.fore.kind, iv s.fore.n]) (us := [iv s.fore.kind, iv s.fore.n]) Tryz.underlying143 ty24 rfl rfl rfl 0 rfl (by decide) rfl rfl rfl) ?_
  refine it rfl (tri_alloc (cs := cCol Col.zero) zero24 rfl) fun b5 => ?_
  refine it rfl (tri_store (us := [iv s.fore.kind, iv s.fore.n]) (cs' := cCol s.fore) ty24 rfl rfl rfl 0 rfl rfl rfl rfl rfl rfl) fun _ => ?_
  refine ie ?_
  refine sr 3 rfl ?_
  refine ix rfl (det_own_agg (us := cCol s.fore) ty24 rfl rfl 0 rfl rfl rfl) ?_
  refine ixc rfl (det_call (color_Check_c s.fore _ rfl) rfl rfl rfl rfl rfl Foll.nil) ?_
  refine ip 1 0 [(5, iv (color_Check s.fore))] (by kernel_rfl) ?_
  refine ie ?_
  refine sr 2 rfl ?_
  refine ip 2 0 [(33, bv (!decide ((color_Check s.fore) = 0)))] (by kernel_rfl) ?_
  refine ie ?_
  refine J_if rfl (fun h6 => ?_) (fun h6 => ?_)
  ·have h6p : ¬ (color_Check s.fore) = 0 := by simpa using h6
   replace hR := bt hR h6
   refine sr 2 rfl ?_
   refine ip 2 0 [(2, iv (color_Check s.fore))] (by kernel_rfl) ?_
   refine ie ?_
   refine J_ret ?_
   subst hR
   exact ends_ret rfl ⟨hr, hD⟩ (by simp [hD]) (res1 rfl (resV_tmp rfl)) () (by rfl) (mk [false, false] rfl) Foll.nil
  ·have h6p : ¬ (¬ (color_Check s.fore) = 0) := by simpa using h6
   replace hR := bf hR h6
   refine J_skip ?_
   refine nx ?_
   refine J_region 2 rfl ?_
   refine ix rfl (det_add64 (c := 1) rfl rfl rfl rfl (by decide)) ?_
   refine ip 1 0 [(27, iv 1)] (by kernel_rfl) ?_
   refine JI_end ?_
   refine JR_succ ?_
   refine sr 1 rfl ?_
   refine ip 1 0 [(28, bv true)] (by kernel_rfl) ?_
   refine ie ?_
   refine J_seq ?_
   refine J_yes rfl ?_
   refine J_skip ?_
   refine nx ?_
   refine J_seq ?_
   refine J_block ?_
   refine sr 3 rfl ?_
   refine ix rfl (det_index (v := ag [iv s.back.kind, iv s.back.n]) (us := [iv s.back.kind, iv s.back.n]) Tryz.underlying143 ty24 rfl rfl rfl 1 rfl (by decide) rfl rfl rfl) ?_
   refine it rfl (tri_alloc (cs := cCol Col.zero) zero24 rfl) fun b7 => ?_
   refine it rfl (tri_store (us := [iv s.back.kind, iv s.back.n]) (cs' := cCol s.back) ty24 rfl rfl rfl 0 rfl rfl rfl rfl rfl rfl) fun _ => ?_
   refine ie ?_
   refine sr 3 rfl ?_
   refine ix rfl (det_own_agg (us := cCol s.back) ty24 rfl rfl 0 rfl rfl rfl) ?_
   refine ixc rfl (det_call (color_Check_c s.back _ rfl) rfl rfl rfl rfl rfl Foll.nil) ?_
   refine ip 1 0 [(5, iv (color_Check s.back))] (by kernel_rfl) ?_
   refine ie ?_
   refine sr 2 rfl ?_
   refine ip 2 0 [(33, bv (!decide ((color_Check s.back) = 0)))] (by kernel_rfl) ?_
   refine ie ?_
   refine J_if rfl (fun h8 => ?_) (fun h8 => ?_)
   ·have h8p : ¬ (color_Check s.back) = 0 := by simpa using h8
    replace hR := bt hR h8
    refine sr 2 rfl ?_
    refine ip 2 0 [(2, iv (color_Check s.back))] (by kernel_rfl) ?_
    refine ie ?_
    refine J_ret ?_
    subst hR
    exact ends_ret rfl ⟨hr, hD⟩ (by simp [hD]) (res1 rfl (resV_tmp rfl)) () (by rfl) (mk [false, false, false] rfl) Foll.nil
   ·have h8p : ¬ (¬ (color_Check s.back) = 0) := by simpa using h8
    replace hR := bf hR h8
    refine J_skip ?_
    refine nx ?_
    refine J_region 2 rfl ?_
    refine ix rfl (det_add64 (c := 2) rfl rfl rfl rfl (by decide)) ?_
    refine ip 1 0 [(27, iv 2)] (by kernel_rfl) ?_
    refine JI_end ?_
    refine JR_succ ?_
    refine sr 1 rfl ?_
    refine ip 1 0 [(28, bv true)] (by kernel_rfl) ?_
    refine ie ?_
    refine J_seq ?_
    refine J_yes rfl ?_
    refine J_skip ?_
    refine nx ?_
    refine J_seq ?_
    refine J_block ?_
    refine sr 3 rfl ?_
    refine ix rfl (det_index (v := ag [iv s.line.kind, iv s.line.n]) (us := [iv s.line.kind, iv s.line.n]) Tryz.underlying143 ty24 rfl rfl rfl 2 rfl (by decide) rfl rfl rfl) ?_
    refine it rfl (tri_alloc (cs := cCol Col.zero) zero24 rfl) fun b9 => ?_
    refine it rfl (tri_store (us := [iv s.line.kind, iv s.line.n]) (cs' := cCol s.line) ty24 rfl rfl rfl 0 rfl rfl rfl rfl rfl rfl) fun _ => ?_
    refine ie ?_
    refine sr 3 rfl ?_
    refine ix rfl (det_own_agg (us := cCol s.line) ty24 rfl rfl 0 rfl rfl rfl) ?_
    refine ixc rfl (det_call (color_Check_c s.line _ rfl) rfl rfl rfl rfl rfl Foll.nil) ?_
    refine ip 1 0 [(5, iv (color_Check s.line))] (by kernel_rfl) ?_
    refine ie ?_
    refine sr 2 rfl ?_
    refine ip 2 0 [(33, bv (!decide ((color_Check s.line) = 0)))] (by kernel_rfl) ?_
    refine ie ?_
    refine J_if rfl (fun h10 => ?_) (fun h10 => ?_)
    ·have h10p : ¬ (color_Check s.line) = 0 := by simpa using h10
     replace hR := bt hR h10
     refine sr 2 rfl ?_
     refine ip 2 0 [(2, iv (color_Check s.line))] (by kernel_rfl) ?_
     refine ie ?_
     refine J_ret ?_
     subst hR
     exact ends_ret rfl ⟨hr, hD⟩ (by simp [hD]) (res1 rfl (resV_tmp rfl)) () (by rfl) (mk [false, false, false, false] rfl) Foll.nil
    ·have h10p : ¬ (¬ (color_Check s.line) = 0) := by simpa using h10
     replace hR := bf hR h10
     refine J_skip ?_
     refine nx ?_
     refine J_region 2 rfl ?_
     refine ix rfl (det_add64 (c := 3) rfl rfl rfl rfl (by decide)) ?_
     refine ip 1 0 [(27, iv 3)] (by kernel_rfl) ?_
     refine JI_end ?_
     refine JR_succ ?_
     refine sr 1 rfl ?_
     refine ip 1 0 [(28, bv false)] (by kernel_rfl) ?_
     refine ie ?_
     refine J_seq ?_
     refine J_no rfl ?_
     refine J_exit ?_
     refine nx ?_
     refine sr 1 rfl ?_
     refine ip 1 0 [(2, iv 0)] (by kernel_rfl) ?_
     refine ie ?_
     refine J_ret ?_
     subst hR
     exact ends_ret rfl ⟨hr, hD⟩ (by simp [hD]) (res1 rfl (resV_tmp rfl)) () (by rfl) (mk [false, false, false, false] rfl) Foll.nil

def row_CheckCell (c : Cel) : Int :=
 (bif ((!((row_half c) || ((((decide ((0 : Int) ≤ c.wide)) && (decide (c.wide ≤ 1))) && (decide ((width_Of c.base) = (IntKind.i64.wrap (c.wide + (1 : Int)))))) && (row_marked c.marks)))) || (!decide ((style_Check c.sty) = 0))) then 221 else 0)

theorem row_CheckCell_c (c : Cel) (R : Int) (hR : row_CheckCell c = R) : ConV Tryz.prog 131 [ag (cCel c)] [sl cSpn (some ⟨0, 0, none⟩) tab0, sl cSpn (some ⟨1, 0, none⟩) tab1] (iv R) := by
 refine con_of_J (n := 38) Tryz.func131 rfl (by kernel_rfl) rfl rfl [(0, ag (cCel c))] ⟨rfl, trivial⟩ fun X hX hr hD => ?_
 replace hR := (row_CheckCell.eq_1 ..).symm.trans hR
 refine sr 2 rfl ?_
 refine it rfl (tri_box (cs := cCel c) rfl rfl rfl) fun b1 => ?_
 refine ip 1 0 [] (by kernel_rfl) ?_
 refine ie ?_
 refine sd 27 rfl (by kernel_rfl) rfl ?_
 refine dd rfl (det_own_agg (us := cCel c) ty72 rfl rfl 0 rfl rfl rfl) ?_
 refine ddc rfl (det_call (row_half_c c _ rfl) rfl rfl rfl rfl rfl Foll.nil) ?_
 refine dp 1 24 [(6, bv (row_half c))] (by kernel_rfl) ?_
 refine dor 23 1 6 29 ((((decide ((0 : Int) ≤ c.wide)) && (decide (c.wide ≤ 1))) && (decide ((width_Of c.base) = (IntKind.i64.wrap (c.wide + (1 : Int)))))) && (row_marked c.marks)) rfl (by kernel_rfl) (fun g2 => ?_) ?_
 ·refine dp 1 22 [(7, pt b1 3)] (by kernel_rfl) ?_
  refine dd rfl (det_own_one (v := iv c.wide) ty3 rfl rfl 0 rfl rfl) ?_
  refine dp 2 19 [(10, bv (decide ((0 : Int) ≤ c.wide)))] (by kernel_rfl) ?_
  refine dand 4 15 10 14 (decide (c.wide ≤ 1)) rfl (by kernel_rfl) (fun g3 => ?_) ?_
  ·have g3p : (0 : Int) ≤ c.wide := by simpa using g3
   refine dp 1 3 [(11, pt b1 3)] (by kernel_rfl) ?_
   refine dd rfl (det_own_one (v := iv c.wide) ty3 rfl rfl 0 rfl rfl) ?_
   refine dp 2 0 [(14, bv (decide (c.wide ≤ 1)))] (by kernel_rfl) ?_
   exact JD_end (armD 4 10 14 g3 rfl rfl rfl rfl rfl)
  refine dp 1 14 [(15, bv ((decide ((0 : Int) ≤ c.wide)) && (decide (c.wide ≤ 1))))] (by kernel_rfl) ?_
  refine dand 8 6 15 23 (decide ((width_Of c.base) = (IntKind.i64.wrap (c.wide + (1 : Int))))) rfl (by kernel_rfl) (fun g4 => ?_) ?_
  ·have g4p : ((0 : Int) ≤ c.wide) ∧ (c.wide ≤ 1) := by simpa using g4
   refine dp 1 7 [(16, pt b1 0)] (by kernel_rfl) ?_
   refine dd rfl (det_own_one (v := iv c.base) ty3 rfl rfl 0 rfl rfl) ?_
   refine ddc rfl (det_call (width_Of_c c.base _ rfl) rfl rfl rfl rfl rfl Foll.refl) ?_
   refine dp 1 4 [(19, pt b1 3)] (by kernel_rfl) ?_
   refine dd rfl (det_own_one (v := iv c.wide) ty3 rfl rfl 0 rfl rfl) ?_
   refine dd rfl (DetR.pure rfl) ?_
   refine dp 2 0 [(23, bv (decide ((width_Of c.base) = (IntKind.i64.wrap (c.wide + (1 : Int))))))] (by kernel_rfl) ?_
   exact JD_end (armD 8 15 23 g4 rfl rfl rfl rfl rfl)
  refine dp 1 5 [(24, bv (((decide ((0 : Int) ≤ c.wide)) && (decide (c.wide ≤ 1))) && (decide ((width_Of c.base) = (IntKind.i64.wrap (c.wide + (1 : Int)))))))] (by kernel_rfl) ?_
  refine dand 4 1 24 28 (row_marked c.marks) rfl (by kernel_rfl) (fun g5 => ?_) ?_
  ·have g5p : (((0 : Int) ≤ c.wide) ∧ (c.wide ≤ 1)) ∧ ((width_Of c.base) = (IntKind.i64.wrap (c.wide + (1 : Int)))) := by simpa using g5
   refine dp 1 3 [(25, pt b1 1)] (by kernel_rfl) ?_
   refine dd rfl (det_own_agg (us := cAr2 c.marks) ty68 rfl rfl 0 rfl rfl rfl) ?_
   refine ddc rfl (det_call (row_marked_c c.marks _ rfl) rfl rfl rfl rfl rfl Foll.refl) ?_
   refine dp 1 0 [(28, bv (row_marked c.marks))] (by kernel_rfl) ?_
   exact JD_end (armD 5 24 28 g5 rfl rfl rfl rfl rfl)
  refine dp 1 0 [(29, bv ((((decide ((0 : Int) ≤ c.wide)) && (decide (c.wide ≤ 1))) && (decide ((width_Of c.base) = (IntKind.i64.wrap (c.wide + (1 : Int)))))) && (row_marked c.marks)))] (by kernel_rfl) ?_
  exact JD_end (armD 10 6 29 g2 rfl rfl rfl rfl rfl)
 refine dp 1 0 [(3, bv ((row_half c) || ((((decide ((0 : Int) ≤ c.wide)) && (decide (c.wide ≤ 1))) && (decide ((width_Of c.base) = (IntKind.i64.wrap (c.wide + (1 : Int)))))) && (row_marked c.marks))))] (by kernel_rfl) ?_
 refine de ?_
 refine J_seq ?_
 refine sr 8 rfl ?_
 refine ip 3 5 [(32, bv (!((row_half c) || ((((decide ((0 : Int) ≤ c.wide)) && (decide (c.wide ≤ 1))) && (decide ((width_Of c.base) = (IntKind.i64.wrap (c.wide + (1 : Int)))))) && (row_marked c.marks)))))] (by kernel_rfl) ?_
 refine ior 5 0 32 37 (!decide ((style_Check c.sty) = 0)) rfl (by kernel_rfl) (fun g6 => ?_) ?_
 ·have g6p := g6; try simp at g6p
  refine ip 1 4 [(33, pt b1 4)] (by kernel_rfl) ?_
  refine ix rfl (det_own_agg (us := cSty c.sty) ty70 rfl rfl 0 rfl rfl rfl) ?_
  refine ixc rfl (det_call (style_Check_c c.sty _ rfl) rfl rfl rfl rfl rfl Foll.nil) ?_
  refine ip 2 0 [(37, bv (!decide ((style_Check c.sty) = 0)))] (by kernel_rfl) ?_
  exact JI_end (armI 5 32 37 g6 Foll.refl (mk [true] rfl) rfl rfl rfl rfl rfl)
 refine ie ?_
 refine J_if rfl (fun h7 => ?_) (fun h7 => ?_)
 ·have h7p := h7; try simp at h7p
  replace hR := bt hR h7
  refine sr 1 rfl ?_
  refine ip 1 0 [(2, iv 221)] (by kernel_rfl) ?_
  refine ie ?_
  refine J_ret ?_
  subst hR
  exact ends_ret rfl ⟨hr, hD⟩ (by simp [hD]) (res1 rfl (resV_tmp rfl)) () (by rfl) (mk [false] rfl) Foll.nil
 ·have h7p := h7; try simp at h7p
  replace hR := bf hR h7
  refine J_skip ?_
  refine nx ?_
  refine sr 1 rfl ?_
  refine ip 1 0 [(2, iv 0)] (by kernel_rfl) ?_
  refine ie ?_
  refine J_ret ?_
  subst hR
  exact ends_ret rfl ⟨hr, hD⟩ (by simp [hD]) (res1 rfl (resV_tmp rfl)) () (by rfl) (mk [false] rfl) Foll.nil

def row_Check_l0 : List Cel → Nat → Cel → Int
 | [], t19, last => (bif (decide (last.wide = 1)) then 220 else 0)
 | hd_l0 :: tl_l0, t19, last => (bif (((!decide ((row_CheckCell hd_l0) = 0)) || (!((decide (last.wide = 1)) == (decide (hd_l0.wide = 2))))) || ((decide (hd_l0.wide = 2)) && (!(decide (hd_l0.sty = last.sty))))) then 220 else row_Check_l0 tl_l0 (t19 + 1) hd_l0)
def row_Check (rCells : List Cel) (rWrapped : Bool) : Int :=
 (bif ((decide ((rCells.length : Int) < 2)) || (decide ((80 : Int) < (rCells.length : Int)))) then 220 else row_Check_l0 rCells 0 Cel.zero)

theorem row_Check_c (rCells : List Cel) (rWrapped : Bool) (rCellsq : Option Addr) (rCellsk : Nat) (hlrCells : rCells.length ≤ 9223372036854775807) (hcrCells : rCells.length ≤ rCellsk) (R : Int) (hR : row_Check rCells rWrapped = R) : ConV Tryz.prog 76 [ag [.slice rCellsq rCells.length rCellsk, bv rWrapped]] [sl cCel rCellsq rCells, sl cSpn (some ⟨0, 0, none⟩) tab0, sl cSpn (some ⟨1, 0, none⟩) tab1] (iv R) := by
 refine con_of_J (n := 52) Tryz.func76 rfl (by kernel_rfl) rfl rfl [(0, ag [.slice rCellsq rCells.length rCellsk, bv rWrapped])] ⟨rfl, trivial⟩ fun X hX hr hD => ?_
 replace hR := (row_Check.eq_1 ..).symm.trans hR
 refine sr 2 rfl ?_
 refine it rfl (tri_box (cs := [.slice rCellsq rCells.length rCellsk, bv rWrapped]) rfl rfl rfl) fun b1 => ?_
 refine ip 1 0 [] (by kernel_rfl) ?_
 refine ie ?_
 refine J_seq ?_
 refine sr 4 rfl ?_
 refine ip 1 3 [(7, pt b1 0)] (by kernel_rfl) ?_
 refine ix rfl (det_own_one (v := .slice rCellsq rCells.length rCellsk) ty67 rfl rfl 0 rfl rfl) ?_
 refine ip 2 0 [(3, iv (rCells.length : Int))] (by kernel_rfl) ?_
 refine ie ?_
 refine sr 6 rfl ?_
 refine ip 3 3 [(12, bv (decide ((rCells.length : Int) < 2)))] (by kernel_rfl) ?_
 refine ior 3 0 12 15 (decide ((80 : Int) < (rCells.length : Int))) rfl (by kernel_rfl) (fun g2 => ?_) ?_
 ·have g2p : ¬ ((rCells.length : Int) < 2) := by simpa using g2
  refine ip 3 0 [(15, bv (decide ((80 : Int) < (rCells.length : Int))))] (by kernel_rfl) ?_
  exact JI_end (armI 2 12 15 g2 Foll.refl (mk [true] rfl) rfl rfl rfl rfl rfl)
 refine ie ?_
 refine J_if rfl (fun h3 => ?_) (fun h3 => ?_)
 ·have h3p : ((rCells.length : Int) < 2) ∨ ((80 : Int) < (rCells.length : Int)) := by simpa using h3
  replace hR := bt hR h3
  refine sr 1 rfl ?_
  refine ip 1 0 [(2, iv 220)] (by kernel_rfl) ?_
  refine ie ?_
  refine J_ret ?_
  subst hR
  exact ends_ret rfl ⟨hr, hD⟩ (by simp [hD]) (res1 rfl (resV_tmp rfl)) () (by rfl) (mk [false] rfl) Foll.nil
 ·have h3p : ¬ (((rCells.length : Int) < 2) ∨ ((80 : Int) < (rCells.length : Int))) := by simpa using h3
  replace hR := bf hR h3
  refine J_skip ?_
  refine nx ?_
  refine sr 1 rfl ?_
  refine it rfl (tri_alloc (cs := cCel Cel.zero) zero72 rfl) fun b4 => ?_
  refine ie ?_
  refine J_seq ?_
  refine sr 4 rfl ?_
  refine ip 1 3 [(16, pt b1 0)] (by kernel_rfl) ?_
  refine ix rfl (det_own_one (v := .slice rCellsq rCells.length rCellsk) ty67 rfl rfl 1 rfl rfl) ?_
  refine ip 2 0 [(18, iv (rCells.length : Int)), (19, iv 0)] (by kernel_rfl) ?_
  refine ie ?_
  refine J_block ?_
  refine JL2 (fun (t19 : Nat) (last : Cel) => t19 ≤ rCells.length ∧ row_Check_l0 (rCells.drop t19) t19 last = R) (fun (t19 : Nat) (last : Cel) => [(4, pt b4 0), (17, .slice rCellsq rCells.length rCellsk), (18, iv (rCells.length : Int)), (19, iv (t19 : Int))]) (fun (t19 : Nat) (last : Cel) => [bx b4 (cCel last) 72, bx b1 [.slice rCellsq rCells.length rCellsk, bv rWrapped] 122]) (fun (t19 : Nat) (last : Cel) => [sl cCel rCellsq rCells, sl cSpn (some ⟨0, 0, none⟩) tab0, sl cSpn (some ⟨1, 0, none⟩) tab1]) (fun (t19 : Nat) (last : Cel) => rCells.length - t19) 0 Cel.zero ⟨(by omega), hR⟩ ⟨rfl, rfl, rfl, (by first | rfl | (simp only [List.length_set]; rfl) | (simp; done) | (simp; omega)), trivial⟩ (mk [true, true] rfl) Foll.refl ?_
  rintro t19 last ⟨hm5, hR⟩
  refine sr 1 rfl ?_
  refine ip 1 0 [(20, bv (decide ((t19 : Int) < (rCells.length : Int))))] (by kernel_rfl) ?_
  refine ie ?_
  refine J_seq ?_
  refine J_if rfl (fun h6 => ?_) (fun h6 => ?_)
  ·have h6p : (t19 : Int) < (rCells.length : Int) := by simpa using h6
   rw [dropc Cel.zero (show t19 < rCells.length by omega)] at hR; replace hR := (row_Check_l0.eq_2 ..).symm.trans hR
   refine J_skip ?_
   refine nx ?_
   refine J_seq ?_
   refine J_block ?_
   refine sr 4 rfl ?_
   refine JI_base 0 rfl (by omega) fun a7 hq8 => ?_
   refine ix rfl (det_ixq slt67 rfl rfl hq8 rfl t19 rfl (by omega)) ?_
   refine ix rfl (det_ld_agg (us := cCel (rCells.getD t19 Cel.zero)) ty72 rfl rfl (at_slq (c := cCel) (sz := 12) hq8 (fun _ => rfl) 0 rfl (gd Cel.zero (by omega))) rfl) ?_
   refine it rfl (tri_alloc (cs := cCel Cel.zero) zero72 rfl) fun b9 => ?_
   refine it rfl (tri_store (us := cCel (rCells.getD t19 Cel.zero)) (cs' := cCel (rCells.getD t19 Cel.zero)) ty72 rfl rfl rfl 0 rfl rfl rfl rfl rfl rfl) fun _ => ?_
   refine ie ?_
   refine J_seq ?_
   refine sr 24 rfl ?_
   refine ix rfl (det_own_agg (us := cCel (rCells.getD t19 Cel.zero)) ty72 rfl rfl 0 rfl rfl rfl) ?_
   refine ixc rfl (det_call (row_CheckCell_c (rCells.getD t19 Cel.zero) _ rfl) rfl rfl rfl rfl rfl (Foll.pick [1, 2] rfl)) ?_
   refine ip 2 20 [(26, bv (!decide ((row_CheckCell (rCells.getD t19 Cel.zero)) = 0)))] (by kernel_rfl) ?_
   refine ior 8 12 26 34 (!((decide (last.wide = 1)) == (decide ((rCells.getD t19 Cel.zero).wide = 2)))) rfl (by kernel_rfl) (fun g10 => ?_) ?_
   ·have g10p : ¬ (¬ (row_CheckCell (rCells.getD t19 Cel.zero)) = 0) := by simpa using g10
    refine ip 1 7 [(27, pt b4 3)] (by kernel_rfl) ?_
    refine ix rfl (det_own_one (v := iv last.wide) ty3 rfl rfl 1 rfl rfl) ?_
    refine ip 2 4 [(29, bv (decide (last.wide = 1))), (30, pt b9 3)] (by kernel_rfl) ?_
    refine ix rfl (det_own_one (v := iv ((rCells.getD t19 Cel.zero).wide)) ty3 rfl rfl 0 rfl rfl) ?_
    refine ip 1 2 [(32, bv (decide ((rCells.getD t19 Cel.zero).wide = 2)))] (by kernel_rfl) ?_
    refine ix rfl (det_neb Tryz.underlying4 rfl rfl rfl) ?_
    refine ip 1 0 [(34, bv (!((decide (last.wide = 1)) == (decide ((rCells.getD t19 Cel.zero).wide = 2)))))] (by kernel_rfl) ?_
    exact JI_end (armI 9 26 34 g10 Foll.refl (mk [true, true, true] rfl) rfl rfl rfl rfl rfl)
   refine ip 1 11 [(35, bv ((!decide ((row_CheckCell (rCells.getD t19 Cel.zero)) = 0)) || (!((decide (last.wide = 1)) == (decide ((rCells.getD t19 Cel.zero).wide = 2))))))] (by kernel_rfl) ?_
   refine ior 11 0 35 46 ((decide ((rCells.getD t19 Cel.zero).wide = 2)) && (!(decide ((rCells.getD t19 Cel.zero).sty = last.sty)))) rfl (by kernel_rfl) (fun g11 => ?_) ?_
   ·have g11p := g11; try simp at g11p
    refine ip 1 10 [(36, pt b9 3)] (by kernel_rfl) ?_
    refine ix rfl (det_own_one (v := iv ((rCells.getD t19 Cel.zero).wide)) ty3 rfl rfl 0 rfl rfl) ?_
    refine ip 2 7 [(39, bv (decide ((rCells.getD t19 Cel.zero).wide = 2)))] (by kernel_rfl) ?_
    refine iand 6 1 39 45 (!(decide ((rCells.getD t19 Cel.zero).sty = last.sty))) rfl (by kernel_rfl) (fun g12 => ?_) ?_
    ·have g12p : (rCells.getD t19 Cel.zero).wide = 2 := by simpa using g12
     refine ip 1 5 [(40, pt b9 4)] (by kernel_rfl) ?_
     refine ix rfl (det_own_agg (us := cSty ((rCells.getD t19 Cel.zero).sty)) ty70 rfl rfl 0 rfl rfl rfl) ?_
     refine ip 1 3 [(42, pt b4 4)] (by kernel_rfl) ?_
     refine ix rfl (det_own_agg (us := cSty last.sty) ty70 rfl rfl 1 rfl rfl rfl) ?_
     refine ix rfl (det_nes (a := (rCells.getD t19 Cel.zero).sty) (b := last.sty) eqt70 rfl rfl rfl) ?_
     refine ip 1 0 [(45, bv (!(decide ((rCells.getD t19 Cel.zero).sty = last.sty))))] (by kernel_rfl) ?_
     exact JI_end (armI 7 39 45 g12 Foll.refl (mk [true, true, true] rfl) rfl rfl rfl rfl rfl)
    refine ip 1 0 [(46, bv ((decide ((rCells.getD t19 Cel.zero).wide = 2)) && (!(decide ((rCells.getD t19 Cel.zero).sty = last.sty)))))] (by kernel_rfl) ?_
    exact JI_end (armI 6 35 46 g11 Foll.refl (mk [true, true, true] rfl) rfl rfl rfl rfl rfl)
   refine ie ?_
   refine J_if rfl (fun h13 => ?_) (fun h13 => ?_)
   ·have h13p := h13; try simp at h13p
    replace hR := bt hR h13
    refine sr 1 rfl ?_
    refine ip 1 0 [(2, iv 220)] (by kernel_rfl) ?_
    refine ie ?_
    refine J_ret ?_
    subst hR
    exact ends_ret rfl ⟨hr, hD⟩ (by simp [hD]) (res1 rfl (resV_tmp rfl)) () (by rfl) (mk [false, false, false] rfl) Foll.nil
   ·have h13p := h13; try simp at h13p
    replace hR := bf hR h13
    refine J_skip ?_
    refine nx ?_
    refine J_region 2 rfl ?_
    refine ix rfl (det_own_agg (us := cCel (rCells.getD t19 Cel.zero)) ty72 rfl rfl 0 rfl rfl rfl) ?_
    refine it rfl (tri_store (us := cCel (rCells.getD t19 Cel.zero)) (cs' := cCel (rCells.getD t19 Cel.zero)) ty72 rfl rfl rfl 1 rfl rfl rfl rfl rfl rfl) fun _ => ?_
    refine JI_end ?_
    refine nx ?_
    refine J_region 2 rfl ?_
    refine ix rfl (det_add64 rfl rfl rfl rfl (by omega)) ?_
    refine ip 1 0 [(19, iv ((t19 : Int) + 1))] (by kernel_rfl) ?_
    refine JI_end ?_
    exact againL2 (z1 := t19) (z2 := last) (t19 + 1) (rCells.getD t19 Cel.zero) ⟨(by omega), hR⟩ (by (try dsimp only); omega) ⟨rfl, rfl, rfl, (by first | rfl | (simp only [List.length_set]; rfl) | (simp; done) | (simp; omega)), trivial⟩ (mk [false, true, true] rfl) Foll.refl
  ·have h6p : ¬ ((t19 : Int) < (rCells.length : Int)) := by simpa using h6
   rw [dropn h6p] at hR; replace hR := (row_Check_l0.eq_1 ..).symm.trans hR
   refine J_exit ?_
   refine nx ?_
   refine J_seq ?_
   refine sr 3 rfl ?_
   refine ip 1 2 [(49, pt b4 3)] (by kernel_rfl) ?_
   refine ix rfl (det_own_one (v := iv last.wide) ty3 rfl rfl 0 rfl rfl) ?_
   refine ip 1 0 [(51, bv (decide (last.wide = 1)))] (by kernel_rfl) ?_
   refine ie ?_
   refine J_if rfl (fun h14 => ?_) (fun h14 => ?_)
   ·have h14p : last.wide = 1 := by simpa using h14
    replace hR := bt hR h14
    refine sr 1 rfl ?_
    refine ip 1 0 [(2, iv 220)] (by kernel_rfl) ?_
    refine ie ?_
    refine J_ret ?_
    subst hR
    exact ends_ret rfl ⟨hr, hD⟩ (by simp [hD]) (res1 rfl (resV_tmp rfl)) () (by rfl) (mk [false, false] rfl) Foll.nil
   ·have h14p : ¬ (last.wide = 1) := by simpa using h14
    replace hR := bf hR h14
    refine J_skip ?_
    refine nx ?_
    refine sr 1 rfl ?_
    refine ip 1 0 [(2, iv 0)] (by kernel_rfl) ?_
    refine ie ?_
    refine J_ret ?_
    subst hR
    exact ends_ret rfl ⟨hr, hD⟩ (by simp [hD]) (res1 rfl (resV_tmp rfl)) () (by rfl) (mk [false, false] rfl) Foll.nil

def frame_Check_l0 (fC : Int) : List (List Cel) → Bool → Nat → Int
 | [], ok, t77 => (bif (!ok) then 330 else 0)
 | hd_l0 :: tl_l0, ok, t77 => (bif (!((ok && (decide ((hd_l0.length : Int) = fC))) && (decide ((row_Check hd_l0 false) = 0)))) then (bif (!((ok && (decide ((hd_l0.length : Int) = fC))) && (decide ((row_Check hd_l0 false) = 0)))) then 330 else 0) else frame_Check_l0 fC tl_l0 ((ok && (decide ((hd_l0.length : Int) = fC))) && (decide ((row_Check hd_l0 false) = 0))) (t77 + 1))
def frame_Check (fC : Int) (fR : List (List Cel)) (fU : Plc) (fV : Bool) (fS : Int) (fT : List UInt8) : Int :=
 frame_Check_l0 fC fR (((((((((((decide ((2 : Int) ≤ fC)) && (decide (fC ≤ 80))) && (decide ((1 : Int) ≤ (fR.length : Int)))) && (decide ((fR.length : Int) ≤ 40))) && (decide ((0 : Int) ≤ fU.row))) && (decide (fU.row < (fR.length : Int)))) && (decide ((0 : Int) ≤ fU.col))) && (decide (fU.col < fC))) && (decide ((0 : Int) ≤ fS))) && (decide (fS ≤ 6))) && (decide ((action_Check 0 0 Col.zero fT) = 0))) 0

theorem frame_Check_l0_ok (fC : Int) : ∀ (rows : List (List Cel)) (ok : Bool) (t : Nat), frame_Check_l0 fC rows ok t = 0 → ok = true ∧ ∀ r ∈ rows, (r.length : Int) = fC ∧ row_Check r false = 0
 | [], ok, t => by cases ok <;> simp [frame_Check_l0]
 | r :: rows, ok, t => by
  intro h
  simp only [frame_Check_l0] at h
  generalize hb : ((ok && decide ((r.length : Int) = fC)) && decide (row_Check r false = 0)) = b at h
  cases b with
  | false => simp at h
  | true =>
   have h1 := frame_Check_l0_ok fC rows true (t + 1) (by simpa using h)
   simp only [Bool.and_eq_true, decide_eq_true_eq] at hb
   refine ⟨hb.1.1, fun x hx => ?_⟩
   rcases List.mem_cons.1 hx with rfl | hx
   ·exact ⟨hb.1.2, hb.2⟩
   ·exact h1.2 x hx
theorem frame_Check_ok {fC : Int} {fR : List (List Cel)} {fU : Plc} {fV : Bool} {fS : Int} {fT : List UInt8} (h : frame_Check fC fR fU fV fS fT = 0) :
  2 ≤ fC ∧ fC ≤ 80 ∧ 1 ≤ fR.length ∧ fR.length ≤ 40 ∧ ∀ i, i < fR.length → ((fR.getD i []).length : Int) = fC := by
 unfold frame_Check at h
 obtain ⟨h1, h2⟩ := frame_Check_l0_ok _ _ _ _ h
 simp only [Bool.and_eq_true, decide_eq_true_eq] at h1
 refine ⟨by omega, by omega, by omega, by omega, fun i hi => ?_⟩
 have := (h2 _ (List.getElem_mem hi)).1
 simpa [List.getD_eq_getElem?_getD, hi] using this

theorem frame_Check_c (fC : Int) (fR : List (List Cel)) (fU : Plc) (fV : Bool) (fS : Int) (fT : List UInt8) (fQ : Option Addr) (fZ : List Slc) (fK : Nat) (hrowsfRowsrs : RowsOk fZ fR) (hlfRows : fR.length ≤ 9223372036854775807) (hcfRows : fR.length ≤ fK) (hT : fT.length ≤ 100000000) (R : Int) (hR : frame_Check fC fR fU fV fS fT = R) : ConV Tryz.prog 39 [ag [iv fC, .slice fQ fR.length fK, iv fU.row, iv fU.col, bv fV, iv fS, sv fT]] [sl cSlc fQ fZ, rowsF cCel fZ fR, sl cSpn (some ⟨0, 0, none⟩) tab0, sl cSpn (some ⟨1, 0, none⟩) tab1] (iv R) := by
 refine con_of_J (n := 100) Tryz.func39 rfl (by kernel_rfl) rfl rfl [(0, ag [iv fC, .slice fQ fR.length fK, iv fU.row, iv fU.col, bv fV, iv fS, sv fT])] ⟨rfl, trivial⟩ fun X hX hr hD => ?_
 replace hR := (frame_Check.eq_1 ..).symm.trans hR
 have := hrowsfRowsrs.1
 refine sr 2 rfl ?_
 refine it rfl (tri_box (cs := [iv fC, .slice fQ fR.length fK, iv fU.row, iv fU.col, bv fV, iv fS, sv fT]) rfl rfl rfl) fun b1 => ?_
 refine ip 1 0 [] (by kernel_rfl) ?_
 refine ie ?_
 refine J_scope ?_
 refine sr 21 rfl ?_
 refine ip 1 20 [(6, pt b1 0)] (by kernel_rfl) ?_
 refine ix rfl (det_own_one (v := iv fC) ty3 rfl rfl 0 rfl rfl) ?_
 refine ip 2 17 [(9, bv (decide ((2 : Int) ≤ fC)))] (by kernel_rfl) ?_
 refine iand 4 13 9 13 (decide (fC ≤ 80)) rfl (by kernel_rfl) (fun g2 => ?_) ?_
 ·have g2p : (2 : Int) ≤ fC := by simpa using g2
  refine ip 1 3 [(10, pt b1 0)] (by kernel_rfl) ?_
  refine ix rfl (det_own_one (v := iv fC) ty3 rfl rfl 0 rfl rfl) ?_
  refine ip 2 0 [(13, bv (decide (fC ≤ 80)))] (by kernel_rfl) ?_
  exact JI_end (armI 4 9 13 g2 Foll.refl (mk [true] rfl) rfl rfl rfl rfl rfl)
 refine ip 1 12 [(14, bv ((decide ((2 : Int) ≤ fC)) && (decide (fC ≤ 80))))] (by kernel_rfl) ?_
 refine iand 5 7 14 19 (decide ((1 : Int) ≤ (fR.length : Int))) rfl (by kernel_rfl) (fun g3 => ?_) ?_
 ·have g3p : ((2 : Int) ≤ fC) ∧ (fC ≤ 80) := by simpa using g3
  refine ip 1 4 [(15, pt b1 1)] (by kernel_rfl) ?_
  refine ix rfl (det_own_one (v := .slice fQ fR.length fK) ty49 rfl rfl 0 rfl rfl) ?_
  refine ip 3 0 [(19, bv (decide ((1 : Int) ≤ (fR.length : Int))))] (by kernel_rfl) ?_
  exact JI_end (armI 4 14 19 g3 Foll.refl (mk [true] rfl) rfl rfl rfl rfl rfl)
 refine ip 1 6 [(20, bv (((decide ((2 : Int) ≤ fC)) && (decide (fC ≤ 80))) && (decide ((1 : Int) ≤ (fR.length : Int)))))] (by kernel_rfl) ?_
 refine iand 5 1 20 25 (decide ((fR.length : Int) ≤ 40)) rfl (by kernel_rfl) (fun g4 => ?_) ?_
 ·have g4p : (((2 : Int) ≤ fC) ∧ (fC ≤ 80)) ∧ ((1 : Int) ≤ (fR.length : Int)) := by simpa using g4
  refine ip 1 4 [(21, pt b1 1)] (by kernel_rfl) ?_
  refine ix rfl (det_own_one (v := .slice fQ fR.length fK) ty49 rfl rfl 0 rfl rfl) ?_
  refine ip 3 0 [(25, bv (decide ((fR.length : Int) ≤ 40)))] (by kernel_rfl) ?_
  exact JI_end (armI 4 20 25 g4 Foll.refl (mk [true] rfl) rfl rfl rfl rfl rfl)
 refine ip 1 0 [(3, bv ((((decide ((2 : Int) ≤ fC)) && (decide (fC ≤ 80))) && (decide ((1 : Int) ≤ (fR.length : Int)))) && (decide ((fR.length : Int) ≤ 40))))] (by kernel_rfl) ?_
 refine ie ?_
 refine sr 31 rfl ?_
 refine ip 2 29 [(27, bv ((((decide ((2 : Int) ≤ fC)) && (decide (fC ≤ 80))) && (decide ((1 : Int) ≤ (fR.length : Int)))) && (decide ((fR.length : Int) ≤ 40))))] (by kernel_rfl) ?_
 refine iand 5 24 27 32 (decide ((0 : Int) ≤ fU.row)) rfl (by kernel_rfl) (fun g5 => ?_) ?_
 ·have g5p : ((((2 : Int) ≤ fC) ∧ (fC ≤ 80)) ∧ ((1 : Int) ≤ (fR.length : Int))) ∧ ((fR.length : Int) ≤ 40) := by simpa using g5
  refine ip 2 3 [(29, pt b1 2)] (by kernel_rfl) ?_
  refine ix rfl (det_own_one (v := iv fU.row) ty3 rfl rfl 0 rfl rfl) ?_
  refine ip 2 0 [(32, bv (decide ((0 : Int) ≤ fU.row)))] (by kernel_rfl) ?_
  exact JI_end (armI 4 27 32 g5 Foll.refl (mk [true] rfl) rfl rfl rfl rfl rfl)
 refine ip 1 23 [(33, bv (((((decide ((2 : Int) ≤ fC)) && (decide (fC ≤ 80))) && (decide ((1 : Int) ≤ (fR.length : Int)))) && (decide ((fR.length : Int) ≤ 40))) && (decide ((0 : Int) ≤ fU.row))))] (by kernel_rfl) ?_
 refine iand 8 15 33 41 (decide (fU.row < (fR.length : Int))) rfl (by kernel_rfl) (fun g6 => ?_) ?_
 ·have g6p : (((((2 : Int) ≤ fC) ∧ (fC ≤ 80)) ∧ ((1 : Int) ≤ (fR.length : Int))) ∧ ((fR.length : Int) ≤ 40)) ∧ ((0 : Int) ≤ fU.row) := by simpa using g6
  refine ip 2 6 [(35, pt b1 2)] (by kernel_rfl) ?_
  refine ix rfl (det_own_one (v := iv fU.row) ty3 rfl rfl 0 rfl rfl) ?_
  refine ip 1 4 [(37, pt b1 1)] (by kernel_rfl) ?_
  refine ix rfl (det_own_one (v := .slice fQ fR.length fK) ty49 rfl rfl 0 rfl rfl) ?_
  refine ip 3 0 [(41, bv (decide (fU.row < (fR.length : Int))))] (by kernel_rfl) ?_
  exact JI_end (armI 6 33 41 g6 Foll.refl (mk [true] rfl) rfl rfl rfl rfl rfl)
 refine ip 1 14 [(42, bv ((((((decide ((2 : Int) ≤ fC)) && (decide (fC ≤ 80))) && (decide ((1 : Int) ≤ (fR.length : Int)))) && (decide ((fR.length : Int) ≤ 40))) && (decide ((0 : Int) ≤ fU.row))) && (decide (fU.row < (fR.length : Int)))))] (by kernel_rfl) ?_
 refine iand 5 9 42 47 (decide ((0 : Int) ≤ fU.col)) rfl (by kernel_rfl) (fun g7 => ?_) ?_
 ·have g7p : ((((((2 : Int) ≤ fC) ∧ (fC ≤ 80)) ∧ ((1 : Int) ≤ (fR.length : Int))) ∧ ((fR.length : Int) ≤ 40)) ∧ ((0 : Int) ≤ fU.row)) ∧ (fU.row < (fR.length : Int)) := by simpa using g7
  refine ip 2 3 [(44, pt b1 3)] (by kernel_rfl) ?_
  refine ix rfl (det_own_one (v := iv fU.col) ty3 rfl rfl 0 rfl rfl) ?_
  refine ip 2 0 [(47, bv (decide ((0 : Int) ≤ fU.col)))] (by kernel_rfl) ?_
  exact JI_end (armI 4 42 47 g7 Foll.refl (mk [true] rfl) rfl rfl rfl rfl rfl)
 refine ip 1 8 [(48, bv (((((((decide ((2 : Int) ≤ fC)) && (decide (fC ≤ 80))) && (decide ((1 : Int) ≤ (fR.length : Int)))) && (decide ((fR.length : Int) ≤ 40))) && (decide ((0 : Int) ≤ fU.row))) && (decide (fU.row < (fR.length : Int)))) && (decide ((0 : Int) ≤ fU.col))))] (by kernel_rfl) ?_
 refine iand 7 1 48 55 (decide (fU.col < fC)) rfl (by kernel_rfl) (fun g8 => ?_) ?_
 ·have g8p : (((((((2 : Int) ≤ fC) ∧ (fC ≤ 80)) ∧ ((1 : Int) ≤ (fR.length : Int))) ∧ ((fR.length : Int) ≤ 40)) ∧ ((0 : Int) ≤ fU.row)) ∧ (fU.row < (fR.length : Int))) ∧ ((0 : Int) ≤ fU.col) := by simpa using g8
  refine ip 2 5 [(50, pt b1 3)] (by kernel_rfl) ?_
  refine ix rfl (det_own_one (v := iv fU.col) ty3 rfl rfl 0 rfl rfl) ?_
  refine ip 1 3 [(52, pt b1 0)] (by kernel_rfl) ?_
  refine ix rfl (det_own_one (v := iv fC) ty3 rfl rfl 0 rfl rfl) ?_
  refine ip 2 0 [(55, bv (decide (fU.col < fC)))] (by kernel_rfl) ?_
  exact JI_end (armI 6 48 55 g8 Foll.refl (mk [true] rfl) rfl rfl rfl rfl rfl)
 refine ip 1 0 [(3, bv ((((((((decide ((2 : Int) ≤ fC)) && (decide (fC ≤ 80))) && (decide ((1 : Int) ≤ (fR.length : Int)))) && (decide ((fR.length : Int) ≤ 40))) && (decide ((0 : Int) ≤ fU.row))) && (decide (fU.row < (fR.length : Int)))) && (decide ((0 : Int) ≤ fU.col))) && (decide (fU.col < fC))))] (by kernel_rfl) ?_
 refine ie ?_
 refine sr 19 rfl ?_
 refine ip 2 17 [(57, bv ((((((((decide ((2 : Int) ≤ fC)) && (decide (fC ≤ 80))) && (decide ((1 : Int) ≤ (fR.length : Int)))) && (decide ((fR.length : Int) ≤ 40))) && (decide ((0 : Int) ≤ fU.row))) && (decide (fU.row < (fR.length : Int)))) && (decide ((0 : Int) ≤ fU.col))) && (decide (fU.col < fC))))] (by kernel_rfl) ?_
 refine iand 4 13 57 61 (decide ((0 : Int) ≤ fS)) rfl (by kernel_rfl) (fun g9 => ?_) ?_
 ·have g9p : ((((((((2 : Int) ≤ fC) ∧ (fC ≤ 80)) ∧ ((1 : Int) ≤ (fR.length : Int))) ∧ ((fR.length : Int) ≤ 40)) ∧ ((0 : Int) ≤ fU.row)) ∧ (fU.row < (fR.length : Int))) ∧ ((0 : Int) ≤ fU.col)) ∧ (fU.col < fC) := by simpa using g9
  refine ip 1 3 [(58, pt b1 5)] (by kernel_rfl) ?_
  refine ix rfl (det_own_one (v := iv fS) ty3 rfl rfl 0 rfl rfl) ?_
  refine ip 2 0 [(61, bv (decide ((0 : Int) ≤ fS)))] (by kernel_rfl) ?_
  exact JI_end (armI 4 57 61 g9 Foll.refl (mk [true] rfl) rfl rfl rfl rfl rfl)
 refine ip 1 12 [(62, bv (((((((((decide ((2 : Int) ≤ fC)) && (decide (fC ≤ 80))) && (decide ((1 : Int) ≤ (fR.length : Int)))) && (decide ((fR.length : Int) ≤ 40))) && (decide ((0 : Int) ≤ fU.row))) && (decide (fU.row < (fR.length : Int)))) && (decide ((0 : Int) ≤ fU.col))) && (decide (fU.col < fC))) && (decide ((0 : Int) ≤ fS))))] (by kernel_rfl) ?_
 refine iand 4 8 62 66 (decide (fS ≤ 6)) rfl (by kernel_rfl) (fun g10 => ?_) ?_
 ·have g10p : (((((((((2 : Int) ≤ fC) ∧ (fC ≤ 80)) ∧ ((1 : Int) ≤ (fR.length : Int))) ∧ ((fR.length : Int) ≤ 40)) ∧ ((0 : Int) ≤ fU.row)) ∧ (fU.row < (fR.length : Int))) ∧ ((0 : Int) ≤ fU.col)) ∧ (fU.col < fC)) ∧ ((0 : Int) ≤ fS) := by simpa using g10
  refine ip 1 3 [(63, pt b1 5)] (by kernel_rfl) ?_
  refine ix rfl (det_own_one (v := iv fS) ty3 rfl rfl 0 rfl rfl) ?_
  refine ip 2 0 [(66, bv (decide (fS ≤ 6)))] (by kernel_rfl) ?_
  exact JI_end (armI 4 62 66 g10 Foll.refl (mk [true] rfl) rfl rfl rfl rfl rfl)
 refine ip 1 7 [(67, bv ((((((((((decide ((2 : Int) ≤ fC)) && (decide (fC ≤ 80))) && (decide ((1 : Int) ≤ (fR.length : Int)))) && (decide ((fR.length : Int) ≤ 40))) && (decide ((0 : Int) ≤ fU.row))) && (decide (fU.row < (fR.length : Int)))) && (decide ((0 : Int) ≤ fU.col))) && (decide (fU.col < fC))) && (decide ((0 : Int) ≤ fS))) && (decide (fS ≤ 6))))] (by kernel_rfl) ?_
 refine iand 6 1 67 73 (decide ((action_Check 0 0 Col.zero fT) = 0)) rfl (by kernel_rfl) (fun g11 => ?_) ?_
 ·have g11p : ((((((((((2 : Int) ≤ fC) ∧ (fC ≤ 80)) ∧ ((1 : Int) ≤ (fR.length : Int))) ∧ ((fR.length : Int) ≤ 40)) ∧ ((0 : Int) ≤ fU.row)) ∧ (fU.row < (fR.length : Int))) ∧ ((0 : Int) ≤ fU.col)) ∧ (fU.col < fC)) ∧ ((0 : Int) ≤ fS)) ∧ (fS ≤ 6) := by simpa using g11
  refine ip 1 5 [(68, pt b1 6)] (by kernel_rfl) ?_
  refine ix rfl (det_own_one (v := sv fT) ty9 rfl rfl 0 rfl rfl) ?_
  refine ix rfl (det_build (cs := cAct ({ Act.zero with kind := 44, text := fT })) rfl rfl (by kernel_rfl)) ?_
  refine ixc rfl (det_call (action_Check_c 0 0 Col.zero fT (by first | omega | (simp <;> omega)) _ rfl) rfl rfl rfl rfl rfl Foll.nil) ?_
  refine ip 2 0 [(73, bv (decide ((action_Check 0 0 Col.zero fT) = 0)))] (by kernel_rfl) ?_
  exact JI_end (armI 6 67 73 g11 Foll.refl (mk [true] rfl) rfl rfl rfl rfl rfl)
 refine ip 1 0 [(3, bv (((((((((((decide ((2 : Int) ≤ fC)) && (decide (fC ≤ 80))) && (decide ((1 : Int) ≤ (fR.length : Int)))) && (decide ((fR.length : Int) ≤ 40))) && (decide ((0 : Int) ≤ fU.row))) && (decide (fU.row < (fR.length : Int)))) && (decide ((0 : Int) ≤ fU.col))) && (decide (fU.col < fC))) && (decide ((0 : Int) ≤ fS))) && (decide (fS ≤ 6))) && (decide ((action_Check 0 0 Col.zero fT) = 0))))] (by kernel_rfl) ?_
 refine ie ?_
 refine J_seq ?_
 refine J_label ?_
 refine nx ?_
 refine J_seq ?_
 refine sr 4 rfl ?_
 refine ip 1 3 [(74, pt b1 1)] (by kernel_rfl) ?_
 refine ix rfl (det_own_one (v := .slice fQ fR.length fK) ty49 rfl rfl 0 rfl rfl) ?_
 refine ip 2 0 [(76, iv (fR.length : Int)), (77, iv 0)] (by kernel_rfl) ?_
 refine ie ?_
 refine J_block ?_
 refine JL2 (fun (ok : Bool) (t77 : Nat) => t77 ≤ fR.length ∧ frame_Check_l0 fC (fR.drop t77) ok t77 = R) (fun (ok : Bool) (t77 : Nat) => [(1, pt b1 0), (3, bv ok), (75, .slice fQ fR.length fK), (76, iv (fR.length : Int)), (77, iv (t77 : Int))]) (fun (ok : Bool) (t77 : Nat) => [bx b1 [iv fC, .slice fQ fR.length fK, iv fU.row, iv fU.col, bv fV, iv fS, sv fT] 53]) (fun (ok : Bool) (t77 : Nat) => [sl cSlc fQ fZ, rowsF cCel fZ fR, sl cSpn (some ⟨0, 0, none⟩) tab0, sl cSpn (some ⟨1, 0, none⟩) tab1]) (fun (ok : Bool) (t77 : Nat) => fR.length - t77) (((((((((((decide ((2 : Int) ≤ fC)) && (decide (fC ≤ 80))) && (decide ((1 : Int) ≤ (fR.length : Int)))) && (decide ((fR.length : Int) ≤ 40))) && (decide ((0 : Int) ≤ fU.row))) && (decide (fU.row < (fR.length : Int)))) && (decide ((0 : Int) ≤ fU.col))) && (decide (fU.col < fC))) && (decide ((0 : Int) ≤ fS))) && (decide (fS ≤ 6))) && (decide ((action_Check 0 0 Col.zero fT) = 0))) 0 ⟨(by omega), hR⟩ ⟨rfl, (by first | rfl | (simp only [List.length_set]; rfl) | (simp; done) | (simp; omega)), rfl, rfl, (by first | rfl | (simp only [List.length_set]; rfl) | (simp; done) | (simp; omega)), trivial⟩ (mk [true] rfl) Foll.refl ?_
 rintro ok t77 ⟨hm12, hR⟩
 refine sr 1 rfl ?_
 refine ip 1 0 [(78, bv (decide ((t77 : Int) < (fR.length : Int))))] (by kernel_rfl) ?_
 refine ie ?_
 refine J_seq ?_
 refine J_if rfl (fun h13 => ?_) (fun h13 => ?_)
 ·have h13p : (t77 : Int) < (fR.length : Int) := by simpa using h13
  rw [dropc [] (show t77 < fR.length by omega)] at hR; replace hR := (frame_Check_l0.eq_2 ..).symm.trans hR
  refine J_skip ?_
  refine nx ?_
  refine J_seq ?_
  refine J_block ?_
  refine sr 3 rfl ?_
  refine JI_base 0 rfl (by omega) fun a14 hq15 => ?_
  refine JI_fact1 (rows_atD (k := t77) (d := (⟨none, 0, 0⟩ : Slc)) hrowsfRowsrs 1 rfl (by have := hrowsfRowsrs.1; omega)) ?_
  have := rows_cap hrowsfRowsrs (k := t77) (d := (⟨none, 0, 0⟩ : Slc)) (by have := hrowsfRowsrs.1; omega)
  refine ix rfl (det_ixq slt49 rfl rfl hq15 rfl t77 rfl (by omega)) ?_
  refine ix rfl (det_conv (det_ld_one (v := .slice ((fZ.getD t77 (⟨none, 0, 0⟩ : Slc)).q) ((fZ.getD t77 (⟨none, 0, 0⟩ : Slc)).n) ((fZ.getD t77 (⟨none, 0, 0⟩ : Slc)).k)) (us := [.slice ((fZ.getD t77 (⟨none, 0, 0⟩ : Slc)).q) ((fZ.getD t77 (⟨none, 0, 0⟩ : Slc)).n) ((fZ.getD t77 (⟨none, 0, 0⟩ : Slc)).k)]) ty67 rfl rfl (at_slq (c := cSlc) (sz := 1) hq15 (fun _ => rfl) 1 rfl (gd (⟨none, 0, 0⟩ : Slc) (by have := hrowsfRowsrs.1; omega))) rfl) (rows_val hrowsfRowsrs (by have := hrowsfRowsrs.1; omega))) ?_
  refine ip 1 0 [(5, .slice ((fZ.getD t77 (⟨none, 0, 0⟩ : Slc)).q) ((fR.getD t77 []).length) ((fZ.getD t77 (⟨none, 0, 0⟩ : Slc)).k))] (by kernel_rfl) ?_
  refine ie ?_
  refine sr 15 rfl ?_
  refine ip 2 13 [(82, bv ok)] (by kernel_rfl) ?_
  refine iand 6 7 82 88 (decide (((fR.getD t77 []).length : Int) = fC)) rfl (by kernel_rfl) (fun g16 => ?_) ?_
  ·refine ip 3 3 [(84, iv ((fR.getD t77 []).length : Int)), (85, pt b1 0)] (by kernel_rfl) ?_
   refine ix rfl (det_own_one (v := iv fC) ty3 rfl rfl 0 rfl rfl) ?_
   refine ip 2 0 [(88, bv (decide (((fR.getD t77 []).length : Int) = fC)))] (by kernel_rfl) ?_
   exact JI_end (armI 5 82 88 g16 Foll.refl (mk [true] rfl) rfl rfl rfl rfl rfl)
  refine ip 1 6 [(89, bv (ok && (decide (((fR.getD t77 []).length : Int) = fC))))] (by kernel_rfl) ?_
  refine iand 5 1 89 94 (decide ((row_Check (fR.getD t77 []) false) = 0)) rfl (by kernel_rfl) (fun g17 => ?_) ?_
  ·have g17p := g17; try simp at g17p
   refine ip 1 4 [(90, .slice ((fZ.getD t77 (⟨none, 0, 0⟩ : Slc)).q) ((fR.getD t77 []).length) ((fZ.getD t77 (⟨none, 0, 0⟩ : Slc)).k))] (by kernel_rfl) ?_
   refine ix rfl (det_build (cs := [.slice ((fZ.getD t77 (⟨none, 0, 0⟩ : Slc)).q) ((fR.getD t77 []).length) ((fZ.getD t77 (⟨none, 0, 0⟩ : Slc)).k), bv false]) rfl rfl (by kernel_rfl)) ?_
   refine ixc rfl (det_call (row_Check_c (fR.getD t77 []) false ((fZ.getD t77 (⟨none, 0, 0⟩ : Slc)).q) ((fZ.getD t77 (⟨none, 0, 0⟩ : Slc)).k) (by first | omega | (simp <;> omega) | (dsimp only; omega) | decide) (by first | omega | (simp <;> omega) | (dsimp only; omega) | decide) _ rfl) rfl rfl rfl rfl rfl (Foll.pick [0, 3, 4] rfl)) ?_
   refine ip 2 0 [(94, bv (decide ((row_Check (fR.getD t77 []) false) = 0)))] (by kernel_rfl) ?_
   exact JI_end (armI 5 89 94 g17 Foll.refl (mk [true] rfl) rfl rfl rfl rfl rfl)
  refine ip 1 0 [(3, bv ((ok && (decide (((fR.getD t77 []).length : Int) = fC))) && (decide ((row_Check (fR.getD t77 []) false) = 0))))] (by kernel_rfl) ?_
  refine ie ?_
  refine sr 2 rfl ?_
  refine ip 2 0 [(96, bv (!((ok && (decide (((fR.getD t77 []).length : Int) = fC))) && (decide ((row_Check (fR.getD t77 []) false) = 0)))))] (by kernel_rfl) ?_
  refine ie ?_
  refine J_if rfl (fun h18 => ?_) (fun h18 => ?_)
  ·have h18p := h18; try simp at h18p
   replace hR := bt hR h18
   refine J_exit ?_
   refine nx ?_
   refine J_seq ?_
   refine sr 2 rfl ?_
   refine ip 2 0 [(99, bv (!((ok && (decide (((fR.getD t77 []).length : Int) = fC))) && (decide ((row_Check (fR.getD t77 []) false) = 0)))))] (by kernel_rfl) ?_
   refine ie ?_
   refine J_if rfl (fun h19 => ?_) (fun h19 => ?_)
   ·have h19p := h19; try simp at h19p
    replace hR := bt hR h19
    refine sr 1 rfl ?_
    refine ip 1 0 [(2, iv 330)] (by kernel_rfl) ?_
    refine ie ?_
    refine J_ret ?_
    subst hR
    exact ends_ret rfl ⟨hr, hD⟩ (by simp [hD]) (res1 rfl (resV_tmp rfl)) () (by rfl) (mk [false] rfl) Foll.nil
   ·have h19p := h19; try simp at h19p
    replace hR := bf hR h19
    refine J_skip ?_
    refine nx ?_
    refine sr 1 rfl ?_
    refine ip 1 0 [(2, iv 0)] (by kernel_rfl) ?_
    refine ie ?_
    refine J_ret ?_
    subst hR
    exact ends_ret rfl ⟨hr, hD⟩ (by simp [hD]) (res1 rfl (resV_tmp rfl)) () (by rfl) (mk [false] rfl) Foll.nil
  ·have h18p := h18; try simp at h18p
   replace hR := bf hR h18
   refine J_skip ?_
   refine nx ?_
   refine J_region 2 rfl ?_
   refine ix rfl (det_add64 rfl rfl rfl rfl (by omega)) ?_
   refine ip 1 0 [(77, iv ((t77 : Int) + 1))] (by kernel_rfl) ?_
   refine JI_end ?_
   exact againL2 (z1 := ok) (z2 := t77) ((ok && (decide (((fR.getD t77 []).length : Int) = fC))) && (decide ((row_Check (fR.getD t77 []) false) = 0))) (t77 + 1) ⟨(by omega), hR⟩ (by (try dsimp only); omega) ⟨rfl, (by first | rfl | (simp only [List.length_set]; rfl) | (simp; done) | (simp; omega)), rfl, rfl, (by first | rfl | (simp only [List.length_set]; rfl) | (simp; done) | (simp; omega)), trivial⟩ (mk [true] rfl) (Foll.pick [1, 2, 3, 4] rfl)
 ·have h13p : ¬ ((t77 : Int) < (fR.length : Int)) := by simpa using h13
  rw [dropn h13p] at hR; replace hR := (frame_Check_l0.eq_1 ..).symm.trans hR
  refine J_exit ?_
  refine nx ?_
  refine J_seq ?_
  refine sr 2 rfl ?_
  refine ip 2 0 [(99, bv (!ok))] (by kernel_rfl) ?_
  refine ie ?_
  refine J_if rfl (fun h20 => ?_) (fun h20 => ?_)
  ·replace hR := bt hR h20
   refine sr 1 rfl ?_
   refine ip 1 0 [(2, iv 330)] (by kernel_rfl) ?_
   refine ie ?_
   refine J_ret ?_
   subst hR
   exact ends_ret rfl ⟨hr, hD⟩ (by simp [hD]) (res1 rfl (resV_tmp rfl)) () (by rfl) (mk [false] rfl) Foll.nil
  ·replace hR := bf hR h20
   refine J_skip ?_
   refine nx ?_
   refine sr 1 rfl ?_
   refine ip 1 0 [(2, iv 0)] (by kernel_rfl) ?_
   refine ie ?_
   refine J_ret ?_
   subst hR
   exact ends_ret rfl ⟨hr, hD⟩ (by simp [hD]) (res1 rfl (resV_tmp rfl)) () (by rfl) (mk [false] rfl) Foll.nil

def damage_checked (aC : Int) (aR : List (List Cel)) (aU : Plc) (aV : Bool) (aS : Int) (aT : List UInt8) (bC : Int) (bR : List (List Cel)) (bU : Plc) (bV : Bool) (bS : Int) (bT : List UInt8) : Int :=
 (bif (!decide ((frame_Check aC aR aU aV aS aT) = 0)) then (frame_Check aC aR aU aV aS aT) else (bif (!decide ((frame_Check bC bR bU bV bS bT) = 0)) then (frame_Check bC bR bU bV bS bT) else (bif ((!decide (aC = bC)) || (!decide ((aR.length : Int) = (bR.length : Int)))) then 2 else 0)))

theorem damage_checked_ok {aC : Int} {aR : List (List Cel)} {aU : Plc} {aV : Bool} {aS : Int} {aT : List UInt8} {bC : Int} {bR : List (List Cel)} {bU : Plc} {bV : Bool} {bS : Int} {bT : List UInt8}
  (h : damage_checked aC aR aU aV aS aT bC bR bU bV bS bT = 0) :
  (2 ≤ aC ∧ aC ≤ 80 ∧ 1 ≤ aR.length ∧ aR.length ≤ 40 ∧ ∀ i, i < aR.length → ((aR.getD i []).length : Int) = aC) ∧
  (2 ≤ bC ∧ bC ≤ 80 ∧ 1 ≤ bR.length ∧ bR.length ≤ 40 ∧ ∀ i, i < bR.length → ((bR.getD i []).length : Int) = bC) ∧ aC = bC ∧ aR.length = bR.length := by
 unfold damage_checked at h
 cases h1 : decide (frame_Check aC aR aU aV aS aT = 0) with
 | false => rw [h1] at h; simp at h h1; exact absurd h h1
 | true =>
  rw [h1] at h
  cases h2 : decide (frame_Check bC bR bU bV bS bT = 0) with
  | false => rw [h2] at h; simp at h h2; exact absurd h h2
  | true =>
   rw [h2] at h
   simp only [decide_eq_true_eq] at h1 h2
   refine ⟨frame_Check_ok h1, frame_Check_ok h2, ?_⟩
   simp only [Bool.not_true, cond_false] at h
   cases h3 : decide (aC = bC) <;> cases h4 : decide ((aR.length : Int) = (bR.length : Int)) <;> rw [h3, h4] at h <;> simp at h h3 h4
   exact ⟨by omega, by omega⟩

theorem damage_checked_c (aC : Int) (aR : List (List Cel)) (aU : Plc) (aV : Bool) (aS : Int) (aT : List UInt8) (bC : Int) (bR : List (List Cel)) (bU : Plc) (bV : Bool) (bS : Int) (bT : List UInt8) (aQ : Option Addr) (aZ : List Slc) (aK : Nat) (bQ : Option Addr) (bZ : List Slc) (bK : Nat) (hrowsaRowsrs : RowsOk aZ aR) (hlaRows : aR.length ≤ 9223372036854775807) (hcaRows : aR.length ≤ aK) (hrowsbRowsrs : RowsOk bZ bR) (hlbRows : bR.length ≤ 9223372036854775807) (hcbRows : bR.length ≤ bK) (hT : aT.length ≤ 100000000) (hT2 : bT.length ≤ 100000000) (R : Int) (hR : damage_checked aC aR aU aV aS aT bC bR bU bV bS bT = R) : ConV Tryz.prog 168 [ag [iv aC, .slice aQ aR.length aK, iv aU.row, iv aU.col, bv aV, iv aS, sv aT], ag [iv bC, .slice bQ bR.length bK, iv bU.row, iv bU.col, bv bV, iv bS, sv bT]] [sl cSlc aQ aZ, rowsF cCel aZ aR, sl cSlc bQ bZ, rowsF cCel bZ bR, sl cSpn (some ⟨0, 0, none⟩) tab0, sl cSpn (some ⟨1, 0, none⟩) tab1] (iv R) := by
 refine con_of_J (n := 34) Tryz.func168 rfl (by kernel_rfl) rfl rfl [(0, ag [iv aC, .slice aQ aR.length aK, iv aU.row, iv aU.col, bv aV, iv aS, sv aT]), (1, ag [iv bC, .slice bQ bR.length bK, iv bU.row, iv bU.col, bv bV, iv bS, sv bT])] ⟨rfl, rfl, trivial⟩ fun X hX hr hD => ?_
 replace hR := (damage_checked.eq_1 ..).symm.trans hR
 have := hrowsaRowsrs.1
 have := hrowsbRowsrs.1
 refine sr 3 rfl ?_
 refine it rfl (tri_box (cs := [iv aC, .slice aQ aR.length aK, iv aU.row, iv aU.col, bv aV, iv aS, sv aT]) rfl rfl rfl) fun b1 => ?_
 refine it rfl (tri_box (cs := [iv bC, .slice bQ bR.length bK, iv bU.row, iv bU.col, bv bV, iv bS, sv bT]) rfl rfl rfl) fun b2 => ?_
 refine ip 1 0 [] (by kernel_rfl) ?_
 refine ie ?_
 refine J_seq ?_
 refine sr 4 rfl ?_
 refine ix rfl (det_own_agg (us := [iv aC, .slice aQ aR.length aK, iv aU.row, iv aU.col, bv aV, iv aS, sv aT]) ty53 rfl rfl 1 rfl rfl rfl) ?_
 refine ix rfl (det_own_agg (us := [iv bC, .slice bQ bR.length bK, iv bU.row, iv bU.col, bv bV, iv bS, sv bT]) ty53 rfl rfl 0 rfl rfl rfl) ?_
 refine ix rfl (det_build (cs := [iv aC, .slice aQ aR.length aK, iv aU.row, iv aU.col, bv aV, iv aS, sv aT, iv bC, .slice bQ bR.length bK, iv bU.row, iv bU.col, bv bV, iv bS, sv bT]) rfl rfl (by kernel_rfl)) ?_
 refine ip 1 0 [(11, iv 0)] (by kernel_rfl) ?_
 refine ie ?_
 refine J_block ?_
 refine J_rounds 4 ?_
 refine JR_succ ?_
 refine sr 1 rfl ?_
 refine ip 1 0 [(12, bv true)] (by kernel_rfl) ?_
 refine ie ?_
 refine J_seq ?_
 refine J_yes rfl ?_
 refine J_skip ?_
 refine nx ?_
 refine J_seq ?_
 refine J_block ?_
 refine sr 3 rfl ?_
 refine ix rfl (det_index (v := ag [iv aC, .slice aQ aR.length aK, iv aU.row, iv aU.col, bv aV, iv aS, sv aT]) (us := [iv aC, .slice aQ aR.length aK, iv aU.row, iv aU.col, bv aV, iv aS, sv aT]) Tryz.underlying275 ty53 rfl rfl rfl 0 rfl (by decide) rfl rfl rfl) ?_
 refine it rfl (tri_alloc (cs := [iv 0, .slice none 0 0, iv 0, iv 0, bv false, iv 0, sv ([] : List UInt8)]) zero53 rfl) fun b3 => ?_
 refine it rfl (tri_store (us := [iv aC, .slice aQ aR.length aK, iv aU.row, iv aU.col, bv aV, iv aS, sv aT]) (cs' := [iv aC, .slice aQ aR.length aK, iv aU.row, iv aU.col, bv aV, iv aS, sv aT]) ty53 rfl rfl rfl 0 rfl rfl rfl rfl rfl rfl) fun _ => ?_
 refine ie ?_
 refine sr 3 rfl ?_
 refine ix rfl (det_own_agg (us := [iv aC, .slice aQ aR.length aK, iv aU.row, iv aU.col, bv aV, iv aS, sv aT]) ty53 rfl rfl 0 rfl rfl rfl) ?_
 refine ixc rfl (det_call (frame_Check_c aC aR aU aV aS aT aQ aZ aK hrowsaRowsrs (by first | omega | (simp <;> omega) | (dsimp only; omega) | decide) (by first | omega | (simp <;> omega) | (dsimp only; omega) | decide) (by first | omega | (simp <;> omega)) _ rfl) rfl rfl rfl rfl rfl (Foll.pick [0, 1, 4, 5] rfl)) ?_
 refine ip 1 0 [(7, iv (frame_Check aC aR aU aV aS aT))] (by kernel_rfl) ?_
 refine ie ?_
 refine sr 2 rfl ?_
 refine ip 2 0 [(17, bv (!decide ((frame_Check aC aR aU aV aS aT) = 0)))] (by kernel_rfl) ?_
 refine ie ?_
 refine J_if rfl (fun h4 => ?_) (fun h4 => ?_)
 ·have h4p : ¬ (frame_Check aC aR aU aV aS aT) = 0 := by simpa using h4
  replace hR := bt hR h4
  refine sr 2 rfl ?_
  refine ip 2 0 [(4, iv (frame_Check aC aR aU aV aS aT))] (by kernel_rfl) ?_
  refine ie ?_
  refine J_ret ?_
  subst hR
  exact ends_ret rfl ⟨hr, hD⟩ (by simp [hD]) (res1 rfl (resV_tmp rfl)) () (by rfl) (mk [false, false, false] rfl) Foll.nil
 ·have h4p : ¬ (¬ (frame_Check aC aR aU aV aS aT) = 0) := by simpa using h4
  replace hR := bf hR h4
  refine J_skip ?_
  refine nx ?_
  refine J_region 2 rfl ?_
  refine ix rfl (det_add64 (c := 1) rfl rfl rfl rfl (by decide)) ?_
  refine ip 1 0 [(11, iv 1)] (by kernel_rfl) ?_
  refine JI_end ?_
  refine JR_succ ?_
  refine sr 1 rfl ?_
  refine ip 1 0 [(12, bv true)] (by kernel_rfl) ?_
  refine ie ?_
  refine J_seq ?_
  refine J_yes rfl ?_
  refine J_skip ?_
  refine nx ?_
  refine J_seq ?_
  refine J_block ?_
  refine sr 3 rfl ?_
  refine ix rfl (det_index (v := ag [iv bC, .slice bQ bR.length bK, iv bU.row, iv bU.col, bv bV, iv bS, sv bT]) (us := [iv bC, .slice bQ bR.length bK, iv bU.row, iv bU.col, bv bV, iv bS, sv bT]) Tryz.underlying275 ty53 rfl rfl rfl 1 rfl (by decide) rfl rfl rfl) ?_
  refine it rfl (tri_alloc (cs := [iv 0, .slice none 0 0, iv 0, iv 0, bv false, iv 0, sv ([] : List UInt8)]) zero53 rfl) fun b5 => ?_
  refine it rfl (tri_store (us := [iv bC, .slice bQ bR.length bK, iv bU.row, iv bU.col, bv bV, iv bS, sv bT]) (cs' := [iv bC, .slice bQ bR.length bK, iv bU.row, iv bU.col, bv bV, iv bS, sv bT]) ty53 rfl rfl rfl 0 rfl rfl rfl rfl rfl rfl) fun _ => ?_
  refine ie ?_
  refine sr 3 rfl ?_
  refine ix rfl (det_own_agg (us := [iv bC, .slice bQ bR.length bK, iv bU.row, iv bU.col, bv bV, iv bS, sv bT]) ty53 rfl rfl 0 rfl rfl rfl) ?_
  refine ixc rfl (det_call (frame_Check_c bC bR bU bV bS bT bQ bZ bK hrowsbRowsrs (by first | omega | (simp <;> omega) | (dsimp only; omega) | decide) (by first | omega | (simp <;> omega) | (dsimp only; omega) | decide) (by first | omega | (simp <;> omega)) _ rfl) rfl rfl rfl rfl rfl (Foll.pick [2, 3, 4, 5] rfl)) ?_
  refine ip 1 0 [(7, iv (frame_Check bC bR bU bV bS bT))] (by kernel_rfl) ?_
  refine ie ?_
  refine sr 2 rfl ?_
  refine ip 2 0 [(17, bv (!decide ((frame_Check bC bR bU bV bS bT) = 0)))] (by kernel_rfl) ?_
  refine ie ?_
  refine J_if rfl (fun h6 => ?_) (fun h6 => ?_)
  ·have h6p : ¬ (frame_Check bC bR bU bV bS bT) = 0 := by simpa using h6
   replace hR := bt hR h6
   refine sr 2 rfl ?_
   refine ip 2 0 [(4, iv (frame_Check bC bR bU bV bS bT))] (by kernel_rfl) ?_
   refine ie ?_
   refine J_ret ?_
   subst hR
   exact ends_ret rfl ⟨hr, hD⟩ (by simp [hD]) (res1 rfl (resV_tmp rfl)) () (by rfl) (mk [false, false, false, false] rfl) Foll.nil
  ·have h6p : ¬ (¬ (frame_Check bC bR bU bV bS bT) = 0) := by simpa using h6
   replace hR := bf hR h6
   refine J_skip ?_
   refine nx ?_
   refine J_region 2 rfl ?_
   refine ix rfl (det_add64 (c := 2) rfl rfl rfl rfl (by decide)) ?_
   refine ip 1 0 [(11, iv 2)] (by kernel_rfl) ?_
   refine JI_end ?_
   refine JR_succ ?_
   refine sr 1 rfl ?_
   refine ip 1 0 [(12, bv false)] (by kernel_rfl) ?_
   refine ie ?_
   refine J_seq ?_
   refine J_no rfl ?_
   refine J_exit ?_
   refine nx ?_
   refine J_seq ?_
   refine sr 14 rfl ?_
   refine ip 1 13 [(20, pt b1 0)] (by kernel_rfl) ?_
   refine ix rfl (det_own_one (v := iv aC) ty3 rfl rfl 3 rfl rfl) ?_
   refine ip 1 11 [(22, pt b2 0)] (by kernel_rfl) ?_
   refine ix rfl (det_own_one (v := iv bC) ty3 rfl rfl 2 rfl rfl) ?_
   refine ip 2 8 [(25, bv (!decide (aC = bC)))] (by kernel_rfl) ?_
   refine ior 8 0 25 33 (!decide ((aR.length : Int) = (bR.length : Int))) rfl (by kernel_rfl) (fun g7 => ?_) ?_
   ·have g7p : ¬ (¬ aC = bC) := by simpa using g7
    refine ip 1 7 [(26, pt b1 1)] (by kernel_rfl) ?_
    refine ix rfl (det_own_one (v := .slice aQ aR.length aK) ty49 rfl rfl 3 rfl rfl) ?_
    refine ip 2 4 [(28, iv (aR.length : Int)), (29, pt b2 1)] (by kernel_rfl) ?_
    refine ix rfl (det_own_one (v := .slice bQ bR.length bK) ty49 rfl rfl 2 rfl rfl) ?_
    refine ip 3 0 [(33, bv (!decide ((aR.length : Int) = (bR.length : Int))))] (by kernel_rfl) ?_
    exact JI_end (armI 7 25 33 g7 Foll.refl (mk [true, true, true, true] rfl) rfl rfl rfl rfl rfl)
   refine ie ?_
   refine J_if rfl (fun h8 => ?_) (fun h8 => ?_)
   ·have h8p : (¬ aC = bC) ∨ (¬ (aR.length : Int) = (bR.length : Int)) := by simpa using h8
    replace hR := bt hR h8
    refine sr 1 rfl ?_
    refine ip 1 0 [(4, iv 2)] (by kernel_rfl) ?_
    refine ie ?_
    refine J_ret ?_
    subst hR
    exact ends_ret rfl ⟨hr, hD⟩ (by simp [hD]) (res1 rfl (resV_tmp rfl)) () (by rfl) (mk [false, false, false, false] rfl) Foll.nil
   ·have h8p : ¬ ((¬ aC = bC) ∨ (¬ (aR.length : Int) = (bR.length : Int))) := by simpa using h8
    replace hR := bf hR h8
    refine J_skip ?_
    refine nx ?_
    refine sr 1 rfl ?_
    refine ip 1 0 [(4, iv 0)] (by kernel_rfl) ?_
    refine ie ?_
    refine J_ret ?_
    subst hR
    exact ends_ret rfl ⟨hr, hD⟩ (by simp [hD]) (res1 rfl (resV_tmp rfl)) () (by rfl) (mk [false, false, false, false] rfl) Foll.nil

def damage_spans (row : Int) (a : List Cel) (b : List Cel) : List Cel × List Cel × Int :=
 (a, b, row)

theorem damage_spans_c (row : Int) (a : List Cel) (b : List Cel) (aq : Option Addr) (ak : Nat) (bq : Option Addr) (bk : Nat) (hla : a.length ≤ 9223372036854775807) (hca : a.length ≤ ak) (hlb : b.length ≤ 9223372036854775807) (hcb : b.length ≤ bk) (R : List Cel × List Cel × Int) (hR : damage_spans row a b = R) : Con Tryz.prog 169 [iv row, .slice aq a.length ak, .slice bq b.length bk] [] [sl cCel aq a, sl cCel bq b] (Addr × {t : Option Addr × Nat // R.1.length ≤ t.2 ∧ R.1.length ≤ 9223372036854775807} × Addr × {t : Option Addr × Nat // R.2.1.length ≤ t.2 ∧ R.2.1.length ≤ 9223372036854775807} × Addr) (fun x => .func (.func 214) #[] #[pa x.1, pa x.2.2.1, pa x.2.2.2.2]) (fun x => []) (fun x => [at_ x.1 [.slice x.2.1.1.1 R.1.length x.2.1.1.2], sl cCel x.2.1.1.1 R.1, at_ x.2.2.1 [.slice x.2.2.2.1.1.1 R.2.1.length x.2.2.2.1.1.2], sl cCel x.2.2.2.1.1.1 R.2.1, at_ x.2.2.2.2 [iv R.2.2]]) := by
 refine con_of_J (n := 8) Tryz.func169 rfl (by kernel_rfl) rfl rfl [(0, iv row), (1, .slice aq a.length ak), (2, .slice bq b.length bk)] ⟨rfl, rfl, rfl, trivial⟩ fun X hX hr hD => ?_
 replace hR := (damage_spans.eq_1 ..).symm.trans hR
 refine sr 4 rfl ?_
 refine it rfl (tri_box (cs := [iv row]) rfl rfl rfl) fun b1 => ?_
 refine JI_fix 0 rfl ?_
 refine it rfl (tri_box (cs := [.slice aq a.length ak]) rfl rfl rfl) fun b2 => ?_
 refine JI_fix 0 rfl ?_
 refine it rfl (tri_box (cs := [.slice bq b.length bk]) rfl rfl rfl) fun b3 => ?_
 refine JI_fix 0 rfl ?_
 refine ip 1 0 [] (by kernel_rfl) ?_
 refine ie ?_
 refine sr 2 rfl ?_
 refine ip 2 0 [(6, .func (.func 214) #[] #[pa ⟨b2, 0, none⟩, pa ⟨b3, 0, none⟩, pa ⟨b1, 0, none⟩])] (by kernel_rfl) ?_
 refine ie ?_
 refine J_ret ?_
 subst hR
 exact ends_ret rfl ⟨hr, hD⟩ (by simp [hD]) (res1 rfl (resV_tmp rfl)) (⟨b2, 0, none⟩, ⟨(aq, ak), (by first | omega | (simp <;> omega) | (dsimp only; omega) | decide), (by first | omega | (simp <;> omega) | (dsimp only; omega) | decide)⟩, ⟨b3, 0, none⟩, ⟨(bq, bk), (by first | omega | (simp <;> omega) | (dsimp only; omega) | decide), (by first | omega | (simp <;> omega) | (dsimp only; omega) | decide)⟩, ⟨b1, 0, none⟩) (by rfl) (mk [] rfl) (Foll.con1 (at_of 1 rfl) (Foll.con1 (at_of 3 rfl) (Foll.con1 (at_of 0 rfl) (Foll.con1 (at_of 4 rfl) (Foll.con1 (at_of 2 rfl) Foll.nil)))))

def damage_linked (a : List Cel) (b : List Cel) (i : Int) : Bool :=
 ((decide ((a.getD ((i).toNat) Cel.zero).wide = 1)) || (decide ((b.getD ((i).toNat) Cel.zero).wide = 1)))

theorem damage_linked_c (a : List Cel) (b : List Cel) (i : Int) (aq : Option Addr) (ak : Nat) (bq : Option Addr) (bk : Nat) (hla : a.length ≤ 9223372036854775807) (hca : a.length ≤ ak) (hlb : b.length ≤ 9223372036854775807) (hcb : b.length ≤ bk) (h1 : 0 ≤ i) (h2 : i < a.length) (h3 : i < b.length) (R : Bool) (hR : damage_linked a b i = R) : ConV Tryz.prog 215 [.slice aq a.length ak, .slice bq b.length bk, iv i] [sl cCel aq a, sl cCel bq b] (bv R) := by
 refine con_of_J (n := 21) Tryz.func215 rfl (by kernel_rfl) rfl rfl [(0, .slice aq a.length ak), (1, .slice bq b.length bk), (2, iv i)] ⟨rfl, rfl, rfl, trivial⟩ fun X hX hr hD => ?_
 replace hR := (damage_linked.eq_1 ..).symm.trans hR
 refine sr 1 rfl ?_
 refine ip 1 0 [] (by kernel_rfl) ?_
 refine ie ?_
 refine sr 15 rfl ?_
 refine ip 2 13 [(7, .slice aq a.length ak), (8, iv i)] (by kernel_rfl) ?_
 refine JI_base 0 rfl (by omega) fun a1 hq2 => ?_
 refine ix rfl (det_ixq slt67 rfl rfl hq2 rfl ((i).toNat) (by omega) (by omega)) ?_
 refine ip 1 11 [(10, pa ((Addr.add a1 (((i).toNat) * 12)).add 3))] (by kernel_rfl) ?_
 refine ix rfl (det_ld_one (v := iv ((a.getD ((i).toNat) Cel.zero).wide)) (us := [iv ((a.getD ((i).toNat) Cel.zero).wide)]) ty3 rfl rfl (at_part (at_slq (c := cCel) (sz := 12) hq2 (fun _ => rfl) 0 rfl (gd Cel.zero (by omega))) (ws := [iv ((a.getD ((i).toNat) Cel.zero).wide)]) 3 1 rfl) rfl) ?_
 refine ip 2 8 [(13, bv (decide ((a.getD ((i).toNat) Cel.zero).wide = 1)))] (by kernel_rfl) ?_
 refine ior 7 1 13 20 (decide ((b.getD ((i).toNat) Cel.zero).wide = 1)) rfl (by kernel_rfl) (fun g3 => ?_) ?_
 ·have g3p : ¬ ((a.getD ((i).toNat) Cel.zero).wide = 1) := by simpa using g3
  refine ip 2 5 [(14, .slice bq b.length bk), (15, iv i)] (by kernel_rfl) ?_
  refine JI_base 1 rfl (by omega) fun a4 hq5 => ?_
  refine ix rfl (det_ixq slt67 rfl rfl hq5 rfl ((i).toNat) (by omega) (by omega)) ?_
  refine ip 1 3 [(17, pa ((Addr.add a4 (((i).toNat) * 12)).add 3))] (by kernel_rfl) ?_
  refine ix rfl (det_ld_one (v := iv ((b.getD ((i).toNat) Cel.zero).wide)) (us := [iv ((b.getD ((i).toNat) Cel.zero).wide)]) ty3 rfl rfl (at_part (at_slq (c := cCel) (sz := 12) hq5 (fun _ => rfl) 1 rfl (gd Cel.zero (by omega))) (ws := [iv ((b.getD ((i).toNat) Cel.zero).wide)]) 3 1 rfl) rfl) ?_
  refine ip 2 0 [(20, bv (decide ((b.getD ((i).toNat) Cel.zero).wide = 1)))] (by kernel_rfl) ?_
  exact JI_end (armI 7 13 20 g3 Foll.refl (mk [] rfl) rfl rfl rfl rfl rfl)
 refine ip 1 0 [(6, bv ((decide ((a.getD ((i).toNat) Cel.zero).wide = 1)) || (decide ((b.getD ((i).toNat) Cel.zero).wide = 1))))] (by kernel_rfl) ?_
 refine ie ?_
 refine J_ret ?_
 subst hR
 exact ends_ret rfl ⟨hr, hD⟩ (by simp [hD]) (res1 rfl (resV_tmp rfl)) () (by rfl) (mk [] rfl) Foll.nil

def damage_spans_1_l3 (c0 : List Cel) (c1 : List Cel) (c2 : Int) (from_ : Nat) (ag_damage_spans_1_l2 : Nat → List Sp3) : Nat → Nat → Bool → List Sp3
 | 0, _, _ => []
 | fu3 + 1, to, differs => (bif ((decide ((to : Int) < (c0.length : Int))) && (damage_linked c0 c1 ((to : Int) - 1))) then damage_spans_1_l3 c0 c1 c2 from_ ag_damage_spans_1_l2 fu3 (to + 1) (differs || (!(decide ((c0.getD to Cel.zero) = (c1.getD to Cel.zero))))) else (bif differs then ({ Sp3.zero with row := c2, frm := (from_ : Int), to := (to : Int) } :: ag_damage_spans_1_l2 to) else ag_damage_spans_1_l2 to))
def damage_spans_1_l2 (c0 : List Cel) (c1 : List Cel) (c2 : Int) : Nat → Nat → List Sp3
 | 0, _ => []
 | fu1 + 1, from_ => (bif (decide ((from_ : Int) < (c0.length : Int))) then damage_spans_1_l3 c0 c1 c2 from_ (damage_spans_1_l2 c0 c1 c2 fu1) ((c0.length - (from_ + 1)) + 1) (from_ + 1) (!(decide ((c0.getD from_ Cel.zero) = (c1.getD from_ Cel.zero)))) else [])
def damage_spans_1 (c0 : List Cel) (c1 : List Cel) (c2 : Int) : List Sp3 :=
 damage_spans_1_l2 c0 c1 c2 ((c0.length - 0) + 1) 0

theorem damage_spans_1_l3_len (c0 c1 : List Cel) (c2 : Int) (f : Nat) (ag : Nat → List Sp3) (hag : ∀ t, t ≤ c0.length → (ag t).length ≤ c0.length - t) :
  ∀ (fu to : Nat) (d : Bool), to ≤ c0.length → (damage_spans_1_l3 c0 c1 c2 f ag fu to d).length ≤ 1 + (c0.length - to)
 | 0, to, d, h => by simp [damage_spans_1_l3]
 | fu + 1, to, d, h => by
  simp only [damage_spans_1_l3]
  cases hc : (decide ((to : Int) < (c0.length : Int)) && damage_linked c0 c1 ((to : Int) - 1)) with
  | false => have := hag to h; cases d <;> simp <;> omega
  | true =>
   simp only [Bool.and_eq_true, decide_eq_true_eq] at hc
   have h2 := fun d' => damage_spans_1_l3_len c0 c1 c2 f ag hag fu (to + 1) d' (by omega)
   simp only [cond_true]
   exact Nat.le_trans (h2 _) (by omega)
theorem damage_spans_1_l2_len (c0 c1 : List Cel) (c2 : Int) : ∀ (fu f : Nat), f ≤ c0.length → (damage_spans_1_l2 c0 c1 c2 fu f).length ≤ c0.length - f
 | 0, f, h => by simp [damage_spans_1_l2]
 | fu + 1, f, h => by
  simp only [damage_spans_1_l2]
  cases hc : decide ((f : Int) < (c0.length : Int)) with
  | false => simp
  | true =>
   simp only [decide_eq_true_eq] at hc
   simp only [cond_true]
   exact Nat.le_trans (damage_spans_1_l3_len c0 c1 c2 f _ (fun t ht => damage_spans_1_l2_len c0 c1 c2 fu t ht) _ _ _ (by omega)) (by omega)
theorem damage_spans_1_len (c0 c1 : List Cel) (c2 : Int) : (damage_spans_1 c0 c1 c2).length ≤ c0.length := by
 have := damage_spans_1_l2_len c0 c1 c2 (c0.length - 0 + 1) 0 (Nat.zero_le _); simpa [damage_spans_1] using this

theorem damage_spans_1_c (c0 : List Cel) (c1 : List Cel) (c2 : Int) (c0p : Addr) (c0q : Option Addr) (c0k : Nat) (c1p : Addr) (c1q : Option Addr) (c1k : Nat) (c2p : Addr) (hlc0 : c0.length ≤ 9223372036854775807) (hcc0 : c0.length ≤ c0k) (hlc1 : c1.length ≤ 9223372036854775807) (hcc1 : c1.length ≤ c1k) (hl : c0.length = c1.length) (h6 : c0.length ≤ 1000000) (R : List Sp3) (hR : damage_spans_1 c0 c1 c2 = R) : IterCon Tryz.prog 214 [pa c0p, pa c1p, pa c2p] [sl cCel c0q c0, at_ c0p [.slice c0q c0.length c0k], sl cCel c1q c1, at_ c1p [.slice c1q c1.length c1k], at_ c2p [iv c2]] (fun x => ag (cSp3 x)) R := by
 refine iter_of_J (n := 59) Tryz.func214 rfl (by kernel_rfl) rfl rfl (fun l => [(0, .func (.yield l) #[] #[]), (1, pa c0p), (2, pa c1p), (3, pa c2p)]) (fun l => ⟨rfl, rfl, rfl, rfl, trivial⟩) fun X l I Ix L Φ hX hr hD hI0 hY => ?_
 replace hR := (damage_spans_1.eq_1 ..).symm.trans hR
 refine sr 1 rfl ?_
 refine ip 1 0 [(5, iv 0)] (by kernel_rfl) ?_
 refine ie ?_
 refine J_block ?_
 refine JL5 (fun (fu : Nat) (from_ : Nat) (R_ : List Sp3) (Lt : Fen.Own) (Ft : List Pers) => (c0.length - from_) < fu ∧ damage_spans_1_l2 c0 c1 c2 fu from_ = R_ ∧ I R_ Lt Ft ∧ from_ ≤ c0.length) (fun (fu : Nat) (from_ : Nat) (R_ : List Sp3) (Lt : Fen.Own) (Ft : List Pers) => [(0, .func (.yield l) #[] #[]), (1, pa c0p), (2, pa c1p), (3, pa c2p), (5, iv (from_ : Int))]) (fun (fu : Nat) (from_ : Nat) (R_ : List Sp3) (Lt : Fen.Own) (Ft : List Pers) => (Lt ++ ([]))) (fun (fu : Nat) (from_ : Nat) (R_ : List Sp3) (Lt : Fen.Own) (Ft : List Pers) => (sl cCel c0q c0 :: at_ c0p [.slice c0q c0.length c0k] :: sl cCel c1q c1 :: at_ c1p [.slice c1q c1.length c1k] :: at_ c2p [iv c2] :: Ft)) (fun (fu : Nat) (from_ : Nat) (R_ : List Sp3) (Lt : Fen.Own) (Ft : List Pers) => fu) ((c0.length - 0) + 1) 0 R L Φ ⟨(Nat.lt_succ_self _), hR, hI0, (by omega)⟩ ⟨rfl, rfl, rfl, rfl, (by first | rfl | (simp only [List.length_set]; rfl) | (simp; done) | (simp; omega)), trivial⟩ (mc [L] [true] rfl (by first | rfl | (simp only [List.length_set] <;> rfl))) (Foll.con1 (at_of 0 rfl) (Foll.con1 (at_of 1 rfl) (Foll.con1 (at_of 2 rfl) (Foll.con1 (at_of 3 rfl) (Foll.con1 (at_of 4 rfl) (Foll.dropT 5 rfl)))))) ?_
 rintro fu from_ R_ Lt Ft ⟨hm1, hR, hILt, hf⟩
 obtain ⟨fu1, rfl⟩ : ∃ m, fu = m + 1 := ⟨fu - 1, by omega⟩
 replace hR := (damage_spans_1_l2.eq_2 ..).symm.trans hR
 refine J_seq ?_
 refine sr 4 rfl ?_
 refine ip 1 3 [(8, iv (from_ : Int))] (by kernel_rfl) ?_
 refine ix rfl (det_ld_one (v := .slice c0q c0.length c0k) (us := [.slice c0q c0.length c0k]) ty67 rfl rfl (at_of 1 rfl) rfl) ?_
 refine ip 2 0 [(11, bv (decide ((from_ : Int) < (c0.length : Int))))] (by kernel_rfl) ?_
 refine ie ?_
 refine J_if rfl (fun h2 => ?_) (fun h2 => ?_)
 ·have h2p : (from_ : Int) < (c0.length : Int) := by simpa using h2
  replace hR := bt hR h2
  refine J_skip ?_
  refine nx ?_
  refine J_block ?_
  refine sr 3 rfl ?_
  refine ip 1 2 [(12, iv (from_ : Int))] (by kernel_rfl) ?_
  refine ix rfl (det_add64 rfl rfl rfl rfl (by omega)) ?_
  refine ip 1 0 [(6, iv ((from_ : Int) + 1))] (by kernel_rfl) ?_
  refine ie ?_
  refine sd 10 rfl (by kernel_rfl) rfl ?_
  refine dd rfl (det_ld_one (v := .slice c0q c0.length c0k) (us := [.slice c0q c0.length c0k]) ty67 rfl rfl (at_of 1 rfl) rfl) ?_
  refine dp 1 8 [(15, iv (from_ : Int))] (by kernel_rfl) ?_
  refine JD_base 0 rfl (by omega) fun a3 hq4 => ?_
  refine dd rfl (det_ixq slt67 rfl rfl hq4 rfl from_ rfl (by omega)) ?_
  refine dd rfl (det_ld_agg (us := cCel (c0.getD from_ Cel.zero)) ty72 rfl rfl (at_slq (c := cCel) (sz := 12) hq4 (fun _ => rfl) 0 rfl (gd Cel.zero (by omega))) rfl) ?_
  refine dd rfl (det_ld_one (v := .slice c1q c1.length c1k) (us := [.slice c1q c1.length c1k]) ty67 rfl rfl (at_of 3 rfl) rfl) ?_
  refine dp 1 4 [(19, iv (from_ : Int))] (by kernel_rfl) ?_
  refine JD_base 2 rfl (by omega) fun a5 hq6 => ?_
  refine dd rfl (det_ixq slt67 rfl rfl hq6 rfl from_ rfl (by omega)) ?_
  refine dd rfl (det_ld_agg (us := cCel (c1.getD from_ Cel.zero)) ty72 rfl rfl (at_slq (c := cCel) (sz := 12) hq6 (fun _ => rfl) 2 rfl (gd Cel.zero (by omega))) rfl) ?_
  refine dd rfl (det_nes (a := (c0.getD from_ Cel.zero)) (b := (c1.getD from_ Cel.zero)) eqt72 rfl rfl rfl) ?_
  refine dp 1 0 [(7, bv (!(decide ((c0.getD from_ Cel.zero) = (c1.getD from_ Cel.zero)))))] (by kernel_rfl) ?_
  refine de ?_
  refine J_seq ?_
  refine J_block ?_
  refine JL6 (fun (fu2 : Nat) (to : Nat) (differs : Bool) (R_1 : List Sp3) (Lt1 : Fen.Own) (Ft1 : List Pers) => (c0.length - to) < fu2 ∧ damage_spans_1_l3 c0 c1 c2 from_ (damage_spans_1_l2 c0 c1 c2 fu1) fu2 to differs = R_1 ∧ I R_1 Lt1 Ft1 ∧ to ≤ c0.length ∧ from_ < to) (fun (fu2 : Nat) (to : Nat) (differs : Bool) (R_1 : List Sp3) (Lt1 : Fen.Own) (Ft1 : List Pers) => [(0, .func (.yield l) #[] #[]), (1, pa c0p), (2, pa c1p), (3, pa c2p), (5, iv (from_ : Int)), (6, iv (to : Int)), (7, bv differs)]) (fun (fu2 : Nat) (to : Nat) (differs : Bool) (R_1 : List Sp3) (Lt1 : Fen.Own) (Ft1 : List Pers) => (Lt1 ++ ([]))) (fun (fu2 : Nat) (to : Nat) (differs : Bool) (R_1 : List Sp3) (Lt1 : Fen.Own) (Ft1 : List Pers) => (sl cCel c0q c0 :: at_ c0p [.slice c0q c0.length c0k] :: sl cCel c1q c1 :: at_ c1p [.slice c1q c1.length c1k] :: at_ c2p [iv c2] :: Ft1)) (fun (fu2 : Nat) (to : Nat) (differs : Bool) (R_1 : List Sp3) (Lt1 : Fen.Own) (Ft1 : List Pers) => fu2) ((c0.length - (from_ + 1)) + 1) (from_ + 1) (!(decide ((c0.getD from_ Cel.zero) = (c1.getD from_ Cel.zero)))) R_ Lt Ft ⟨(Nat.lt_succ_self _), hR, hILt, (by omega), (by omega)⟩ ⟨rfl, rfl, rfl, rfl, rfl, (by first | rfl | (simp only [List.length_set]; rfl) | (simp; done) | (simp; omega)), (by first | rfl | (simp only [List.length_set]; rfl) | (simp; done) | (simp; omega)), trivial⟩ (mc [Lt] [true] rfl (by first | rfl | (simp only [List.length_set] <;> rfl))) (Foll.con1 (at_of 0 rfl) (Foll.con1 (at_of 1 rfl) (Foll.con1 (at_of 2 rfl) (Foll.con1 (at_of 3 rfl) (Foll.con1 (at_of 4 rfl) (Foll.dropT 5 rfl)))))) ?_
  rintro fu2 to differs R_1 Lt1 Ft1 ⟨hm7, hR, hILt1, hf2, hf3⟩
  obtain ⟨fu3, rfl⟩ : ∃ m, fu2 = m + 1 := ⟨fu2 - 1, by omega⟩
  replace hR := (damage_spans_1_l3.eq_2 ..).symm.trans hR
  refine J_seq ?_
  refine sr 11 rfl ?_
  refine ip 1 10 [(23, iv (to : Int))] (by kernel_rfl) ?_
  refine ix rfl (det_ld_one (v := .slice c0q c0.length c0k) (us := [.slice c0q c0.length c0k]) ty67 rfl rfl (at_of 1 rfl) rfl) ?_
  refine ip 3 6 [(27, bv (decide ((to : Int) < (c0.length : Int))))] (by kernel_rfl) ?_
  refine iand 6 0 27 33 (damage_linked c0 c1 ((to : Int) - 1)) rfl (by kernel_rfl) (fun g8 => ?_) ?_
  ·have g8p : (to : Int) < (c0.length : Int) := by simpa using g8
   refine ix rfl (det_ld_one (v := .slice c0q c0.length c0k) (us := [.slice c0q c0.length c0k]) ty67 rfl rfl (at_of 1 rfl) rfl) ?_
   refine ix rfl (det_ld_one (v := .slice c1q c1.length c1k) (us := [.slice c1q c1.length c1k]) ty67 rfl rfl (at_of 3 rfl) rfl) ?_
   refine ip 1 3 [(30, iv (to : Int))] (by kernel_rfl) ?_
   refine ix rfl (det_sub64 rfl rfl rfl rfl (by omega)) ?_
   refine ixc rfl (det_call (damage_linked_c c0 c1 ((to : Int) - 1) c0q c0k c1q c1k (by first | omega | (simp <;> omega) | (dsimp only; omega) | decide) (by first | omega | (simp <;> omega) | (dsimp only; omega) | decide) (by first | omega | (simp <;> omega) | (dsimp only; omega) | decide) (by first | omega | (simp <;> omega) | (dsimp only; omega) | decide) (by first | omega | (simp <;> omega)) (by first | omega | (simp <;> omega)) (by first | omega | (simp <;> omega)) _ rfl) rfl rfl rfl rfl rfl (Foll.cons (at_of 0 rfl) (Foll.cons (at_of 2 rfl) Foll.nil))) ?_
   refine ip 1 0 [(33, bv (damage_linked c0 c1 ((to : Int) - 1)))] (by kernel_rfl) ?_
   exact JI_end (armI 7 27 33 g8 Foll.refl (mc [Lt1] [true] rfl (by first | rfl | (simp only [List.length_set] <;> rfl))) rfl rfl rfl rfl rfl)
  refine ie ?_
  refine J_if rfl (fun h9 => ?_) (fun h9 => ?_)
  ·have h9p := h9; try simp at h9p
   replace hR := bt hR h9
   refine J_skip ?_
   refine nx ?_
   refine J_block ?_
   refine sd 13 rfl (by kernel_rfl) rfl ?_
   refine dp 2 11 [(35, bv differs)] (by kernel_rfl) ?_
   refine dor 10 1 35 45 (!(decide ((c0.getD to Cel.zero) = (c1.getD to Cel.zero)))) rfl (by kernel_rfl) (fun g10 => ?_) ?_
   ·refine dd rfl (det_ld_one (v := .slice c0q c0.length c0k) (us := [.slice c0q c0.length c0k]) ty67 rfl rfl (at_of 1 rfl) rfl) ?_
    refine dp 1 8 [(37, iv (to : Int))] (by kernel_rfl) ?_
    refine dd rfl (det_ixq slt67 rfl rfl hq4 rfl to rfl (by omega)) ?_
    refine dd rfl (det_ld_agg (us := cCel (c0.getD to Cel.zero)) ty72 rfl rfl (at_slq (c := cCel) (sz := 12) hq4 (fun _ => rfl) 0 rfl (gd Cel.zero (by omega))) rfl) ?_
    refine dd rfl (det_ld_one (v := .slice c1q c1.length c1k) (us := [.slice c1q c1.length c1k]) ty67 rfl rfl (at_of 3 rfl) rfl) ?_
    refine dp 1 4 [(41, iv (to : Int))] (by kernel_rfl) ?_
    refine dd rfl (det_ixq slt67 rfl rfl hq6 rfl to rfl (by omega)) ?_
    refine dd rfl (det_ld_agg (us := cCel (c1.getD to Cel.zero)) ty72 rfl rfl (at_slq (c := cCel) (sz := 12) hq6 (fun _ => rfl) 2 rfl (gd Cel.zero (by omega))) rfl) ?_
    refine dd rfl (det_nes (a := (c0.getD to Cel.zero)) (b := (c1.getD to Cel.zero)) eqt72 rfl rfl rfl) ?_
    refine dp 1 0 [(45, bv (!(decide ((c0.getD to Cel.zero) = (c1.getD to Cel.zero)))))] (by kernel_rfl) ?_
    exact JD_end (armD 11 35 45 g10 rfl rfl rfl rfl rfl)
   refine dp 1 0 [(7, bv (differs || (!(decide ((c0.getD to Cel.zero) = (c1.getD to Cel.zero))))))] (by kernel_rfl) ?_
   refine de ?_
   refine J_region 3 rfl ?_
   refine ip 1 2 [(46, iv (to : Int))] (by kernel_rfl) ?_
   refine ix rfl (det_add64 rfl rfl rfl rfl (by omega)) ?_
   refine ip 1 0 [(6, iv ((to : Int) + 1))] (by kernel_rfl) ?_
   refine JI_end ?_
   exact againL6 (z1 := (fu3 + 1)) (z2 := to) (z3 := differs) (z4 := R_1) (z5 := Lt1) (z6 := Ft1) fu3 (to + 1) (differs || (!(decide ((c0.getD to Cel.zero) = (c1.getD to Cel.zero))))) R_1 Lt1 Ft1 ⟨(by omega), hR, hILt1, (by omega), (by omega)⟩ (Nat.lt_succ_self _) ⟨rfl, rfl, rfl, rfl, rfl, (by first | rfl | (simp only [List.length_set]; rfl) | (simp; done) | (simp; omega)), (by first | rfl | (simp only [List.length_set]; rfl) | (simp; done) | (simp; omega)), trivial⟩ (mc [Lt1] [true] rfl (by first | rfl | (simp only [List.length_set] <;> rfl))) (Foll.con1 (at_of 0 rfl) (Foll.con1 (at_of 1 rfl) (Foll.con1 (at_of 2 rfl) (Foll.con1 (at_of 3 rfl) (Foll.con1 (at_of 4 rfl) (Foll.dropT 5 rfl))))))
  ·have h9p := h9; try simp at h9p
   replace hR := bf hR h9
   refine J_exit ?_
   refine nx ?_
   refine J_seq ?_
   refine sr 10 rfl ?_
   refine ip 2 8 [(49, bv differs)] (by kernel_rfl) ?_
   rcases Bool.eq_false_or_eq_true differs with g11 | g11
   ·refine JI_lit 49 rfl g11 ?_
    replace hR := bt hR g11
    refine ip 1 7 [(50, .func (.yield l) #[] #[])] (by kernel_rfl) ?_
    refine ix rfl (det_ld_one (v := iv c2) (us := [iv c2]) ty3 rfl rfl (at_of 4 rfl) rfl) ?_
    refine ip 2 4 [(52, iv (from_ : Int)), (53, iv (to : Int))] (by kernel_rfl) ?_
    refine ix rfl (det_build (cs := cSp3 ({ Sp3.zero with row := c2, frm := (from_ : Int), to := (to : Int) })) rfl rfl (by kernel_rfl)) ?_
    have hq17 := consR hR; clear hR; obtain ⟨R12, hR, hq17⟩ := hq17; rw [hq17] at hILt1
    refine it rfl (tri_yield (L2 := []) (hY _ R12 _ _ hILt1) rfl rfl rfl rfl (Foll.dropT 5 rfl) (permC [Lt1] [0] 1 rfl (by decide) rfl [Lt1] rfl (by simp only [List.flatten_cons, List.flatten_nil, List.append_nil, List.cons_append, List.nil_append, List.append_assoc]))) fun ⟨⟨y13, L14, Φ15⟩, hy16⟩ => ?_
    refine JI_foll (Foll.yield [sl cCel c0q c0, at_ c0p [.slice c0q c0.length c0k], sl cCel c1q c1, at_ c1p [.slice c1q c1.length c1k], at_ c2p [iv c2]]) ?_
    refine ip 2 0 [(57, bv (!y13))] (by kernel_rfl) ?_
    refine ie ?_
    refine J_if rfl (fun h18 => ?_) (fun h18 => ?_)
    ·have h18b : y13 = false := by simpa using h18
     rw [h18b] at hy16; try simp only [if_true, if_false, Bool.false_eq_true] at hy16
     refine J_ret ?_
     exact iends_ret rfl ⟨hr, hD⟩ (by simp [hD]) (res0 rfl) (L' := L14) (Φ' := Φ15) (by exact .inr hy16) (mcT [L14] 0 rfl rfl) (Foll.dropT 5 rfl)
    ·have h18b : y13 = true := by simpa using h18
     rw [h18b] at hy16; try simp only [if_true, if_false, Bool.false_eq_true] at hy16
     refine J_skip ?_
     refine nx ?_
     refine J_region 2 rfl ?_
     refine ip 2 0 [(5, iv (to : Int))] (by kernel_rfl) ?_
     refine JI_end ?_
     exact againL5 (z1 := (fu1 + 1)) (z2 := from_) (z3 := R_) (z4 := Lt) (z5 := Ft) fu1 to R12 L14 Φ15 ⟨(by omega), hR, hy16, (by omega)⟩ (Nat.lt_succ_self _) ⟨rfl, rfl, rfl, rfl, (by first | rfl | (simp only [List.length_set]; rfl) | (simp; done) | (simp; omega)), trivial⟩ (mc [L14] [true] rfl (by first | rfl | (simp only [List.length_set] <;> rfl))) (Foll.con1 (at_of 0 rfl) (Foll.con1 (at_of 1 rfl) (Foll.con1 (at_of 2 rfl) (Foll.con1 (at_of 3 rfl) (Foll.con1 (at_of 4 rfl) (Foll.dropT 5 rfl))))))
   ·refine JI_lit 49 rfl g11 ?_
    replace hR := bf hR g11
    refine ip 8 0 [(57, bv false)] (by kernel_rfl) ?_
    refine ie ?_
    refine J_no rfl ?_
    refine J_skip ?_
    refine nx ?_
    refine J_region 2 rfl ?_
    refine ip 2 0 [(5, iv (to : Int))] (by kernel_rfl) ?_
    refine JI_end ?_
    exact againL5 (z1 := (fu1 + 1)) (z2 := from_) (z3 := R_) (z4 := Lt) (z5 := Ft) fu1 to R_1 Lt1 Ft1 ⟨(by omega), hR, hILt1, (by omega)⟩ (Nat.lt_succ_self _) ⟨rfl, rfl, rfl, rfl, (by first | rfl | (simp only [List.length_set]; rfl) | (simp; done) | (simp; omega)), trivial⟩ (mc [Lt1] [true] rfl (by first | rfl | (simp only [List.length_set] <;> rfl))) (Foll.con1 (at_of 0 rfl) (Foll.con1 (at_of 1 rfl) (Foll.con1 (at_of 2 rfl) (Foll.con1 (at_of 3 rfl) (Foll.con1 (at_of 4 rfl) (Foll.dropT 5 rfl))))))
 ·have h2p : ¬ ((from_ : Int) < (c0.length : Int)) := by simpa using h2
  replace hR := bf hR h2
  refine J_exit ?_
  subst hR
  exact iends_normal rfl ⟨hr, hD⟩ (by simp [hD]) (res0 rfl) (L' := Lt) (Φ' := Ft) (by exact .inl hILt) (mcT [Lt] 0 rfl rfl) (Foll.dropT 5 rfl)

def damage_ends (a : Sp3) (b : Sp3) : Bool :=
 ((decide (a.row = b.row)) && (decide (a.to = b.frm)))

theorem damage_ends_c (a : Sp3) (b : Sp3) (R : Bool) (hR : damage_ends a b = R) : ConV Tryz.prog 171 [ag (cSp3 a), ag (cSp3 b)] [] (bv R) := by
 refine con_of_J (n := 17) Tryz.func171 rfl (by kernel_rfl) rfl rfl [(0, ag (cSp3 a)), (1, ag (cSp3 b))] ⟨rfl, rfl, trivial⟩ fun X hX hr hD => ?_
 replace hR := (damage_ends.eq_1 ..).symm.trans hR
 refine sr 3 rfl ?_
 refine it rfl (tri_box (cs := cSp3 a) rfl rfl rfl) fun b1 => ?_
 refine it rfl (tri_box (cs := cSp3 b) rfl rfl rfl) fun b2 => ?_
 refine ip 1 0 [] (by kernel_rfl) ?_
 refine ie ?_
 refine sr 13 rfl ?_
 refine ip 1 12 [(5, pt b1 0)] (by kernel_rfl) ?_
 refine ix rfl (det_own_one (v := iv a.row) ty3 rfl rfl 1 rfl rfl) ?_
 refine ip 1 10 [(7, pt b2 0)] (by kernel_rfl) ?_
 refine ix rfl (det_own_one (v := iv b.row) ty3 rfl rfl 0 rfl rfl) ?_
 refine ip 2 7 [(10, bv (decide (a.row = b.row)))] (by kernel_rfl) ?_
 refine iand 6 1 10 16 (decide (a.to = b.frm)) rfl (by kernel_rfl) (fun g3 => ?_) ?_
 ·have g3p : a.row = b.row := by simpa using g3
  refine ip 1 5 [(11, pt b1 2)] (by kernel_rfl) ?_
  refine ix rfl (det_own_one (v := iv a.to) ty3 rfl rfl 1 rfl rfl) ?_
  refine ip 1 3 [(13, pt b2 1)] (by kernel_rfl) ?_
  refine ix rfl (det_own_one (v := iv b.frm) ty3 rfl rfl 0 rfl rfl) ?_
  refine ip 2 0 [(16, bv (decide (a.to = b.frm)))] (by kernel_rfl) ?_
  exact JI_end (armI 6 10 16 g3 Foll.nil (mk [true, true] rfl) rfl rfl rfl rfl rfl)
 refine ip 1 0 [(4, bv ((decide (a.row = b.row)) && (decide (a.to = b.frm))))] (by kernel_rfl) ?_
 refine ie ?_
 refine J_ret ?_
 subst hR
 exact ends_ret rfl ⟨hr, hD⟩ (by simp [hD]) (res1 rfl (resV_tmp rfl)) () (by rfl) (mk [false, false] rfl) Foll.nil

def damage_gatherer_adda (g : List Sp3) (s : Sp3) : List Sp3 :=
 (bif ((decide ((0 : Int) < (g.length : Int))) && (damage_ends (g.getD (g.length - 1) Sp3.zero) s)) then (g.set (g.length - 1) ({ (g.getD (g.length - 1) Sp3.zero) with to := (if s.to > (g.getD (g.length - 1) Sp3.zero).to then s.to else (g.getD (g.length - 1) Sp3.zero).to) })) else (g ++ ([s] : List Sp3)))

theorem damage_gatherer_adda_len (g : List Sp3) (s : Sp3) : (damage_gatherer_adda g s).length ≤ g.length + 1 := by
 unfold damage_gatherer_adda; try simp only [Bool.cond_eq_ite]
 repeat' split
 all_goals simp

theorem damage_gatherer_adda_c (g : List Sp3) (s : Sp3) (gb : Nat) (gr : VR) (hokgr : VOk 3 g.length gr) (hg : g.length ≤ 1000000) (R : List Sp3) (hR : damage_gatherer_adda g s = R) : Con Tryz.prog 170 [pt gb 0, ag (cSp3 s), .func (.func 171) #[] #[]] (bx gb [.slice (va gr.q) g.length gr.k] 237 :: (vo cSp3 242 gr g) ++ ([])) [] ({r : VR // VOk 3 R.length r}) (fun x => .tuple #[]) (fun x => (bx gb [.slice (va x.1.q) R.length x.1.k] 237 :: (vo cSp3 242 x.1 R) ++ ([]))) (fun x => []) := by
 refine con_of_J (n := 63) Tryz.func170 rfl (by kernel_rfl) rfl rfl [(0, pt gb 0), (1, ag (cSp3 s)), (2, .func (.func 171) #[] #[])] ⟨rfl, rfl, rfl, trivial⟩ fun X hX hr hD => ?_
 replace hR := (damage_gatherer_adda.eq_1 ..).symm.trans hR
 have := VOk.le hokgr
 refine sr 1 rfl ?_
 refine it rfl (tri_box (cs := cSp3 s) rfl rfl rfl) fun b1 => ?_
 refine ie ?_
 refine J_seq ?_
 refine sr 7 rfl ?_
 refine ip 4 3 [(10, pt gb 0)] (by kernel_rfl) ?_
 refine ix rfl (det_own_one (v := .slice (va gr.q) g.length gr.k) ty174 rfl rfl 1 rfl rfl) ?_
 refine ip 2 0 [(6, iv (g.length : Int))] (by kernel_rfl) ?_
 refine ie ?_
 refine sd 16 rfl (by kernel_rfl) rfl ?_
 refine dp 3 13 [(15, bv (decide ((0 : Int) < (g.length : Int))))] (by kernel_rfl) ?_
 refine dand 13 0 15 28 (damage_ends (g.getD (g.length - 1) Sp3.zero) s) rfl (by kernel_rfl) (fun g2 => ?_) ?_
 ·have g2p : (0 : Int) < (g.length : Int) := by simpa using g2
  refine dp 5 8 [(16, .func (.func 171) #[] #[]), (20, pt gb 0)] (by kernel_rfl) ?_
  refine dd rfl (det_own_one (v := .slice (va gr.q) g.length gr.k) ty174 rfl rfl 1 rfl rfl) ?_
  refine dp 1 6 [(22, iv (g.length : Int))] (by kernel_rfl) ?_
  refine dd rfl (det_sub64 rfl rfl rfl rfl (by omega)) ?_
  obtain ⟨b3, hb4⟩ := VOk.some hokgr (by omega)
  obtain ⟨q5, k6, j7⟩ := gr
  obtain rfl : q5 = some b3 := hb4
  refine dd rfl (det_ix_vec slt174 rfl rfl rfl (g.length - 1) (by omega) (by omega)) ?_
  refine dd rfl (det_vec_agg (us := cSp3 (g.getD (g.length - 1) Sp3.zero)) (c := cSp3) (sz := 3) ty242 (fun _ => rfl) rfl rfl 2 rfl (g.length - 1) 0 rfl (gd Sp3.zero (by omega)) rfl rfl) ?_
  refine dd rfl (det_own_agg (us := cSp3 s) ty242 rfl rfl 0 rfl rfl rfl) ?_
  refine ddc rfl (det_call (damage_ends_c (g.getD (g.length - 1) Sp3.zero) s _ rfl) rfl rfl rfl rfl rfl Foll.nil) ?_
  refine dp 1 0 [(28, bv (damage_ends (g.getD (g.length - 1) Sp3.zero) s))] (by kernel_rfl) ?_
  exact JD_end (armD 11 15 28 g2 rfl rfl rfl rfl rfl)
 refine de ?_
 refine J_if rfl (fun h8 => ?_) (fun h8 => ?_)
 ·have h8p := h8; try simp at h8p
  replace hR := bt hR h8
  refine sh 23 [(23, [bx b1 (cSp3 s) 242]), (23, [bx gb [.slice (va gr.q) g.length gr.k] 237]), (22, vo cSp3 242 gr g)] [] (bx b1 (cSp3 s) 242 :: bx gb [.slice (va gr.q) g.length gr.k] 237 :: (vo cSp3 242 gr g) ++ ([])) #[false, false, false, false, false, false, false, false, false, false, false, false, false, false, false, false, false, false, false, false, false, false, false] (by kernel_rfl) rfl (by kernel_rfl) (by kernel_rfl) (by kernel_rfl) (mc [[bx b1 (cSp3 s) 242], [bx gb [.slice (va gr.q) g.length gr.k] 237], vo cSp3 242 gr g] [true, true, true] rfl (by first | rfl | (simp only [List.length_set] <;> rfl))) Foll.refl ?_
  refine hpur [0, 1, 2, 3, 5, 7, 8, 9, 10, 12, 17] 12 #[true, true, true, true, false, true, false, true, true, true, true, false, true, false, false, false, false, true, false, false, false, false, false] [(32, pt gb 0), (34, iv (g.length : Int)), (39, pt gb 0), (41, iv (g.length : Int)), (46, pt b1 2)] (by kernel_rfl) ?_
  refine htak 4 (bx b1 (cSp3 s) 242 :: bx gb [.slice (va gr.q) g.length gr.k] 237 :: (vo cSp3 242 gr g) ++ ([])) #[true, true, true, true, true, true, false, true, true, true, true, false, true, false, false, false, false, true, false, false, false, false, false] rfl rfl rfl (by kernel_rfl) (by kernel_rfl) (by kernel_rfl) (det_own_one (v := .slice (va gr.q) g.length gr.k) ty174 rfl rfl 1 rfl rfl) ?_
  refine htak 6 (bx b1 (cSp3 s) 242 :: bx gb [.slice (va gr.q) g.length gr.k] 237 :: (vo cSp3 242 gr g) ++ ([])) #[true, true, true, true, true, true, true, true, true, true, true, false, true, false, false, false, false, true, false, false, false, false, false] rfl rfl rfl (by kernel_rfl) (by kernel_rfl) (by kernel_rfl) (det_sub64 rfl rfl rfl rfl (by omega)) ?_
  refine htak 11 (bx b1 (cSp3 s) 242 :: bx gb [.slice (va gr.q) g.length gr.k] 237 :: (vo cSp3 242 gr g) ++ ([])) #[true, true, true, true, true, true, true, true, true, true, true, true, true, false, false, false, false, true, false, false, false, false, false] rfl rfl rfl (by kernel_rfl) (by kernel_rfl) (by kernel_rfl) (det_own_one (v := .slice (va gr.q) g.length gr.k) ty174 rfl rfl 1 rfl rfl) ?_
  refine htak 13 (bx b1 (cSp3 s) 242 :: bx gb [.slice (va gr.q) g.length gr.k] 237 :: (vo cSp3 242 gr g) ++ ([])) #[true, true, true, true, true, true, true, true, true, true, true, true, true, true, false, false, false, true, false, false, false, false, false] rfl rfl rfl (by kernel_rfl) (by kernel_rfl) (by kernel_rfl) (det_sub64 rfl rfl rfl rfl (by omega)) ?_
  obtain ⟨b9, hb10⟩ := VOk.some hokgr (by omega)
  obtain ⟨q11, k12, j13⟩ := gr
  obtain rfl : q11 = some b9 := hb10
  refine htak 14 (bx b1 (cSp3 s) 242 :: bx gb [.slice (va (⟨some b9, k12, j13⟩ : VR).q) g.length ((⟨some b9, k12, j13⟩ : VR).k)] 237 :: (vo cSp3 242 (⟨some b9, k12, j13⟩ : VR) g) ++ ([])) #[true, true, true, true, true, true, true, true, true, true, true, true, true, true, true, false, false, true, false, false, false, false, false] rfl rfl rfl (by kernel_rfl) (by kernel_rfl) (by kernel_rfl) (det_ix_vec slt174 rfl rfl rfl (g.length - 1) (by omega) (by omega)) ?_
  refine hpur [15] 6 #[true, true, true, true, true, true, true, true, true, true, true, true, true, true, true, true, false, true, false, false, false, false, false] [(44, .pointer (some ⟨b9, (g.length - 1) * 3 + 2, none⟩))] (by kernel_rfl) ?_
  refine htak 16 (bx b1 (cSp3 s) 242 :: bx gb [.slice (va (⟨some b9, k12, j13⟩ : VR).q) g.length ((⟨some b9, k12, j13⟩ : VR).k)] 237 :: (vo cSp3 242 (⟨some b9, k12, j13⟩ : VR) g) ++ ([])) #[true, true, true, true, true, true, true, true, true, true, true, true, true, true, true, true, true, true, false, false, false, false, false] rfl rfl rfl (by kernel_rfl) (by kernel_rfl) (by kernel_rfl) (det_vec_one (u := iv ((g.getD (g.length - 1) Sp3.zero).to)) (c := cSp3) (sz := 3) ty3 (fun _ => rfl) rfl rfl 2 rfl (g.length - 1) 2 rfl (gd Sp3.zero (by omega)) rfl) ?_
  refine htak 18 (bx b1 (cSp3 s) 242 :: bx gb [.slice (va (⟨some b9, k12, j13⟩ : VR).q) g.length ((⟨some b9, k12, j13⟩ : VR).k)] 237 :: (vo cSp3 242 (⟨some b9, k12, j13⟩ : VR) g) ++ ([])) #[true, true, true, true, true, true, true, true, true, true, true, true, true, true, true, true, true, true, true, false, false, false, false] rfl rfl rfl (by kernel_rfl) (by kernel_rfl) (by kernel_rfl) (det_own_one (v := iv s.to) ty3 rfl rfl 0 rfl rfl) ?_
  refine hpur [19] 3 #[true, true, true, true, true, true, true, true, true, true, true, true, true, true, true, true, true, true, true, true, false, false, false] [(48, iv (if s.to > (g.getD (g.length - 1) Sp3.zero).to then s.to else (g.getD (g.length - 1) Sp3.zero).to))] (by kernel_rfl) ?_
  refine htak 20 [bx b1 (cSp3 s) 242, bx gb [.slice (va (⟨some b9, k12, j13⟩ : VR).q) g.length ((⟨some b9, k12, j13⟩ : VR).k)] 237] #[true, true, true, true, true, true, true, true, true, true, true, true, true, true, true, true, true, true, true, true, true, false, false] rfl rfl rfl (by kernel_rfl) (by kernel_rfl) (by kernel_rfl) (det_ix_vec slt174 rfl rfl rfl (g.length - 1) (by omega) (by omega)) ?_
  refine hpur [21] 1 #[true, true, true, true, true, true, true, true, true, true, true, true, true, true, true, true, true, true, true, true, true, true, false] [(50, .pointer (some ⟨b9, (g.length - 1) * 3 + 2, none⟩))] (by kernel_rfl) ?_
  refine hone 22 [bx b1 (cSp3 s) 242, bx gb [.slice (va (⟨some b9, k12, j13⟩ : VR).q) g.length ((⟨some b9, k12, j13⟩ : VR).k)] 237] #[true, true, true, true, true, true, true, true, true, true, true, true, true, true, true, true, true, true, true, true, true, true, true] rfl rfl rfl (by kernel_rfl) (by kernel_rfl) (by kernel_rfl) (tri_vec_store (us := [iv (if s.to > (g.getD (g.length - 1) Sp3.zero).to then s.to else (g.getD (g.length - 1) Sp3.zero).to)]) (u' := { (g.getD (g.length - 1) Sp3.zero) with to := (if s.to > (g.getD (g.length - 1) Sp3.zero).to then s.to else (g.getD (g.length - 1) Sp3.zero).to) }) (c := cSp3) (sz := 3) ty3 (fun _ => rfl) rfl rfl rfl 2 rfl rfl rfl rfl (g.length - 1) 2 rfl (gd Sp3.zero (by omega)) rfl rfl) (fun _ => (mc [[bx b1 (cSp3 s) 242], [bx gb [.slice (va (⟨some b9, k12, j13⟩ : VR).q) g.length ((⟨some b9, k12, j13⟩ : VR).k)] 237], vo cSp3 242 (⟨some b9, k12, j13⟩ : VR) (g.set (g.length - 1) ({ (g.getD (g.length - 1) Sp3.zero) with to := (if s.to > (g.getD (g.length - 1) Sp3.zero).to then s.to else (g.getD (g.length - 1) Sp3.zero).to) }))] [true, true, false] rfl (by first | rfl | (simp only [List.length_set] <;> rfl)))) (fun _ => Foll.nil) fun _ => ?_
  refine hend (by kernel_rfl) ?_
  refine J_ret ?_
  subst hR
  exact ends_ret rfl ⟨hr, hD⟩ (by simp [hD]) (res0 rfl) ⟨(⟨some b9, k12, j13⟩ : VR), (VOk.cast hokgr (by simp))⟩ (by rfl) (mc [[bx b1 (cSp3 s) 242], [bx gb [.slice (va (⟨some b9, k12, j13⟩ : VR).q) g.length ((⟨some b9, k12, j13⟩ : VR).k)] 237], vo cSp3 242 (⟨some b9, k12, j13⟩ : VR) (g.set (g.length - 1) ({ (g.getD (g.length - 1) Sp3.zero) with to := (if s.to > (g.getD (g.length - 1) Sp3.zero).to then s.to else (g.getD (g.length - 1) Sp3.zero).to) }))] [false, true, true] rfl (by first | rfl | (simp only [List.length_set] <;> rfl))) Foll.nil
 ·have h8p := h8; try simp at h8p
  replace hR := bf hR h8
  refine J_skip ?_
  refine nx ?_
  refine sh' 13 [(13, [bx b1 (cSp3 s) 242]), (12, [bx gb [.slice (va gr.q) g.length gr.k] 237]), (8, vo cSp3 242 gr g)] [] (bx b1 (cSp3 s) 242 :: bx gb [.slice (va gr.q) g.length gr.k] 237 :: (vo cSp3 242 gr g) ++ ([])) #[false, false, false, false, false, false, false, false, false, false, false, false, false] (by kernel_rfl) rfl (by kernel_rfl) (by kernel_rfl) (by kernel_rfl) (mc [[bx b1 (cSp3 s) 242], [bx gb [.slice (va gr.q) g.length gr.k] 237], vo cSp3 242 gr g] [true, true, true] rfl (by first | rfl | (simp only [List.length_set] <;> rfl))) Foll.refl ?_
  refine hpur [0, 1, 2, 3, 4] 8 #[true, true, true, true, true, false, false, false, false, false, false, false, false] [(51, pt gb 0), (55, pt gb 0)] (by kernel_rfl) ?_
  refine htak 5 (bx b1 (cSp3 s) 242 :: bx gb [.slice (va gr.q) g.length gr.k] 237 :: (vo cSp3 242 gr g) ++ ([])) #[true, true, true, true, true, true, false, false, false, false, false, false, false] rfl rfl rfl (by kernel_rfl) (by kernel_rfl) (by kernel_rfl) (det_own_one (v := .slice (va gr.q) g.length gr.k) ty174 rfl rfl 1 rfl rfl) ?_
  refine htak 6 [bx b1 (cSp3 s) 242, bx gb [.slice (va gr.q) g.length gr.k] 237] #[true, true, true, true, true, true, true, false, false, false, false, false, false] rfl rfl rfl (by kernel_rfl) (by kernel_rfl) (by kernel_rfl) (det_own_agg (us := cSp3 s) ty242 rfl rfl 0 rfl rfl rfl) ?_
  refine hone 7 (bx b1 (cSp3 s) 242 :: bx gb [.slice (va gr.q) g.length gr.k] 237 :: (vo cSp3 242 gr g) ++ ([])) #[true, true, true, true, true, true, true, true, false, false, false, false, false] rfl rfl rfl (by kernel_rfl) (by kernel_rfl) (by kernel_rfl) (tri_buildSl (c := cSp3) (xs := ([s] : List Sp3)) slt174 rfl rfl rfl (by kernel_rfl)) (fun b14 => (mc [[bx b1 (cSp3 s) 242], [bx gb [.slice (va gr.q) g.length gr.k] 237], vo cSp3 242 gr g] [true, true, true] rfl (by first | rfl | (simp only [List.length_set] <;> rfl)))) (fun b14 => Foll.nil) fun b14 => ?_
  have : ([s] : List Sp3).length = 1 := rfl
  refine hone 8 [bx b1 (cSp3 s) 242, bx gb [.slice (va gr.q) g.length gr.k] 237] #[true, true, true, true, true, true, true, true, true, false, false, false, false] rfl rfl rfl (by kernel_rfl) (by kernel_rfl) (by kernel_rfl) (tri_app1 (f := cSp3) (r := gr) (xs := g) (ys := ([s] : List Sp3)) (pre := [bx b1 (cSp3 s) 242, bx gb [.slice (va gr.q) g.length gr.k] 237]) (post := []) apt174 (fun _ => rfl) (fun _ => rfl) rfl rfl rfl rfl rfl rfl rfl rfl rfl (at_of 0 rfl) hokgr (by first | omega | (simp <;> omega)) (by first | omega | (simp <;> omega))) (fun ⟨r15, hr16⟩ => (mc [[bx b1 (cSp3 s) 242], [bx gb [.slice (va gr.q) g.length gr.k] 237], vo cSp3 242 r15 (g ++ ([s] : List Sp3))] [true, true, false] rfl (by first | rfl | (simp only [List.length_set] <;> rfl)))) (fun ⟨r15, hr16⟩ => Foll.nil) fun ⟨r15, hr16⟩ => ?_
  have := VOk.le hr16
  have := VOk.cap hr16
  refine hpur [9, 10, 11] 1 #[true, true, true, true, true, true, true, true, true, true, true, true, false] [(62, pt gb 0)] (by kernel_rfl) ?_
  refine hone 12 [bx b1 (cSp3 s) 242] #[true, true, true, true, true, true, true, true, true, true, true, true, true] rfl rfl rfl (by kernel_rfl) (by kernel_rfl) (by kernel_rfl) (tri_store (us := [.slice (va r15.q) ((g ++ ([s] : List Sp3)).length) r15.k]) (cs' := [.slice (va r15.q) ((g ++ ([s] : List Sp3)).length) r15.k]) ty174 rfl rfl rfl 1 rfl rfl rfl rfl rfl rfl) (fun _ => (mc [[bx b1 (cSp3 s) 242], [bx gb [.slice (va r15.q) ((g ++ ([s] : List Sp3)).length) r15.k] 237], vo cSp3 242 r15 (g ++ ([s] : List Sp3))] [true, false, false] rfl (by first | rfl | (simp only [List.length_set] <;> rfl)))) (fun _ => Foll.nil) fun _ => ?_
  refine JH_done (by kernel_rfl) ?_
  subst hR
  exact ends_normal rfl ⟨hr, hD⟩ (by simp [hD]) (res0 rfl) ⟨r15, hr16⟩ (by rfl) (mc [[bx b1 (cSp3 s) 242], [bx gb [.slice (va r15.q) ((g ++ ([s] : List Sp3)).length) r15.k] 237], vo cSp3 242 r15 (g ++ ([s] : List Sp3))] [false, true, true] rfl (by first | rfl | (simp only [List.length_set] <;> rfl))) Foll.nil

def damage_Spans_r3 (t21 : Nat) (ag_damage_Spans_l0 : Nat → List Sp3 → (List Sp3 × Int)) : List Sp3 → List Sp3 → (List Sp3 × Int)
 | [], blist => ag_damage_Spans_l0 (t21 + 1) blist
 | el :: rest, blist => (bindV (damage_gatherer_adda blist el) fun (y0 : List Sp3) => damage_Spans_r3 t21 ag_damage_Spans_l0 rest y0)
def damage_Spans_l0 (bR : List (List Cel)) : List (List Cel) → Nat → List Sp3 → (List Sp3 × Int)
 | [], t21, t17list => (t17list, 0)
 | hd_l0 :: tl_l0, t21, t17list => damage_Spans_r3 t21 (damage_Spans_l0 bR tl_l0) (damage_spans_1 ((damage_spans (t21 : Int) hd_l0 (bR.getD t21 [])).1) ((damage_spans (t21 : Int) hd_l0 (bR.getD t21 [])).2.1) ((damage_spans (t21 : Int) hd_l0 (bR.getD t21 [])).2.2)) t17list
def damage_Spans (aC : Int) (aR : List (List Cel)) (aU : Plc) (aV : Bool) (aS : Int) (aT : List UInt8) (bC : Int) (bR : List (List Cel)) (bU : Plc) (bV : Bool) (bS : Int) (bT : List UInt8) : List Sp3 × Int :=
 (bif (!decide ((damage_checked aC aR aU aV aS aT bC bR bU bV bS bT) = 0)) then (([] : List Sp3), (damage_checked aC aR aU aV aS aT bC bR bU bV bS bT)) else damage_Spans_l0 bR aR 0 ([] : List Sp3))

theorem damage_Spans_r3_len (t21 : Nat) (ag : Nat → List Sp3 → List Sp3 × Int) (B : Nat) (hag : ∀ l, (ag (t21 + 1) l).1.length ≤ l.length + B) : ∀ (es bl : List Sp3), (damage_Spans_r3 t21 ag es bl).1.length ≤ bl.length + es.length + B
 | [], bl => by have := hag bl; simp only [damage_Spans_r3, List.length_nil]; omega
 | e :: es, bl => by
  have h1 := damage_gatherer_adda_len bl e; have h2 := damage_Spans_r3_len t21 ag B hag es (damage_gatherer_adda bl e)
  simp only [damage_Spans_r3, bindV, List.length_cons]; omega
theorem damage_Spans_l0_len (bR : List (List Cel)) : ∀ (rows : List (List Cel)) (t : Nat) (l : List Sp3), (∀ r ∈ rows, r.length ≤ 80) → (damage_Spans_l0 bR rows t l).1.length ≤ l.length + 80 * rows.length
 | [], t, l, _ => by simp [damage_Spans_l0]
 | r :: rows, t, l, h => by
  have h0 := h r (List.mem_cons_self ..)
  have h1 := damage_spans_1_len r (bR.getD t []) (t : Int)
  have h2 := damage_Spans_r3_len t (damage_Spans_l0 bR rows) (80 * rows.length) (fun l => damage_Spans_l0_len bR rows (t + 1) l (fun x hx => h x (List.mem_cons_of_mem _ hx))) (damage_spans_1 r (bR.getD t []) (t : Int)) l
  simp only [damage_Spans_l0, damage_spans, List.length_cons]; omega
theorem damage_Spans_len (aC : Int) (aR : List (List Cel)) (aU : Plc) (aV : Bool) (aS : Int) (aT : List UInt8) (bC : Int) (bR : List (List Cel)) (bU : Plc) (bV : Bool) (bS : Int) (bT : List UInt8) : (damage_Spans aC aR aU aV aS aT bC bR bU bV bS bT).1.length ≤ 3200 := by
 unfold damage_Spans
 cases h : decide (damage_checked aC aR aU aV aS aT bC bR bU bV bS bT = 0) with
 | false => simp
 | true =>
  have hc := damage_checked_ok (of_decide_eq_true h)
  have h1 := damage_Spans_l0_len bR aR 0 [] (fun r hr => by
   obtain ⟨i, hi, rfl⟩ := List.mem_iff_getElem.1 hr
   have := hc.1.2.2.2.2 i hi
   rw [List.getD_eq_getElem?_getD, List.getElem?_eq_getElem hi, Option.getD_some] at this
   omega)
  simp only [List.length_nil] at h1
  simp only [Bool.not_true, cond_false]
  omega
theorem damage_Spans_ok {aC : Int} {aR : List (List Cel)} {aU : Plc} {aV : Bool} {aS : Int} {aT : List UInt8} {bC : Int} {bR : List (List Cel)} {bU : Plc} {bV : Bool} {bS : Int} {bT : List UInt8} {r : List Sp3 × Int}
  (h : damage_Spans aC aR aU aV aS aT bC bR bU bV bS bT = r) (h0 : r.2 = 0) : damage_checked aC aR aU aV aS aT bC bR bU bV bS bT = 0 := by
 subst h
 unfold damage_Spans at h0
 cases hc : decide (damage_checked aC aR aU aV aS aT bC bR bU bV bS bT = 0) with
 | true => exact of_decide_eq_true hc
 | false => rw [hc] at h0; exact h0
theorem damage_Spans_c (aC : Int) (aR : List (List Cel)) (aU : Plc) (aV : Bool) (aS : Int) (aT : List UInt8) (bC : Int) (bR : List (List Cel)) (bU : Plc) (bV : Bool) (bS : Int) (bT : List UInt8) (aQ : Option Addr) (aZ : List Slc) (aK : Nat) (bQ : Option Addr) (bZ : List Slc) (bK : Nat) (hrowsaRowsrs : RowsOk aZ aR) (hlaRows : aR.length ≤ 9223372036854775807) (hcaRows : aR.length ≤ aK) (hrowsbRowsrs : RowsOk bZ bR) (hlbRows : bR.length ≤ 9223372036854775807) (hcbRows : bR.length ≤ bK) (hT : aT.length ≤ 100000000) (hT2 : bT.length ≤ 100000000) (R : List Sp3 × Int) (hR : damage_Spans aC aR aU aV aS aT bC bR bU bV bS bT = R) : Con Tryz.prog 127 [ag [iv aC, .slice aQ aR.length aK, iv aU.row, iv aU.col, bv aV, iv aS, sv aT], ag [iv bC, .slice bQ bR.length bK, iv bU.row, iv bU.col, bv bV, iv bS, sv bT]] [] [sl cSlc aQ aZ, rowsF cCel aZ aR, sl cSlc bQ bZ, rowsF cCel bZ bR, sl cSpn (some ⟨0, 0, none⟩) tab0, sl cSpn (some ⟨1, 0, none⟩) tab1] ({r : VR // VOk 3 R.1.length r}) (fun x => .tuple #[.slice (va x.1.q) R.1.length x.1.k, iv R.2]) (fun x => ((vo cSp3 242 x.1 R.1) ++ ([]))) (fun x => []) := by
 refine con_of_J (n := 46) Tryz.func127 rfl (by kernel_rfl) rfl rfl [(0, ag [iv aC, .slice aQ aR.length aK, iv aU.row, iv aU.col, bv aV, iv aS, sv aT]), (1, ag [iv bC, .slice bQ bR.length bK, iv bU.row, iv bU.col, bv bV, iv bS, sv bT])] ⟨rfl, rfl, trivial⟩ fun X hX hr hD => ?_
 replace hR := (damage_Spans.eq_1 ..).symm.trans hR
 have := hrowsaRowsrs.1
 have := hrowsbRowsrs.1
 refine sr 4 rfl ?_
 refine it rfl (tri_box (cs := [iv aC, .slice aQ aR.length aK, iv aU.row, iv aU.col, bv aV, iv aS, sv aT]) rfl rfl rfl) fun b1 => ?_
 refine it rfl (tri_box (cs := [iv bC, .slice bQ bR.length bK, iv bU.row, iv bU.col, bv bV, iv bS, sv bT]) rfl rfl rfl) fun b2 => ?_
 refine ip 2 0 [] (by kernel_rfl) ?_
 refine ie ?_
 refine J_seq ?_
 refine sr 4 rfl ?_
 refine ix rfl (det_own_agg (us := [iv aC, .slice aQ aR.length aK, iv aU.row, iv aU.col, bv aV, iv aS, sv aT]) ty53 rfl rfl 1 rfl rfl rfl) ?_
 refine ix rfl (det_own_agg (us := [iv bC, .slice bQ bR.length bK, iv bU.row, iv bU.col, bv bV, iv bS, sv bT]) ty53 rfl rfl 0 rfl rfl rfl) ?_
 refine ixc rfl (det_call (damage_checked_c aC aR aU aV aS aT bC bR bU bV bS bT aQ aZ aK bQ bZ bK hrowsaRowsrs (by first | omega | (simp <;> omega) | (dsimp only; omega) | decide) (by first | omega | (simp <;> omega) | (dsimp only; omega) | decide) hrowsbRowsrs (by first | omega | (simp <;> omega) | (dsimp only; omega) | decide) (by first | omega | (simp <;> omega) | (dsimp only; omega) | decide) (by first | omega | (simp <;> omega)) (by first | omega | (simp <;> omega)) _ rfl) rfl rfl rfl rfl rfl Foll.refl) ?_
 refine ip 1 0 [(6, iv (damage_checked aC aR aU aV aS aT bC bR bU bV bS bT))] (by kernel_rfl) ?_
 refine ie ?_
 refine sr 2 rfl ?_
 refine ip 2 0 [(14, bv (!decide ((damage_checked aC aR aU aV aS aT bC bR bU bV bS bT) = 0)))] (by kernel_rfl) ?_
 refine ie ?_
 refine J_if rfl (fun h3 => ?_) (fun h3 => ?_)
 ·have h3p : ¬ (damage_checked aC aR aU aV aS aT bC bR bU bV bS bT) = 0 := by simpa using h3
  replace hR := bt hR h3
  refine sr 3 rfl ?_
  refine ip 3 0 [(4, .slice none 0 0), (5, iv (damage_checked aC aR aU aV aS aT bC bR bU bV bS bT))] (by kernel_rfl) ?_
  refine ie ?_
  refine J_ret ?_
  subst hR
  exact ends_ret rfl ⟨hr, hD⟩ (by simp [hD]) (res2 rfl (resV_tmp rfl) (resV_tmp rfl)) ⟨VR.nil, VOk.nil⟩ (by rfl) (mc [[bx b2 [iv bC, .slice bQ bR.length bK, iv bU.row, iv bU.col, bv bV, iv bS, sv bT] 53], [bx b1 [iv aC, .slice aQ aR.length aK, iv aU.row, iv aU.col, bv aV, iv aS, sv aT] 53], vo cSp3 242 VR.nil ([] : List Sp3)] [false, false, true] rfl (by first | rfl | (simp only [List.length_set] <;> rfl))) Foll.nil
 ·have h3p : ¬ (¬ (damage_checked aC aR aU aV aS aT bC bR bU bV bS bT) = 0) := by simpa using h3
  replace hR := bf hR h3
  have hchk := damage_checked_ok (by simpa using h3)
  have hra := hchk.1.2.2.2.2
  have hrb := hchk.2.1.2.2.2.2
  have hc3 := hchk.2.2
  refine J_skip ?_
  refine nx ?_
  refine sr 4 rfl ?_
  refine ix rfl (det_build (cs := [.slice none 0 0]) rfl rfl (by kernel_rfl)) ?_
  refine it rfl (tri_box (cs := [.slice none 0 0]) rfl rfl rfl) fun b4 => ?_
  refine it rfl (tri_alloc (cs := [.pointer none]) zero233 rfl) fun b5 => ?_
  refine it rfl (tri_store (us := [pt b4 0]) (cs' := [pt b4 0]) ty233 rfl rfl rfl 0 rfl rfl rfl rfl rfl rfl) fun _ => ?_
  refine ie ?_
  refine J_seq ?_
  refine sr 4 rfl ?_
  refine ip 1 3 [(18, pt b1 1)] (by kernel_rfl) ?_
  refine ix rfl (det_own_one (v := .slice aQ aR.length aK) ty49 rfl rfl 3 rfl rfl) ?_
  refine ip 2 0 [(20, iv (aR.length : Int)), (21, iv 0)] (by kernel_rfl) ?_
  refine ie ?_
  refine J_block ?_
  refine JQ_perm (permC [vo cSp3 242 VR.nil ([] : List Sp3), [bx b5 [pt b4 0] 233], [bx b4 [.slice none 0 0] 237], [bx b2 [iv bC, .slice bQ bR.length bK, iv bU.row, iv bU.col, bv bV, iv bS, sv bT] 53], [bx b1 [iv aC, .slice aQ aR.length aK, iv aU.row, iv aU.col, bv aV, iv aS, sv aT] 53]] [1, 2, 3, 4, 0] 5 rfl (by decide) rfl [[bx b5 [pt b4 0] 233], [bx b4 [.slice none 0 0] 237], [bx b2 [iv bC, .slice bQ bR.length bK, iv bU.row, iv bU.col, bv bV, iv bS, sv bT] 53], [bx b1 [iv aC, .slice aQ aR.length aK, iv aU.row, iv aU.col, bv aV, iv aS, sv aT] 53], vo cSp3 242 VR.nil ([] : List Sp3)] rfl (by first | rfl | simp)) ?_
  refine JLD3 (fun (t21 : Nat) (t17list : List Sp3) (t17listr : VR) => t21 ≤ aR.length ∧ damage_Spans_l0 bR (aR.drop t21) t21 t17list = R ∧ VOk 3 t17list.length t17listr ∧ t17list.length ≤ 80 * t21) (fun (t21 : Nat) (t17list : List Sp3) (t17listr : VR) => [(2, pt b1 0), (3, pt b2 0), (7, pt b5 0), (20, iv (aR.length : Int)), (21, iv (t21 : Int))]) (fun (t21 : Nat) (t17list : List Sp3) (t17listr : VR) => (bx b5 [pt b4 0] 233 :: bx b4 [.slice (va t17listr.q) t17list.length t17listr.k] 237 :: bx b2 [iv bC, .slice bQ bR.length bK, iv bU.row, iv bU.col, bv bV, iv bS, sv bT] 53 :: bx b1 [iv aC, .slice aQ aR.length aK, iv aU.row, iv aU.col, bv aV, iv aS, sv aT] 53 :: (vo cSp3 242 t17listr t17list) ++ ([]))) (fun (t21 : Nat) (t17list : List Sp3) (t17listr : VR) => [sl cSlc aQ aZ, rowsF cCel aZ aR, sl cSlc bQ bZ, rowsF cCel bZ bR, sl cSpn (some ⟨0, 0, none⟩) tab0, sl cSpn (some ⟨1, 0, none⟩) tab1]) (fun (t21 : Nat) (t17list : List Sp3) (t17listr : VR) => aR.length - t21) 0 ([] : List Sp3) VR.nil (show MarksOk X.D by rw [hD]; exact MarksOk.nil) ⟨(by omega), hR, VOk.nil, (by simp)⟩ ⟨rfl, rfl, rfl, rfl, (by first | rfl | (simp only [List.length_set]; rfl) | (simp; done) | (simp; omega)), trivial⟩ (mc [[bx b5 [pt b4 0] 233], [bx b4 [.slice none 0 0] 237], [bx b2 [iv bC, .slice bQ bR.length bK, iv bU.row, iv bU.col, bv bV, iv bS, sv bT] 53], [bx b1 [iv aC, .slice aQ aR.length aK, iv aU.row, iv aU.col, bv aV, iv aS, sv aT] 53], vo cSp3 242 VR.nil ([] : List Sp3)] [true, true, true, true, true] rfl (by first | rfl | (simp only [List.length_set] <;> rfl))) Foll.refl ?_
  rintro t21 t17list t17listr ds hds ⟨hm6, hR, hokt17listr, hb⟩
  have := VOk.le hokt17listr
  refine sr 1 rfl ?_
  refine ip 1 0 [(22, bv (decide ((t21 : Int) < (aR.length : Int))))] (by kernel_rfl) ?_
  refine ie ?_
  refine J_seq ?_
  refine J_if rfl (fun h7 => ?_) (fun h7 => ?_)
  ·have h7p : (t21 : Int) < (aR.length : Int) := by simpa using h7
   rw [dropc [] (show t21 < aR.length by omega)] at hR; replace hR := (damage_Spans_l0.eq_2 ..).symm.trans hR
   refine J_skip ?_
   refine nx ?_
   refine J_seq ?_
   refine J_block ?_
   refine sr 2 rfl ?_
   refine ip 2 0 [(8, iv (t21 : Int))] (by kernel_rfl) ?_
   refine ie ?_
   refine J_fact1 (rows_atD (k := t21) (d := (⟨none, 0, 0⟩ : Slc)) hrowsaRowsrs 1 rfl (by have := hrowsaRowsrs.1; omega)) ?_
   have := rows_cap hrowsaRowsrs (k := t21) (d := (⟨none, 0, 0⟩ : Slc)) (by have := hrowsaRowsrs.1; omega)
   refine J_fact1 (rows_atD (k := t21) (d := (⟨none, 0, 0⟩ : Slc)) hrowsbRowsrs 4 rfl (by have := hrowsbRowsrs.1; omega)) ?_
   have := rows_cap hrowsbRowsrs (k := t21) (d := (⟨none, 0, 0⟩ : Slc)) (by have := hrowsbRowsrs.1; omega)
   refine sh 12 [(12, [bx b5 [pt b4 0] 233]), (12, [bx b4 [.slice (va t17listr.q) t17list.length t17listr.k] 237]), (12, [bx b2 [iv bC, .slice bQ bR.length bK, iv bU.row, iv bU.col, bv bV, iv bS, sv bT] 53]), (12, [bx b1 [iv aC, .slice aQ aR.length aK, iv aU.row, iv aU.col, bv aV, iv aS, sv aT] 53]), (12, vo cSp3 242 t17listr t17list)] [sl cCel ((bZ.getD t21 (⟨none, 0, 0⟩ : Slc)).q) (bR.getD t21 []), sl cCel ((aZ.getD t21 (⟨none, 0, 0⟩ : Slc)).q) (aR.getD t21 []), sl cSlc aQ aZ, rowsF cCel aZ aR, sl cSlc bQ bZ, rowsF cCel bZ bR, sl cSpn (some ⟨0, 0, none⟩) tab0, sl cSpn (some ⟨1, 0, none⟩) tab1] (bx b5 [pt b4 0] 233 :: bx b4 [.slice (va t17listr.q) t17list.length t17listr.k] 237 :: bx b2 [iv bC, .slice bQ bR.length bK, iv bU.row, iv bU.col, bv bV, iv bS, sv bT] 53 :: bx b1 [iv aC, .slice aQ aR.length aK, iv aU.row, iv aU.col, bv aV, iv aS, sv aT] 53 :: (vo cSp3 242 t17listr t17list) ++ ([])) #[false, false, false, false, false, false, false, false, false, false, false, false] (by kernel_rfl) rfl (by kernel_rfl) (by kernel_rfl) (by kernel_rfl) (mc [[bx b5 [pt b4 0] 233], [bx b4 [.slice (va t17listr.q) t17list.length t17listr.k] 237], [bx b2 [iv bC, .slice bQ bR.length bK, iv bU.row, iv bU.col, bv bV, iv bS, sv bT] 53], [bx b1 [iv aC, .slice aQ aR.length aK, iv aU.row, iv aU.col, bv aV, iv aS, sv aT] 53], vo cSp3 242 t17listr t17list] [true, true, true, true, true] rfl (by first | rfl | (simp only [List.length_set] <;> rfl))) Foll.refl ?_
   refine hpur [0, 1, 3, 6, 8] 7 #[true, true, false, true, false, false, true, false, true, false, false, false] [(24, iv (t21 : Int)), (25, pt b1 1), (27, iv (t21 : Int)), (30, pt b2 1), (32, iv (t21 : Int))] (by kernel_rfl) ?_
   refine htak 2 (bx b5 [pt b4 0] 233 :: bx b4 [.slice (va t17listr.q) t17list.length t17listr.k] 237 :: bx b2 [iv bC, .slice bQ bR.length bK, iv bU.row, iv bU.col, bv bV, iv bS, sv bT] 53 :: bx b1 [iv aC, .slice aQ aR.length aK, iv aU.row, iv aU.col, bv aV, iv aS, sv aT] 53 :: (vo cSp3 242 t17listr t17list) ++ ([])) #[true, true, true, true, false, false, true, false, true, false, false, false] rfl rfl rfl (by kernel_rfl) (by kernel_rfl) (by kernel_rfl) (det_own_one (v := .slice aQ aR.length aK) ty49 rfl rfl 3 rfl rfl) ?_
   refine JH_base 2 rfl (by omega) fun a8 hq9 => ?_
   refine htak 4 (bx b5 [pt b4 0] 233 :: bx b4 [.slice (va t17listr.q) t17list.length t17listr.k] 237 :: bx b2 [iv bC, .slice bQ bR.length bK, iv bU.row, iv bU.col, bv bV, iv bS, sv bT] 53 :: bx b1 [iv aC, .slice aQ aR.length aK, iv aU.row, iv aU.col, bv aV, iv aS, sv aT] 53 :: (vo cSp3 242 t17listr t17list) ++ ([])) #[true, true, true, true, true, false, true, false, true, false, false, false] rfl rfl rfl (by kernel_rfl) (by kernel_rfl) (by kernel_rfl) (det_ixq slt49 rfl rfl hq9 rfl t21 rfl (by omega)) ?_
   refine htak 5 (bx b5 [pt b4 0] 233 :: bx b4 [.slice (va t17listr.q) t17list.length t17listr.k] 237 :: bx b2 [iv bC, .slice bQ bR.length bK, iv bU.row, iv bU.col, bv bV, iv bS, sv bT] 53 :: bx b1 [iv aC, .slice aQ aR.length aK, iv aU.row, iv aU.col, bv aV, iv aS, sv aT] 53 :: (vo cSp3 242 t17listr t17list) ++ ([])) #[true, true, true, true, true, true, true, false, true, false, false, false] rfl rfl rfl (by kernel_rfl) (by kernel_rfl) (by kernel_rfl) (det_conv (det_ld_one (v := .slice ((aZ.getD t21 (⟨none, 0, 0⟩ : Slc)).q) ((aZ.getD t21 (⟨none, 0, 0⟩ : Slc)).n) ((aZ.getD t21 (⟨none, 0, 0⟩ : Slc)).k)) (us := [.slice ((aZ.getD t21 (⟨none, 0, 0⟩ : Slc)).q) ((aZ.getD t21 (⟨none, 0, 0⟩ : Slc)).n) ((aZ.getD t21 (⟨none, 0, 0⟩ : Slc)).k)]) ty67 rfl rfl (at_slq (c := cSlc) (sz := 1) hq9 (fun _ => rfl) 2 rfl (gd (⟨none, 0, 0⟩ : Slc) (by have := hrowsaRowsrs.1; omega))) rfl) (rows_val hrowsaRowsrs (by have := hrowsaRowsrs.1; omega))) ?_
   refine htak 7 (bx b5 [pt b4 0] 233 :: bx b4 [.slice (va t17listr.q) t17list.length t17listr.k] 237 :: bx b2 [iv bC, .slice bQ bR.length bK, iv bU.row, iv bU.col, bv bV, iv bS, sv bT] 53 :: bx b1 [iv aC, .slice aQ aR.length aK, iv aU.row, iv aU.col, bv aV, iv aS, sv aT] 53 :: (vo cSp3 242 t17listr t17list) ++ ([])) #[true, true, true, true, true, true, true, true, true, false, false, false] rfl rfl rfl (by kernel_rfl) (by kernel_rfl) (by kernel_rfl) (det_own_one (v := .slice bQ bR.length bK) ty49 rfl rfl 2 rfl rfl) ?_
   refine JH_base 4 rfl (by omega) fun a10 hq11 => ?_
   refine htak 9 (bx b5 [pt b4 0] 233 :: bx b4 [.slice (va t17listr.q) t17list.length t17listr.k] 237 :: bx b2 [iv bC, .slice bQ bR.length bK, iv bU.row, iv bU.col, bv bV, iv bS, sv bT] 53 :: bx b1 [iv aC, .slice aQ aR.length aK, iv aU.row, iv aU.col, bv aV, iv aS, sv aT] 53 :: (vo cSp3 242 t17listr t17list) ++ ([])) #[true, true, true, true, true, true, true, true, true, true, false, false] rfl rfl rfl (by kernel_rfl) (by kernel_rfl) (by kernel_rfl) (det_ixq slt49 rfl rfl hq11 rfl t21 rfl (by omega)) ?_
   refine htak 10 (bx b5 [pt b4 0] 233 :: bx b4 [.slice (va t17listr.q) t17list.length t17listr.k] 237 :: bx b2 [iv bC, .slice bQ bR.length bK, iv bU.row, iv bU.col, bv bV, iv bS, sv bT] 53 :: bx b1 [iv aC, .slice aQ aR.length aK, iv aU.row, iv aU.col, bv aV, iv aS, sv aT] 53 :: (vo cSp3 242 t17listr t17list) ++ ([])) #[true, true, true, true, true, true, true, true, true, true, true, false] rfl rfl rfl (by kernel_rfl) (by kernel_rfl) (by kernel_rfl) (det_conv (det_ld_one (v := .slice ((bZ.getD t21 (⟨none, 0, 0⟩ : Slc)).q) ((bZ.getD t21 (⟨none, 0, 0⟩ : Slc)).n) ((bZ.getD t21 (⟨none, 0, 0⟩ : Slc)).k)) (us := [.slice ((bZ.getD t21 (⟨none, 0, 0⟩ : Slc)).q) ((bZ.getD t21 (⟨none, 0, 0⟩ : Slc)).n) ((bZ.getD t21 (⟨none, 0, 0⟩ : Slc)).k)]) ty67 rfl rfl (at_slq (c := cSlc) (sz := 1) hq11 (fun _ => rfl) 4 rfl (gd (⟨none, 0, 0⟩ : Slc) (by have := hrowsbRowsrs.1; omega))) rfl) (rows_val hrowsbRowsrs (by have := hrowsbRowsrs.1; omega))) ?_
   refine hone 11 (bx b5 [pt b4 0] 233 :: bx b4 [.slice (va t17listr.q) t17list.length t17listr.k] 237 :: bx b2 [iv bC, .slice bQ bR.length bK, iv bU.row, iv bU.col, bv bV, iv bS, sv bT] 53 :: bx b1 [iv aC, .slice aQ aR.length aK, iv aU.row, iv aU.col, bv aV, iv aS, sv aT] 53 :: (vo cSp3 242 t17listr t17list) ++ ([])) #[true, true, true, true, true, true, true, true, true, true, true, true] rfl rfl rfl (by kernel_rfl) (by kernel_rfl) (by kernel_rfl) (tri_callN (L2 := (bx b5 [pt b4 0] 233 :: bx b4 [.slice (va t17listr.q) t17list.length t17listr.k] 237 :: bx b2 [iv bC, .slice bQ bR.length bK, iv bU.row, iv bU.col, bv bV, iv bS, sv bT] 53 :: bx b1 [iv aC, .slice aQ aR.length aK, iv aU.row, iv aU.col, bv aV, iv aS, sv aT] 53 :: (vo cSp3 242 t17listr t17list) ++ ([]))) (damage_spans_c (t21 : Int) (aR.getD t21 []) (bR.getD t21 []) ((aZ.getD t21 (⟨none, 0, 0⟩ : Slc)).q) ((aZ.getD t21 (⟨none, 0, 0⟩ : Slc)).k) ((bZ.getD t21 (⟨none, 0, 0⟩ : Slc)).q) ((bZ.getD t21 (⟨none, 0, 0⟩ : Slc)).k) (by first | omega | (simp <;> omega) | (dsimp only; omega) | decide) (by first | omega | (simp <;> omega) | (dsimp only; omega) | decide) (by first | omega | (simp <;> omega) | (dsimp only; omega) | decide) (by first | omega | (simp <;> omega) | (dsimp only; omega) | decide) _ rfl) rfl rfl rfl rfl rfl (Foll.pick [1, 0] rfl) (List.Perm.refl _) (fun ⟨b12, ⟨⟨q13, k14⟩, hp15⟩, b18, ⟨⟨q19, k20⟩, hp21⟩, b24⟩ => (bx b5 [pt b4 0] 233 :: bx b4 [.slice (va t17listr.q) t17list.length t17listr.k] 237 :: bx b2 [iv bC, .slice bQ bR.length bK, iv bU.row, iv bU.col, bv bV, iv bS, sv bT] 53 :: bx b1 [iv aC, .slice aQ aR.length aK, iv aU.row, iv aU.col, bv aV, iv aS, sv aT] 53 :: (vo cSp3 242 t17listr t17list) ++ ([]))) (fun _ => by first | rfl | simp only [List.append_nil, List.cons_append, List.nil_append, List.append_assoc])) (fun ⟨b12, ⟨⟨q13, k14⟩, hp15⟩, b18, ⟨⟨q19, k20⟩, hp21⟩, b24⟩ => (mc [[bx b5 [pt b4 0] 233], [bx b4 [.slice (va t17listr.q) t17list.length t17listr.k] 237], [bx b2 [iv bC, .slice bQ bR.length bK, iv bU.row, iv bU.col, bv bV, iv bS, sv bT] 53], [bx b1 [iv aC, .slice aQ aR.length aK, iv aU.row, iv aU.col, bv aV, iv aS, sv aT] 53], vo cSp3 242 t17listr t17list] [true, true, true, true, true] rfl (by first | rfl | (simp only [List.length_set] <;> rfl)))) (fun ⟨b12, ⟨⟨q13, k14⟩, hp15⟩, b18, ⟨⟨q19, k20⟩, hp21⟩, b24⟩ => (Foll.pick [5, 6, 7, 8, 9, 10, 11, 12] rfl)) fun ⟨b12, ⟨⟨q13, k14⟩, hp15⟩, b18, ⟨⟨q19, k20⟩, hp21⟩, b24⟩ => ?_
   obtain ⟨hc16, hl17⟩ := hp15
   obtain ⟨hc22, hl23⟩ := hp21
   refine hend (by kernel_rfl) ?_
   refine J_block ?_
   refine J_env [(2, pt b1 0), (3, pt b2 0), (7, pt b5 0), (20, iv (aR.length : Int)), (21, iv (t21 : Int)), (35, .func (.func 214) #[] #[pa b12, pa b18, pa b24])] ⟨rfl, rfl, rfl, rfl, rfl, rfl, trivial⟩ ?_
   refine J_range (β := Sp3) (enc := (fun x => ag (cSp3 x))) (xs := (damage_spans_1 ((damage_spans (t21 : Int) (aR.getD t21 []) (bR.getD t21 [])).1) ((damage_spans (t21 : Int) (aR.getD t21 []) (bR.getD t21 [])).2.1) ((damage_spans (t21 : Int) (aR.getD t21 []) (bR.getD t21 [])).2.2))) (σ := List Sp3 × VR) hr rfl (damage_spans_1_c ((damage_spans (t21 : Int) (aR.getD t21 []) (bR.getD t21 [])).1) ((damage_spans (t21 : Int) (aR.getD t21 []) (bR.getD t21 [])).2.1) ((damage_spans (t21 : Int) (aR.getD t21 []) (bR.getD t21 [])).2.2) b12 q13 k14 b18 q19 k20 b24 (by first | omega | (simp <;> omega) | (dsimp only; omega) | decide) (by first | omega | (simp <;> omega) | (dsimp only; omega) | decide) (by first | omega | (simp <;> omega) | (dsimp only; omega) | decide) (by first | omega | (simp <;> omega) | (dsimp only; omega) | decide) (by first | omega | (simp only [damage_spans]; have := hra t21 (by omega); have := hrb t21 (by omega); omega)) (by first | omega | (simp only [damage_spans]; have := hra t21 (by omega); omega)) _ rfl) (Foll.pick [1, 0, 3, 2, 4] rfl) rfl rfl (fun rem x => damage_Spans_r3 t21 (damage_Spans_l0 bR (aR.drop (t21 + 1))) rem x.1 = R ∧ VOk 3 x.1.length x.2 ∧ x.1.length + rem.length ≤ 80 * (t21 + 1)) (fun _ _ => False) (fun x => (bx b5 [pt b4 0] 233 :: bx b4 [.slice (va x.2.q) x.1.length x.2.k] 237 :: bx b2 [iv bC, .slice bQ bR.length bK, iv bU.row, iv bU.col, bv bV, iv bS, sv bT] 53 :: bx b1 [iv aC, .slice aQ aR.length aK, iv aU.row, iv aU.col, bv aV, iv aS, sv aT] 53 :: (vo cSp3 242 x.2 x.1) ++ ([]))) (fun x => [at_ b12 [.slice q13 (((damage_spans (t21 : Int) (aR.getD t21 []) (bR.getD t21 [])).1).length) k14], sl cCel q13 ((damage_spans (t21 : Int) (aR.getD t21 []) (bR.getD t21 [])).1), at_ b18 [.slice q19 (((damage_spans (t21 : Int) (aR.getD t21 []) (bR.getD t21 [])).2.1).length) k20], sl cCel q19 ((damage_spans (t21 : Int) (aR.getD t21 []) (bR.getD t21 [])).2.1), at_ b24 [iv ((damage_spans (t21 : Int) (aR.getD t21 []) (bR.getD t21 [])).2.2)], sl cCel ((bZ.getD t21 (⟨none, 0, 0⟩ : Slc)).q) (bR.getD t21 []), sl cCel ((aZ.getD t21 (⟨none, 0, 0⟩ : Slc)).q) (aR.getD t21 []), sl cSlc aQ aZ, rowsF cCel aZ aR, sl cSlc bQ bZ, rowsF cCel bZ bR, sl cSpn (some ⟨0, 0, none⟩) tab0, sl cSpn (some ⟨1, 0, none⟩) tab1]) (t17list, t17listr) (by exact ⟨hR, hokt17listr, (by have h1 := damage_spans_1_len ((damage_spans (t21 : Int) (aR.getD t21 []) (bR.getD t21 [])).1) ((damage_spans (t21 : Int) (aR.getD t21 []) (bR.getD t21 [])).2.1) ((damage_spans (t21 : Int) (aR.getD t21 []) (bR.getD t21 [])).2.2); have h2 : (damage_spans (t21 : Int) (aR.getD t21 []) (bR.getD t21 [])).1.length = (aR.getD t21 []).length := rfl; have := hra t21 (by omega); dsimp only; omega)⟩) (mc [[bx b5 [pt b4 0] 233], [bx b4 [.slice (va t17listr.q) t17list.length t17listr.k] 237], [bx b2 [iv bC, .slice bQ bR.length bK, iv bU.row, iv bU.col, bv bV, iv bS, sv bT] 53], [bx b1 [iv aC, .slice aQ aR.length aK, iv aU.row, iv aU.col, bv aV, iv aS, sv aT] 53], vo cSp3 242 t17listr t17list] [true, true, true, true, true] rfl (by first | rfl | (simp only [List.length_set] <;> rfl))) Foll.refl ?_ ?_ (fun _ _ _ _ h => h.elim)
   ·rintro el rest ⟨blist, blistr⟩ hI Y Y' K' hY' hK
    try dsimp only at hI
    obtain ⟨hR, hokblistr, hb2⟩ := hI
    replace hR := (damage_Spans_r3.eq_2 ..).symm.trans hR
    have := VOk.le hokblistr
    refine J_region 2 rfl ?_
    refine it rfl (tri_alloc (cs := cSp3 Sp3.zero) zero242 rfl) fun b25 => ?_
    refine it rfl (tri_store (us := cSp3 el) (cs' := cSp3 el) ty242 rfl rfl rfl 0 rfl rfl rfl rfl rfl rfl) fun _ => ?_
    refine JI_end ?_
    refine hK _ _ _ ?_
    refine J_block ?_
    refine J_region 3 rfl ?_
    refine ix rfl (det_own_one (v := pt b4 0) ty233 rfl rfl 1 rfl rfl) ?_
    refine ix rfl (det_own_agg (us := cSp3 el) ty242 rfl rfl 0 rfl rfl rfl) ?_
    have hQ := bindVx hR; clear hR; obtain ⟨y0, hy0, hR⟩ := hQ
    refine it rfl (tri_callP (L2 := [bx b25 (cSp3 el) 242, bx b5 [pt b4 0] 233, bx b2 [iv bC, .slice bQ bR.length bK, iv bU.row, iv bU.col, bv bV, iv bS, sv bT] 53, bx b1 [iv aC, .slice aQ aR.length aK, iv aU.row, iv aU.col, bv aV, iv aS, sv aT] 53]) (damage_gatherer_adda_c blist el b4 blistr hokblistr (by first | omega | (simp <;> omega)) y0 hy0) rfl rfl rfl rfl rfl Foll.nil (permC [[bx b25 (cSp3 el) 242], [bx b5 [pt b4 0] 233], [bx b4 [.slice (va blistr.q) blist.length blistr.k] 237], [bx b2 [iv bC, .slice bQ bR.length bK, iv bU.row, iv bU.col, bv bV, iv bS, sv bT] 53], [bx b1 [iv aC, .slice aQ aR.length aK, iv aU.row, iv aU.col, bv aV, iv aS, sv aT] 53], vo cSp3 242 blistr blist] [2, 5, 0, 1, 3, 4] 6 rfl (by decide) rfl [[bx b4 [.slice (va blistr.q) blist.length blistr.k] 237], vo cSp3 242 blistr blist, [bx b25 (cSp3 el) 242], [bx b5 [pt b4 0] 233], [bx b2 [iv bC, .slice bQ bR.length bK, iv bU.row, iv bU.col, bv bV, iv bS, sv bT] 53], [bx b1 [iv aC, .slice aQ aR.length aK, iv aU.row, iv aU.col, bv aV, iv aS, sv aT] 53]] rfl (by first | rfl | simp only [List.flatten_cons, List.flatten_nil, List.append_nil, List.cons_append, List.nil_append, List.append_assoc])) (fun ⟨r26, hk27⟩ => (bx b4 [.slice (va r26.q) y0.length r26.k] 237 :: bx b25 (cSp3 el) 242 :: bx b5 [pt b4 0] 233 :: bx b2 [iv bC, .slice bQ bR.length bK, iv bU.row, iv bU.col, bv bV, iv bS, sv bT] 53 :: bx b1 [iv aC, .slice aQ aR.length aK, iv aU.row, iv aU.col, bv aV, iv aS, sv aT] 53 :: (vo cSp3 242 r26 y0) ++ ([]))) (fun ⟨r26, hk27⟩ => permC [[bx b4 [.slice (va r26.q) y0.length r26.k] 237], vo cSp3 242 r26 y0, [bx b25 (cSp3 el) 242], [bx b5 [pt b4 0] 233], [bx b2 [iv bC, .slice bQ bR.length bK, iv bU.row, iv bU.col, bv bV, iv bS, sv bT] 53], [bx b1 [iv aC, .slice aQ aR.length aK, iv aU.row, iv aU.col, bv aV, iv aS, sv aT] 53]] [0, 2, 3, 4, 5, 1] 6 rfl (by decide) (by first | rfl | simp only [List.flatten_cons, List.flatten_nil, List.append_nil, List.cons_append, List.nil_append, List.append_assoc]) [[bx b4 [.slice (va r26.q) y0.length r26.k] 237], [bx b25 (cSp3 el) 242], [bx b5 [pt b4 0] 233], [bx b2 [iv bC, .slice bQ bR.length bK, iv bU.row, iv bU.col, bv bV, iv bS, sv bT] 53], [bx b1 [iv aC, .slice aQ aR.length aK, iv aU.row, iv aU.col, bv aV, iv aS, sv aT] 53], vo cSp3 242 r26 y0] rfl (by first | rfl | simp only [List.flatten_cons, List.flatten_nil, List.append_nil, List.cons_append, List.nil_append, List.append_assoc]))) fun ⟨r26, hk27⟩ => ?_
    have := VOk.le hk27
    have := VOk.cap hk27
    have := damage_gatherer_adda_len blist el; try rw [hy0] at this
    refine JI_end ?_
    refine JQ_perm (permC [[bx b4 [.slice (va r26.q) y0.length r26.k] 237], [bx b25 (cSp3 el) 242], [bx b5 [pt b4 0] 233], [bx b2 [iv bC, .slice bQ bR.length bK, iv bU.row, iv bU.col, bv bV, iv bS, sv bT] 53], [bx b1 [iv aC, .slice aQ aR.length aK, iv aU.row, iv aU.col, bv aV, iv aS, sv aT] 53], vo cSp3 242 r26 y0] [2, 0, 3, 4, 5, 1] 6 rfl (by decide) rfl [[bx b5 [pt b4 0] 233], [bx b4 [.slice (va r26.q) y0.length r26.k] 237], [bx b2 [iv bC, .slice bQ bR.length bK, iv bU.row, iv bU.col, bv bV, iv bS, sv bT] 53], [bx b1 [iv aC, .slice aQ aR.length aK, iv aU.row, iv aU.col, bv aV, iv aS, sv aT] 53], vo cSp3 242 r26 y0, [bx b25 (cSp3 el) 242]] rfl (by first | rfl | simp)) ?_
    exact rp_normal (I := fun rem x => damage_Spans_r3 t21 (damage_Spans_l0 bR (aR.drop (t21 + 1))) rem x.1 = R ∧ VOk 3 x.1.length x.2 ∧ x.1.length + rem.length ≤ 80 * (t21 + 1)) (Jx := fun _ _ => False) (Lk := fun x => (bx b5 [pt b4 0] 233 :: bx b4 [.slice (va x.2.q) x.1.length x.2.k] 237 :: bx b2 [iv bC, .slice bQ bR.length bK, iv bU.row, iv bU.col, bv bV, iv bS, sv bT] 53 :: bx b1 [iv aC, .slice aQ aR.length aK, iv aU.row, iv aU.col, bv aV, iv aS, sv aT] 53 :: (vo cSp3 242 x.2 x.1) ++ ([]))) (Φk := fun x => [at_ b12 [.slice q13 (((damage_spans (t21 : Int) (aR.getD t21 []) (bR.getD t21 [])).1).length) k14], sl cCel q13 ((damage_spans (t21 : Int) (aR.getD t21 []) (bR.getD t21 [])).1), at_ b18 [.slice q19 (((damage_spans (t21 : Int) (aR.getD t21 []) (bR.getD t21 [])).2.1).length) k20], sl cCel q19 ((damage_spans (t21 : Int) (aR.getD t21 []) (bR.getD t21 [])).2.1), at_ b24 [iv ((damage_spans (t21 : Int) (aR.getD t21 []) (bR.getD t21 [])).2.2)], sl cCel ((bZ.getD t21 (⟨none, 0, 0⟩ : Slc)).q) (bR.getD t21 []), sl cCel ((aZ.getD t21 (⟨none, 0, 0⟩ : Slc)).q) (aR.getD t21 []), sl cSlc aQ aZ, rowsF cCel aZ aR, sl cSlc bQ bZ, rowsF cCel bZ bR, sl cSpn (some ⟨0, 0, none⟩) tab0, sl cSpn (some ⟨1, 0, none⟩) tab1]) (rest := rest) (y0, r26) (by exact ⟨hR, hk27, (by simp only [List.length_cons] at *; omega)⟩) (mc [[bx b5 [pt b4 0] 233], [bx b4 [.slice (va r26.q) y0.length r26.k] 237], [bx b2 [iv bC, .slice bQ bR.length bK, iv bU.row, iv bU.col, bv bV, iv bS, sv bT] 53], [bx b1 [iv aC, .slice aQ aR.length aK, iv aU.row, iv aU.col, bv aV, iv aS, sv aT] 53], vo cSp3 242 r26 y0, [bx b25 (cSp3 el) 242]] [true, true, true, true, true, false] rfl (by first | rfl | (simp only [List.length_set] <;> rfl))) Foll.refl
   ·rintro d28 ⟨blist, blistr⟩ hd28 hI
    try dsimp only at hI
    obtain ⟨hR, hokblistr, hb2⟩ := hI
    replace hR := (damage_Spans_r3.eq_1 ..).symm.trans hR
    have := VOk.le hokblistr
    refine nx ?_
    refine J_region 2 rfl ?_
    refine ix rfl (det_add64 rfl rfl rfl rfl (by omega)) ?_
    refine ip 1 0 [(21, iv ((t21 : Int) + 1))] (by kernel_rfl) ?_
    refine JI_end ?_
    exact againLD3 (z1 := t21) (z2 := t17list) (z3 := t17listr) rfl (MarksOk.cons hds hd28) (t21 + 1) blist blistr ⟨(by omega), hR, hokblistr, (by omega)⟩ (by (try dsimp only); omega) ⟨rfl, rfl, rfl, rfl, (by first | rfl | (simp only [List.length_set]; rfl) | (simp; done) | (simp; omega)), trivial⟩ (mc [[bx b5 [pt b4 0] 233], [bx b4 [.slice (va blistr.q) blist.length blistr.k] 237], [bx b2 [iv bC, .slice bQ bR.length bK, iv bU.row, iv bU.col, bv bV, iv bS, sv bT] 53], [bx b1 [iv aC, .slice aQ aR.length aK, iv aU.row, iv aU.col, bv aV, iv aS, sv aT] 53], vo cSp3 242 blistr blist] [true, true, true, true, true] rfl (by first | rfl | (simp only [List.length_set] <;> rfl))) (Foll.pick [7, 8, 9, 10, 11, 12] rfl)
  ·have h7p : ¬ ((t21 : Int) < (aR.length : Int)) := by simpa using h7
   rw [dropn h7p] at hR; replace hR := (damage_Spans_l0.eq_1 ..).symm.trans hR
   refine J_exit ?_
   refine nx ?_
   refine sr 7 rfl ?_
   refine ix rfl (det_own_one (v := pt b4 0) ty233 rfl rfl 0 rfl rfl) ?_
   refine ip 3 3 [(44, pt b4 0)] (by kernel_rfl) ?_
   refine ix rfl (det_own_one (v := .slice (va t17listr.q) t17list.length t17listr.k) ty174 rfl rfl 1 rfl rfl) ?_
   refine ip 2 0 [(4, .slice (va t17listr.q) t17list.length t17listr.k), (5, iv 0)] (by kernel_rfl) ?_
   refine ie ?_
   refine J_ret ?_
   subst hR
   exact ends_ret rfl ⟨hr, hD⟩ (by exact hds) (res2 rfl (resV_tmp rfl) (resV_tmp rfl)) ⟨t17listr, hokt17listr⟩ (by rfl) (mc [[bx b5 [pt b4 0] 233], [bx b4 [.slice (va t17listr.q) t17list.length t17listr.k] 237], [bx b2 [iv bC, .slice bQ bR.length bK, iv bU.row, iv bU.col, bv bV, iv bS, sv bT] 53], [bx b1 [iv aC, .slice aQ aR.length aK, iv aU.row, iv aU.col, bv aV, iv aS, sv aT] 53], vo cSp3 242 t17listr t17list] [false, false, false, false, true] rfl (by first | rfl | (simp only [List.length_set] <;> rfl))) Foll.nil

end Go.Proofs.YtinkdfnpmoljfaaGreatDoor

